import PyProof.Rows.All
import Wide.All
import OpenK.AllK
import Wide.FinOn
import KE.KStateDown
import Lean
import HandS.ForMost
import HandS.Defaults
import HandS.Head0
import HandS.Head1
import HandS.Head2
import HandS.HeadEnd
import HandS.HeadHook1
import HandS.HeadHook2
import HandS.Property
import HandS.Deep
import KE.KeyNested
import KE.KDictKeyed
import HandS.Zip
import KE.Datum
import KE.DatumOrd
import KE.DatumIndex
import KE.DataCmp
import KE.SortData
import HandS.TupAny
import HandS.IsInst
import KE.KDictPairs
import KE.KDictCopyH
import KE.KEqDict
import KE.GoesMore
import HandS.Conv
import HandS.ListItems
import HandS.DictComp
import PyProof.ReprRoads
import PyProof.ReprLen
import HandS.Ends
import HandS.TupSets
import HandS.SetFor
import HandS.Strs
import KE.KDictZip
import KE.KDictList
import HandS.Zip0
import KE.GoesEnum
import HandS.Style
import HandS.TryOnly
import PySem.Challenge.RW_setchooser_k64_whole_nets_spelled_out
set_option Elab.async false
set_option linter.all false
set_option maxRecDepth 100000
set_option maxHeartbeats 0
/-! ## K64Text -/
/-! The defs of the text by their places, their names by slots. Printed by gen_text.py. -/
namespace K64
open PySem L2
def topS (i : Nat) : Stmt := PySem.Challenge.pw_setchooser_k64_whole_nets_spelled_out.main.body.getD i (.Pass ⟨0, 0, 0, 0⟩)
abbrev s_is_integer : Stmt := topS 4
abbrev n_is_integer : List Str := ["value"]
theorem sc_is_integer : FnScope n_is_integer ["value"] (defScope s_is_integer) := ⟨rfl, rfl, rfl, by decide +kernel, rfl, by decide +kernel, by decide +kernel⟩
abbrev s_is_integer_within : Stmt := topS 5
abbrev n_is_integer_within : List Str := ["value", "low", "high"]
theorem sc_is_integer_within : FnScope n_is_integer_within ["value", "low", "high"] (defScope s_is_integer_within) := ⟨rfl, rfl, rfl, by decide +kernel, rfl, by decide +kernel, by decide +kernel⟩
abbrev s_is_name : Stmt := topS 6
abbrev n_is_name : List Str := ["value", "letter"]
theorem sc_is_name : FnScope n_is_name ["value"] (defScope s_is_name) := ⟨rfl, rfl, rfl, by decide +kernel, rfl, by decide +kernel, by decide +kernel⟩
abbrev s_are_ascending : Stmt := topS 7
abbrev n_are_ascending : List Str := ["values", "one", "other"]
theorem sc_are_ascending : FnScope n_are_ascending ["values"] (defScope s_are_ascending) := ⟨rfl, rfl, rfl, by decide +kernel, rfl, by decide +kernel, by decide +kernel⟩
abbrev s_is_row : Stmt := topS 8
abbrev n_is_row : List Str := ["value", "size", "places", "number"]
theorem sc_is_row : FnScope n_is_row ["value", "size", "places"] (defScope s_is_row) := ⟨rfl, rfl, rfl, by decide +kernel, rfl, by decide +kernel, by decide +kernel⟩
abbrev s_is_row_of : Stmt := topS 9
abbrev n_is_row_of : List Str := ["value", "size", "most"]
theorem sc_is_row_of : FnScope n_is_row_of ["value", "size", "most"] (defScope s_is_row_of) := ⟨rfl, rfl, rfl, by decide +kernel, rfl, by decide +kernel, by decide +kernel⟩
abbrev s_is_applied_of : Stmt := topS 20
abbrev n_is_applied_of : List Str := ["size", "value"]
theorem sc_is_applied_of : FnScope n_is_applied_of ["size", "value"] (defScope s_is_applied_of) := ⟨rfl, rfl, rfl, by decide +kernel, rfl, by decide +kernel, by decide +kernel⟩
abbrev s_are_applied_of : Stmt := topS 21
abbrev n_are_applied_of : List Str := ["size", "value", "tie"]
theorem sc_are_applied_of : FnScope n_are_applied_of ["size", "value"] (defScope s_are_applied_of) := ⟨rfl, rfl, rfl, by decide +kernel, rfl, by decide +kernel, by decide +kernel⟩
abbrev s_joined : Stmt := topS 22
abbrev n_joined : List Str := ["ties", "tie"]
theorem sc_joined : FnScope n_joined ["ties"] (defScope s_joined) := ⟨rfl, rfl, rfl, by decide +kernel, rfl, by decide +kernel, by decide +kernel⟩
abbrev s_Net_init : Stmt := inClass (topS 23) 0
abbrev n_Net_init : List Str := ["self", "size", "ties", "tie"]
theorem sc_Net_init : FnScope n_Net_init ["self", "size", "ties"] (defScope s_Net_init) := ⟨rfl, rfl, rfl, by decide +kernel, rfl, by decide +kernel, by decide +kernel⟩
abbrev s_Net_size : Stmt := inClass (topS 23) 1
abbrev n_Net_size : List Str := ["self"]
theorem sc_Net_size : FnScope n_Net_size ["self"] (defScope s_Net_size) := ⟨rfl, rfl, rfl, by decide +kernel, rfl, by decide +kernel, by decide +kernel⟩
abbrev s_Net_ties : Stmt := inClass (topS 23) 2
abbrev n_Net_ties : List Str := ["self"]
theorem sc_Net_ties : FnScope n_Net_ties ["self"] (defScope s_Net_ties) := ⟨rfl, rfl, rfl, by decide +kernel, rfl, by decide +kernel, by decide +kernel⟩
abbrev s_require_net : Stmt := topS 24
abbrev n_require_net : List Str := ["value"]
theorem sc_require_net : FnScope n_require_net ["value"] (defScope s_require_net) := ⟨rfl, rfl, rfl, by decide +kernel, rfl, by decide +kernel, by decide +kernel⟩
abbrev s_require_unknowns : Stmt := topS 26
abbrev n_require_unknowns : List Str := ["net", "value"]
theorem sc_require_unknowns : FnScope n_require_unknowns ["net", "value"] (defScope s_require_unknowns) := ⟨rfl, rfl, rfl, by decide +kernel, rfl, by decide +kernel, by decide +kernel⟩
abbrev s_copy_of : Stmt := topS 27
abbrev n_copy_of : List Str := ["other", "unknowns", "places", "first", "numbers", "unknown", "name", "some", "place"]
theorem sc_copy_of : FnScope n_copy_of ["other", "unknowns", "places", "first"] (defScope s_copy_of) := ⟨rfl, rfl, rfl, by decide +kernel, rfl, by decide +kernel, by decide +kernel⟩
abbrev s_spelled_out : Stmt := topS 28
abbrev n_spelled_out : List Str := ["net", "name", "other", "unknowns", "found", "replaced", "new", "number", "places", "ties", "tie"]
theorem sc_spelled_out : FnScope n_spelled_out ["net", "name", "other", "unknowns"] (defScope s_spelled_out) := ⟨rfl, rfl, rfl, by decide +kernel, rfl, by decide +kernel, by decide +kernel⟩
abbrev s_is_listed : Stmt := topS 30
abbrev n_is_listed : List Str := ["_law_book_here", "_law_known", "_law_name", "_law_some", "_law_at", "_law_value", "_law_row", "_law_place"]
theorem sc_is_listed : FnScope n_is_listed ["_law_book_here", "_law_known", "_law_name", "_law_some", "_law_at", "_law_value"] (defScope s_is_listed) := ⟨rfl, rfl, rfl, by decide +kernel, rfl, by decide +kernel, by decide +kernel⟩
abbrev s_strikes_of : Stmt := topS 31
abbrev n_strikes_of : List Str := ["_law_book_here", "_law_net_here", "_law_known", "_law_found", "_law_turn", "_law_fresh", "_law_name", "_law_some", "_law_at", "_law_unknown", "_law_value"]
theorem sc_strikes_of : FnScope n_strikes_of ["_law_book_here", "_law_net_here"] (defScope s_strikes_of) := ⟨rfl, rfl, rfl, by decide +kernel, rfl, by decide +kernel, by decide +kernel⟩
abbrev s_lists_of : Stmt := topS 32
abbrev n_lists_of : List Str := ["_law_book_here", "_law_net_here", "_law_gone", "_law_found", "_law_unknown", "_law_value"]
theorem sc_lists_of : FnScope n_lists_of ["_law_book_here", "_law_net_here"] (defScope s_lists_of) := ⟨rfl, rfl, rfl, by decide +kernel, rfl, by decide +kernel, by decide +kernel⟩
abbrev s_fillings_of : Stmt := topS 33
abbrev n_fillings_of : List Str := ["_law_book_here", "_law_net_here", "_law_found", "_law_unknown", "_law_ties", "_law_longer", "_law_values", "_law_value", "_law_later", "_law_name", "_law_some", "_law_one"]
theorem sc_fillings_of : FnScope n_fillings_of ["_law_book_here", "_law_net_here"] (defScope s_fillings_of) := ⟨rfl, rfl, rfl, by decide +kernel, rfl, by decide +kernel, by decide +kernel⟩
abbrev s_shadows_of : Stmt := topS 34
abbrev n_shadows_of : List Str := ["_law_book_here", "_law_name", "_law_places", "_law_rows"]
theorem sc_shadows_of : FnScope n_shadows_of ["_law_book_here", "_law_name"] (defScope s_shadows_of) := ⟨rfl, rfl, rfl, by decide +kernel, rfl, by decide +kernel, by decide +kernel⟩
abbrev s_set_net_of : Stmt := topS 35
abbrev n_set_net_of : List Str := ["_law_book_here", "_law_sets_told", "_law_found", "_law_name", "_law_one", "_law_some"]
theorem sc_set_net_of : FnScope n_set_net_of ["_law_book_here"] (defScope s_set_net_of) := ⟨rfl, rfl, rfl, by decide +kernel, rfl, by decide +kernel, by decide +kernel⟩
abbrev s_sack : Stmt := topS 36
abbrev n_sack : List Str := ["_law_script", "_law_at", "_law_cell", "_law_great", "_law_mixed"]
theorem sc_sack : FnScope n_sack ["_law_script", "_law_at"] (defScope s_sack) := ⟨rfl, rfl, rfl, by decide +kernel, rfl, by decide +kernel, by decide +kernel⟩
abbrev s_grab : Stmt := topS 37
abbrev n_grab : List Str := ["_law_sack_here", "_law_total", "_law_found", "_law_one", "_law_two"]
theorem sc_grab : FnScope n_grab ["_law_sack_here", "_law_total"] (defScope s_grab) := ⟨rfl, rfl, rfl, by decide +kernel, rfl, by decide +kernel, by decide +kernel⟩
abbrev s_one_of : Stmt := topS 38
abbrev n_one_of : List Str := ["_law_sack_here", "_law_items"]
theorem sc_one_of : FnScope n_one_of ["_law_sack_here", "_law_items"] (defScope s_one_of) := ⟨rfl, rfl, rfl, by decide +kernel, rfl, by decide +kernel, by decide +kernel⟩
abbrev s_shuffled : Stmt := topS 39
abbrev n_shuffled : List Str := ["_law_sack_here", "_law_items", "_law_waits", "_law_turn"]
theorem sc_shuffled : FnScope n_shuffled ["_law_sack_here", "_law_items"] (defScope s_shuffled) := ⟨rfl, rfl, rfl, by decide +kernel, rfl, by decide +kernel, by decide +kernel⟩
abbrev s_sets_of : Stmt := topS 40
abbrev n_sets_of : List Str := ["_law_size", "_law_found", "_law_value", "_law_some"]
theorem sc_sets_of : FnScope n_sets_of ["_law_size"] (defScope s_sets_of) := ⟨rfl, rfl, rfl, by decide +kernel, rfl, by decide +kernel, by decide +kernel⟩
abbrev s_all_rows : Stmt := topS 41
abbrev n_all_rows : List Str := ["_law_size", "_law_places", "_law_found", "_law_turn", "_law_longer", "_law_row", "_law_value"]
theorem sc_all_rows : FnScope n_all_rows ["_law_size", "_law_places"] (defScope s_all_rows) := ⟨rfl, rfl, rfl, by decide +kernel, rfl, by decide +kernel, by decide +kernel⟩
abbrev s_rows_any : Stmt := topS 42
abbrev n_rows_any : List Str := ["_law_sack_here", "_law_size", "_law_places", "_law_every", "_law_lot", "_law_found", "_law_row"]
theorem sc_rows_any : FnScope n_rows_any ["_law_sack_here", "_law_size", "_law_places"] (defScope s_rows_any) := ⟨rfl, rfl, rfl, by decide +kernel, rfl, by decide +kernel, by decide +kernel⟩
abbrev s_places_of : Stmt := topS 43
abbrev n_places_of : List Str := ["_law_rows", "_law_at", "_law_row"]
theorem sc_places_of : FnScope n_places_of ["_law_rows", "_law_at"] (defScope s_places_of) := ⟨rfl, rfl, rfl, by decide +kernel, rfl, by decide +kernel, by decide +kernel⟩
abbrev s_shadow_rows : Stmt := topS 44
abbrev n_shadow_rows : List Str := ["_law_size", "_law_places", "_law_rows", "_law_found", "_law_sets_told", "_law_some", "_law_row", "_law_at"]
theorem sc_shadow_rows : FnScope n_shadow_rows ["_law_size", "_law_places", "_law_rows"] (defScope s_shadow_rows) := ⟨rfl, rfl, rfl, by decide +kernel, rfl, by decide +kernel, by decide +kernel⟩
abbrev s_all_tuples : Stmt := topS 45
abbrev n_all_tuples : List Str := ["_law_items", "_law_places", "_law_found", "_law_turn", "_law_longer", "_law_some", "_law_item"]
theorem sc_all_tuples : FnScope n_all_tuples ["_law_items", "_law_places"] (defScope s_all_tuples) := ⟨rfl, rfl, rfl, by decide +kernel, rfl, by decide +kernel, by decide +kernel⟩
abbrev s_closed_rows : Stmt := topS 46
abbrev n_closed_rows : List Str := ["_law_size", "_law_places", "_law_rows", "_law_plain", "_law_found", "_law_turn", "_law_later", "_law_sets_told", "_law_fresh", "_law_row", "_law_some"]
theorem sc_closed_rows : FnScope n_closed_rows ["_law_size", "_law_places", "_law_rows", "_law_plain"] (defScope s_closed_rows) := ⟨rfl, rfl, rfl, by decide +kernel, rfl, by decide +kernel, by decide +kernel⟩
abbrev s_any_chooser : Stmt := topS 47
abbrev n_any_chooser : List Str := ["_law_sack_here", "_law_size", "_law_lot", "_law_order", "_law_found", "_law_some", "_law_value"]
theorem sc_any_chooser : FnScope n_any_chooser ["_law_sack_here", "_law_size"] (defScope s_any_chooser) := ⟨rfl, rfl, rfl, by decide +kernel, rfl, by decide +kernel, by decide +kernel⟩
abbrev s_book : Stmt := topS 48
abbrev n_book : List Str := ["_law_sack_here", "_law_size", "_law_most", "_law_names", "_law_found", "_law_plain", "_law_lot", "_law_name", "_law_places", "_law_rows", "_law_few"]
theorem sc_book : FnScope n_book ["_law_sack_here", "_law_size", "_law_most"] (defScope s_book) := ⟨rfl, rfl, rfl, by decide +kernel, rfl, by decide +kernel, by decide +kernel⟩
abbrev s_net : Stmt := topS 49
abbrev n_net : List Str := ["_law_sack_here", "_law_book_here", "_law_most", "_law_ties_most", "_law_size", "_law_found", "_law_names", "_law_turn", "_law_name", "_law_some", "_law_at"]
theorem sc_net : FnScope n_net ["_law_sack_here", "_law_book_here", "_law_most", "_law_ties_most"] (defScope s_net) := ⟨rfl, rfl, rfl, by decide +kernel, rfl, by decide +kernel, by decide +kernel⟩
abbrev s_made_net : Stmt := topS 50
abbrev n_made_net : List Str := ["_law_net_here"]
theorem sc_made_net : FnScope n_made_net ["_law_net_here"] (defScope s_made_net) := ⟨rfl, rfl, rfl, by decide +kernel, rfl, by decide +kernel, by decide +kernel⟩
abbrev s_is_net : Stmt := topS 51
abbrev n_is_net : List Str := ["_law_made", "_law_plain"]
theorem sc_is_net : FnScope n_is_net ["_law_made", "_law_plain"] (defScope s_is_net) := ⟨rfl, rfl, rfl, by decide +kernel, rfl, by decide +kernel, by decide +kernel⟩
abbrev s_with : Stmt := topS 52
abbrev n_with : List Str := ["_law_record", "_law_word", "_law_value", "_law_found"]
theorem sc_with : FnScope n_with ["_law_record", "_law_word", "_law_value"] (defScope s_with) := ⟨rfl, rfl, rfl, by decide +kernel, rfl, by decide +kernel, by decide +kernel⟩
abbrev s_told_rows : Stmt := topS 53
abbrev n_told_rows : List Str := ["_law_book_here", "_law_net_here", "_law_places", "_law_one", "_law_place"]
theorem sc_told_rows : FnScope n_told_rows ["_law_book_here", "_law_net_here", "_law_places"] (defScope s_told_rows) := ⟨rfl, rfl, rfl, by decide +kernel, rfl, by decide +kernel, by decide +kernel⟩
abbrev s_is_decided_one : Stmt := topS 54
abbrev n_is_decided_one : List Str := ["_law_book_here", "_law_net_here", "_law_waits", "_law_groups", "_law_values", "_law_value", "_law_later", "_law_bad", "_law_unknown", "_law_one", "_law_name", "_law_some"]
theorem sc_is_decided_one : FnScope n_is_decided_one ["_law_book_here"] (defScope s_is_decided_one) := ⟨rfl, rfl, rfl, by decide +kernel, rfl, by decide +kernel, by decide +kernel⟩
abbrev s_fits_book : Stmt := topS 55
abbrev n_fits_book : List Str := ["_law_book_here", "_law_net_here", "_law_name", "_law_some"]
theorem sc_fits_book : FnScope n_fits_book ["_law_book_here", "_law_net_here"] (defScope s_fits_book) := ⟨rfl, rfl, rfl, by decide +kernel, rfl, by decide +kernel, by decide +kernel⟩
abbrev s_spelled : Stmt := topS 56
abbrev n_spelled : List Str := ["_law_net_here", "_law_name", "_law_other", "_law_places", "_law_found", "_law_size", "_law_tie", "_law_some", "_law_numbers", "_law_unknown", "_law_one", "_law_told_at", "_law_place"]
theorem sc_spelled : FnScope n_spelled ["_law_net_here", "_law_name", "_law_other", "_law_places"] (defScope s_spelled) := ⟨rfl, rfl, rfl, by decide +kernel, rfl, by decide +kernel, by decide +kernel⟩
abbrev s_case : Stmt := topS 57
abbrev n_case : List Str := ["_law_sack_here", "_law_book_here", "_law_other", "_law_places", "_law_more", "_law_net_here", "_law_found", "_law_turn", "_law_at"]
theorem sc_case : FnScope n_case ["_law_sack_here"] (defScope s_case) := ⟨rfl, rfl, rfl, by decide +kernel, rfl, by decide +kernel, by decide +kernel⟩
abbrev s_cell_right : Stmt := topS 58
abbrev n_cell_right : List Str := ["_law_sack_here", "_law_book_here", "_law_other", "_law_places", "_law_book_there", "_law_net_here", "_law_due", "_law_made", "_law_wide", "_law_short", "_law_left", "_law_left_there", "_law_unknown", "_law_value", "_law_one"]
theorem sc_cell_right : FnScope n_cell_right ["_law_sack_here"] (defScope s_cell_right) := ⟨rfl, rfl, rfl, by decide +kernel, rfl, by decide +kernel, by decide +kernel⟩
abbrev s_law : Stmt := topS 59
abbrev n_law : List Str := ["_law_script", "_law_at", "_law_sack_here", "_law_chain", "_law_made", "_law_due"]
theorem sc_law : FnScope n_law ["_law_script"] (defScope s_law) := ⟨rfl, rfl, rfl, by decide +kernel, rfl, by decide +kernel, by decide +kernel⟩
end K64

/-! ## K64Head -/
/-! The top by one kernel run; what it leaves, by names. Printed by gen_head.py. -/
namespace K64
open PySem PySem.Spec PyProof.Rows L2
/-- a def by where it stands -/
structure Dd where
  ad : PySem.W.Frag → Addr
  name : Str
  qual : Str
  st : Stmt
abbrev DdV : Type := Option (Str × Str × Arguments × FuncBody × Scope × Addr × List (Str × Addr) × Value × Addr)
def Dd.look (d : Dd) (K : PySem.W.Frag) : DdV := match K.lookup (d.ad K) with
  | some ⟨_, _, .func fd, _⟩ => some (fd.name, fd.qualname, fd.params, fd.body, fd.scope, fd.globals, fd.closure, fd.defaults, fd.builtins)
  | _ => none
def Dd.want (d : Dd) : DdV := some (d.name, d.qual, defArgs d.st, .stmts (defBody d.st), defScope d.st, mainGlobals, [], .none, builtinsNs)
def Dd.ok (d : Dd) (K : PySem.W.Frag) : Bool := PySem.W.keepIn K (.ref (d.ad K)) && match K.lookup (d.ad K) with
  | some ⟨_, _, .func fd, _⟩ => PySem.W.codeIn K fd.code d.qual
  | _ => false
theorem Dd.fun_ {K : PySem.W.Frag} {d : Dd} (e : d.look K = d.want) (c : d.ok K = true) : ∃ fd, Fun K d.name d.qual d.st (d.ad K) fd := by
  unfold Dd.ok at c
  rw [Bool.and_eq_true] at c
  obtain ⟨ck, cc⟩ := c
  unfold Dd.look at e
  cases hq : K.lookup (d.ad K) with
  | none => rw [hq] at cc; cases cc
  | some o =>
    obtain ⟨oc, od, dt, osl⟩ := o
    rw [hq] at cc e
    cases dt with
    | func fd =>
      obtain ⟨m1, m2, m3, m4, m5, m6, m7, m8, m9, m10, m11, m12, m13, m14, m15⟩ := fd
      have e2 : (some (m1, m2, m3, m4, m5, m6, m7, m8, m15) : DdV) = some (d.name, d.qual, defArgs d.st, .stmts (defBody d.st), defScope d.st, mainGlobals, [], .none, builtinsNs) := e
      simp only [Option.some.injEq, Prod.mk.injEq] at e2
      obtain ⟨r1, r2, r3, r4, r5, r6, r7, r8, r9⟩ := e2
      subst r1 r2 r3 r4 r5 r6 r7 r8 r9
      exact ⟨_, ⟨oc, od, m9, m10, m11, m12, m13, m14, osl, rfl, hq, cc⟩, ck⟩
    | _ => cases cc
/-- a class's name f, if an object; a property's getter -/
def atC (C f : Str) (K : PySem.W.Frag) : Addr := He.ma K (He.ga K C) f
def getterA (p : Addr) (K : PySem.W.Frag) : Addr := match PySem.W.recIn K p "property" with
  | some (.ref g :: _) => g
  | _ => 0
def propB (K : PySem.W.Frag) (C f : Str) : Bool :=
  decide (PySem.W.findIn K (.ref (He.ga K C)) f = some (some (.ref (atC C f K)))) && (decide (PySem.W.specialIn K (.ref (atC C f K)) "__get__" = some (some (.builtin "property.__get__"))) &&
  (decide (PySem.W.takesIn K (.ref (atC C f K)) = some true) && (match PySem.W.recIn K (atC C f K) "property" with
    | some (.ref _ :: _) => true
    | _ => false)))
theorem propB_ok {K : PySem.W.Frag} {C f : Str} (h : propB K C f = true) : PropOf K (He.ga K C) f (atC C f K) (getterA (atC C f K) K) := by
  unfold propB at h
  simp only [Bool.and_eq_true, decide_eq_true_eq] at h
  obtain ⟨a, b, c, d⟩ := h
  refine ⟨a, b, c, ?_⟩
  unfold getterA
  split at d
  · rename_i g r q
    rw [q]
    exact ⟨r, rfl⟩
  · cases d
/-- what isinstance asks of an instance of the class -/
def instB (K : PySem.W.Frag) (C : Str) : Bool :=
  decide (PySem.W.findIn K (.ref (He.ga K C)) "__class__" = some (some (.builtin "object.__class__"))) && (decide (PySem.W.specialIn K (.builtin "object.__class__") "__get__" = some (some (.builtin "getset_descriptor.__get__"))) &&
  (decide (PySem.W.takesIn K (.builtin "object.__class__") = some true) && decide (PySem.W.mroIn K (He.ga K C) (.type "object") = some true)))
abbrev Al2 : Type := Bool × List DdV
def obs2 (fa : List He.Fa) (mo : PySem.W.Frag → Bool) (fn : List Dd) (K : PySem.W.Frag) : Al2 := ((fa.all fun f => f.ok K) && (mo K && fn.all fun d => d.ok K), fn.map fun d => d.look K)
def val2 (fn : List Dd) : Al2 := (true, fn.map Dd.want)
def Says2 (fa : List He.Fa) (mo : PySem.W.Frag → Bool) (fn : List Dd) (K : PySem.W.Frag) : Prop := obs2 fa mo fn K = val2 fn
def obsG2 (n : Nat) (fa : List He.Fa) (mo : PySem.W.Frag → Bool) (fn : List Dd) (g : Addr → Option Obj) : Al2 := obs2 fa mo fn (He.frG g (He.asD g n))
def hook2 (n : Nat) (fa : List He.Fa) (mo : PySem.W.Frag → Bool) (fn : List Dd) : PySem.W.Hook where
  α := Al2
  obs := fun s => obsG2 n fa mo fn s.heap.get?
  val := fun _ => val2 fn
  says := fun _ h => ∃ K : PySem.W.Frag, K.In h ∧ Says2 fa mo fn K
  of := fun _ _ e => ⟨_, He.frG_in, e⟩
  keeps := fun _ _ _ ⟨K, hK, c⟩ k => ⟨K, PySem.W.Frag.In.keeps hK k, c⟩
theorem obsG2_eq {n : Nat} {fa : List He.Fa} {mo : PySem.W.Frag → Bool} {fn : List Dd} {g : Addr → Option Obj} {s : Shared} (h : ∀ a, g a = s.heap.get? a) : obsG2 n fa mo fn g = (hook2 n fa mo fn).obs s := by
  have e : g = s.heap.get? := funext h
  rw [e] <;> rfl
section
variable {fa : List He.Fa} {mo : PySem.W.Frag → Bool} {fn : List Dd} {K : PySem.W.Frag}
theorem Says2.fact (c : Says2 fa mo fn K) {f : He.Fa} (h : f ∈ fa) : f.ok K = true := by
  have c0 : ((fa.all fun f => f.ok K) && (mo K && fn.all fun d => d.ok K)) = true := congrArg (fun z : Al2 => z.1) c
  rw [Bool.and_eq_true] at c0
  exact List.all_eq_true.mp c0.1 f h
theorem Says2.more (c : Says2 fa mo fn K) : mo K = true := by
  have c0 : ((fa.all fun f => f.ok K) && (mo K && fn.all fun d => d.ok K)) = true := congrArg (fun z : Al2 => z.1) c
  rw [Bool.and_eq_true, Bool.and_eq_true] at c0
  exact c0.2.1
theorem Says2.def_ (c : Says2 fa mo fn K) (i : Nat) {d : Dd} (h : fn[i]? = some d) : ∃ fd, Fun K d.name d.qual d.st (d.ad K) fd := by
  have c0 : ((fa.all fun f => f.ok K) && (mo K && fn.all fun d => d.ok K)) = true := congrArg (fun z : Al2 => z.1) c
  rw [Bool.and_eq_true, Bool.and_eq_true] at c0
  have e : fn.map (fun d => d.look K) = fn.map Dd.want := congrArg (fun z : Al2 => z.2) c
  have e2 : (fn.map fun d => d.look K)[i]? = (fn.map Dd.want)[i]? := by rw [e]
  rw [List.getElem?_map, List.getElem?_map, h] at e2
  exact Dd.fun_ (Option.some.inj e2) (List.all_eq_true.mp c0.2.2 d (List.mem_of_getElem? h))
end
/-! ### this program -/
def d_is_integer : Dd := ⟨fun K => He.ga K "is_integer", "is_integer", "is_integer", s_is_integer⟩
def d_is_integer_within : Dd := ⟨fun K => He.ga K "is_integer_within", "is_integer_within", "is_integer_within", s_is_integer_within⟩
def d_is_name : Dd := ⟨fun K => He.ga K "is_name", "is_name", "is_name", s_is_name⟩
def d_are_ascending : Dd := ⟨fun K => He.ga K "are_ascending", "are_ascending", "are_ascending", s_are_ascending⟩
def d_is_row : Dd := ⟨fun K => He.ga K "is_row", "is_row", "is_row", s_is_row⟩
def d_is_row_of : Dd := ⟨fun K => He.ga K "is_row_of", "is_row_of", "is_row_of", s_is_row_of⟩
def d_is_applied_of : Dd := ⟨fun K => He.ga K "is_applied_of", "is_applied_of", "is_applied_of", s_is_applied_of⟩
def d_are_applied_of : Dd := ⟨fun K => He.ga K "are_applied_of", "are_applied_of", "are_applied_of", s_are_applied_of⟩
def d_joined : Dd := ⟨fun K => He.ga K "joined", "joined", "joined", s_joined⟩
def d_require_net : Dd := ⟨fun K => He.ga K "require_net", "require_net", "require_net", s_require_net⟩
def d_require_unknowns : Dd := ⟨fun K => He.ga K "require_unknowns", "require_unknowns", "require_unknowns", s_require_unknowns⟩
def d_copy_of : Dd := ⟨fun K => He.ga K "copy_of", "copy_of", "copy_of", s_copy_of⟩
def d_spelled_out : Dd := ⟨fun K => He.ga K "spelled_out", "spelled_out", "spelled_out", s_spelled_out⟩
def d_is_listed : Dd := ⟨fun K => He.ga K "_law_is_listed", "_law_is_listed", "_law_is_listed", s_is_listed⟩
def d_strikes_of : Dd := ⟨fun K => He.ga K "_law_strikes_of", "_law_strikes_of", "_law_strikes_of", s_strikes_of⟩
def d_lists_of : Dd := ⟨fun K => He.ga K "_law_lists_of", "_law_lists_of", "_law_lists_of", s_lists_of⟩
def d_fillings_of : Dd := ⟨fun K => He.ga K "_law_fillings_of", "_law_fillings_of", "_law_fillings_of", s_fillings_of⟩
def d_shadows_of : Dd := ⟨fun K => He.ga K "_law_shadows_of", "_law_shadows_of", "_law_shadows_of", s_shadows_of⟩
def d_set_net_of : Dd := ⟨fun K => He.ga K "_law_set_net_of", "_law_set_net_of", "_law_set_net_of", s_set_net_of⟩
def d_sack : Dd := ⟨fun K => He.ga K "_law_sack", "_law_sack", "_law_sack", s_sack⟩
def d_grab : Dd := ⟨fun K => He.ga K "_law_grab", "_law_grab", "_law_grab", s_grab⟩
def d_one_of : Dd := ⟨fun K => He.ga K "_law_one_of", "_law_one_of", "_law_one_of", s_one_of⟩
def d_shuffled : Dd := ⟨fun K => He.ga K "_law_shuffled", "_law_shuffled", "_law_shuffled", s_shuffled⟩
def d_sets_of : Dd := ⟨fun K => He.ga K "_law_sets_of", "_law_sets_of", "_law_sets_of", s_sets_of⟩
def d_all_rows : Dd := ⟨fun K => He.ga K "_law_all_rows", "_law_all_rows", "_law_all_rows", s_all_rows⟩
def d_rows_any : Dd := ⟨fun K => He.ga K "_law_rows_any", "_law_rows_any", "_law_rows_any", s_rows_any⟩
def d_places_of : Dd := ⟨fun K => He.ga K "_law_places_of", "_law_places_of", "_law_places_of", s_places_of⟩
def d_shadow_rows : Dd := ⟨fun K => He.ga K "_law_shadow_rows", "_law_shadow_rows", "_law_shadow_rows", s_shadow_rows⟩
def d_all_tuples : Dd := ⟨fun K => He.ga K "_law_all_tuples", "_law_all_tuples", "_law_all_tuples", s_all_tuples⟩
def d_closed_rows : Dd := ⟨fun K => He.ga K "_law_closed_rows", "_law_closed_rows", "_law_closed_rows", s_closed_rows⟩
def d_any_chooser : Dd := ⟨fun K => He.ga K "_law_any_chooser", "_law_any_chooser", "_law_any_chooser", s_any_chooser⟩
def d_book : Dd := ⟨fun K => He.ga K "_law_book", "_law_book", "_law_book", s_book⟩
def d_net : Dd := ⟨fun K => He.ga K "_law_net", "_law_net", "_law_net", s_net⟩
def d_made_net : Dd := ⟨fun K => He.ga K "_law_made_net", "_law_made_net", "_law_made_net", s_made_net⟩
def d_is_net : Dd := ⟨fun K => He.ga K "_law_is_net", "_law_is_net", "_law_is_net", s_is_net⟩
def d_with : Dd := ⟨fun K => He.ga K "_law_with", "_law_with", "_law_with", s_with⟩
def d_told_rows : Dd := ⟨fun K => He.ga K "_law_told_rows", "_law_told_rows", "_law_told_rows", s_told_rows⟩
def d_is_decided_one : Dd := ⟨fun K => He.ga K "_law_is_decided_one", "_law_is_decided_one", "_law_is_decided_one", s_is_decided_one⟩
def d_fits_book : Dd := ⟨fun K => He.ga K "_law_fits_book", "_law_fits_book", "_law_fits_book", s_fits_book⟩
def d_spelled : Dd := ⟨fun K => He.ga K "_law_spelled", "_law_spelled", "_law_spelled", s_spelled⟩
def d_case : Dd := ⟨fun K => He.ga K "_law_case", "_law_case", "_law_case", s_case⟩
def d_cell_right : Dd := ⟨fun K => He.ga K "_law_cell_right", "_law_cell_right", "_law_cell_right", s_cell_right⟩
def d_law : Dd := ⟨fun K => He.ga K "law", "law", "law", s_law⟩
def d_Net_init : Dd := ⟨fun K => atC "Net" "__init__" K, "__init__", "Net.__init__", s_Net_init⟩
def d_Net_size : Dd := ⟨fun K => getterA (atC "Net" "size" K) K, "size", "Net.size", s_Net_size⟩
def d_Net_ties : Dd := ⟨fun K => getterA (atC "Net" "ties" K) K, "ties", "Net.ties", s_Net_ties⟩
def fn1 : List Dd := [d_is_integer, d_is_integer_within, d_is_name, d_are_ascending, d_is_row, d_is_row_of, d_is_applied_of, d_are_applied_of, d_joined, d_require_net, d_require_unknowns, d_copy_of, d_spelled_out, d_is_listed, d_strikes_of, d_lists_of, d_fillings_of, d_shadows_of, d_set_net_of, d_sack, d_grab, d_one_of, d_shuffled]
def fn2 : List Dd := [d_sets_of, d_all_rows, d_rows_any, d_places_of, d_shadow_rows, d_all_tuples, d_closed_rows, d_any_chooser, d_book, d_net, d_made_net, d_is_net, d_with, d_told_rows, d_is_decided_one, d_fits_book, d_spelled, d_case, d_cell_right, d_law, d_Net_init, d_Net_size, d_Net_ties]
def fnAll : List Dd := fn1 ++ fn2
def fa1 : List He.Fa := [.glo "is_integer", .glo "is_integer_within", .glo "is_name", .glo "are_ascending", .glo "is_row", .glo "is_row_of", .glo "is_applied_of", .glo "are_applied_of", .glo "joined", .glo "require_net", .glo "require_unknowns", .glo "copy_of", .glo "spelled_out", .glo "_law_is_listed", .glo "_law_strikes_of", .glo "_law_lists_of", .glo "_law_fillings_of", .glo "_law_shadows_of", .glo "_law_set_net_of", .glo "_law_sack", .glo "_law_grab", .glo "_law_one_of", .glo "_law_shuffled", .glo "_law_sets_of", .glo "_law_all_rows"]
def fa2 : List He.Fa := [.glo "_law_rows_any", .glo "_law_places_of", .glo "_law_shadow_rows", .glo "_law_all_tuples", .glo "_law_closed_rows", .glo "_law_any_chooser", .glo "_law_book", .glo "_law_net", .glo "_law_made_net", .glo "_law_is_net", .glo "_law_with", .glo "_law_told_rows", .glo "_law_is_decided_one", .glo "_law_fits_book", .glo "_law_spelled", .glo "_law_case", .glo "_law_cell_right", .glo "law", .glo "Net"]
def fa3 : List He.Fa := [.free "isinstance", .free "len", .free "all", .free "zip", .free "tuple", .free "sorted", .free "list", .free "set", .free "dict", .free "range", .free "enumerate", .free "max", .free "min", .free "int", .free "abs", .free "repr", .free "bool", .free "str"]
def fa4 : List He.Fa := [.int "MAX_LETTERS" (8), .int "GREATEST" (10 ^ 60 - 1), .int "MAX_PLACES" (3), .int "MAX_UNKNOWNS" (60), .int "MAX_APPLIED" (30000), .cls "Net", .mkr "Net", .noat "Net" "own_size", .noat "Net" "own_ties", .noat "Net" "own_known"]
def faAll : List He.Fa := fa1 ++ (fa2 ++ (fa3 ++ fa4))
def moAll (K : PySem.W.Frag) : Bool := instB K "Net" && (propB K "Net" "size" && propB K "Net" "ties")
abbrev R : PySem.W.OpenRow := PySem.W.OpenLaw.row PySem.Challenge.rw_setchooser_k64_whole_nets_spelled_out
abbrev hk : PySem.W.Hook := hook2 5 faAll moAll fnAll
def ob (s : PySem.W.SharedT) : Al2 := obsG2 5 faAll moAll fnAll (HandSHeadRun.getT s)
theorem ob_eq (s : PySem.W.SharedT) : ob s = hk.obs s.abs := obsG2_eq (HandSHeadRun.getT_eq s)
def loose1 : List Str := ["_wall", "MAX_LETTERS", "GREATEST", "is_integer", "is_integer_within", "is_name", "are_ascending", "is_row", "is_row_of", "ChooserError", "InvalidName", "InvalidNet", "InvalidOperation", "InvalidNumber", "MAX_PLACES", "MAX_UNKNOWNS", "MAX_APPLIED", "is_applied_of", "are_applied_of", "joined", "Net", "require_net", "require_unknowns", "copy_of", "spelled_out", "_law_is_listed", "_law_strikes_of", "_law_lists_of", "_law_fillings_of", "_law_shadows_of"]
def loose2 : List Str := ["_law_set_net_of", "_law_sack", "_law_grab", "_law_one_of", "_law_shuffled", "_law_sets_of", "_law_all_rows", "_law_rows_any", "_law_places_of", "_law_shadow_rows", "_law_all_tuples", "_law_closed_rows", "_law_any_chooser", "_law_book", "_law_net", "_law_made_net", "_law_is_net", "_law_with", "_law_told_rows", "_law_is_decided_one", "_law_fits_book", "_law_spelled", "_law_case", "_law_cell_right"]
def loose : List Str := loose1 ++ loose2
theorem run (w : World) : HandSHeadRun.RunEq R (PySem.W.view R.prog [59]) hk ob 12000 loose w := by
  intro os
  kernel_rfl
end K64

/-! ## K64Data -/
/-! The data layer: what a value reads as in the frozen part of the abstract heap; dicts whose keys are nested tuples. -/
namespace K64
open PySem PySem.Spec PyProof.Rows L2

/-! ### dicts with nested keys -/
abbrev NEs : Type := List (NestedKey × Addr × V)
/-- one entry as the model has it -/
def EntRel (p : NestedKey × Addr × V) (q : NestedKey × Addr × Value) : Prop := p.1 = q.1 ∧ p.2.1 = q.2.1 ∧ RelV p.2.2 q.2.2
/-- the object at a is a dict of these entries (nothing is said of the keys' own tuples) -/
def NDict (w : World) (a : Addr) (es : NEs) (h : Heap) : Prop :=
  es.length ≤ sizeLine ∧ (a == sysModules) = false ∧ ∃ xs : List (NestedKey × Addr × Value), Paired EntRel es xs ∧ (xs.map (·.1)).Nodup ∧
    ∃ o ents ep, h.get? a = some o ∧ o.ExactDict ∧ o.data = .dict ents ep ∧ ents.toList = xs.map fun x => ⟨x.1.hash w, .ref x.2.1, x.2.2⟩
/-- what is tracked of such a dict -/
def NDO (w : World) (a : Addr) (es : NEs) : HO := .ext fun h => NDict w a es h
theorem ndict_keep {w : World} {a : Addr} {es : NEs} {h h' : Heap} (x : NDict w a es h) (k : ∀ o, h.get? a = some o → h'.get? a = some o) : NDict w a es h' := by
  obtain ⟨z, hd, xs, r, nd, o, ents, ep, ho, q⟩ := x
  exact ⟨z, hd, xs, r, nd, o, ents, ep, k o ho, q⟩
theorem ndo_ok {P : Program} {w : World} {H : Hp} {h : Heap} {a : Addr} {es : NEs} (x : NDict w a es h) : ObjOk P w H h a (NDO w a es) := by
  refine ⟨x, ?_, fun h1 h2 y k => ndict_keep y k⟩
  obtain ⟨_, _, _, _, _, o, _, _, ho, _⟩ := x
  exact ⟨o, ho⟩

/-! ### data -/
def keyD : Key → PyData
  | .inl i => .int i
  | .inr x => .str x
mutual
/-- the data as a key -/
def keyOf : PyData → Option NestedKey
  | .int i => some (.num i)
  | .str x => some (.text x)
  | .tuple ds => (keysOf ds).map .tup
  | _ => none
def keysOf : List PyData → Option (List NestedKey)
  | [] => some []
  | d :: ds => (keyOf d).bind fun k => (keysOf ds).map fun ks => k :: ks
end
/-- where the class of nets stands -/
def netC (K : PySem.W.Frag) : Addr := He.ga K "Net"
/-- a net as data: no other dict has such keys -/
abbrev netD (n : Int) (ties : List PyData) : PyData := .dict [(.none, .tuple [.int n, .tuple ties])]
/-- the script as data -/
abbrev scrD (ns : List Int) : PyData := .dict [(.none, .list (ns.map PyData.int))]
theorem sql_mono {K : PySem.W.Frag} {G G' : Hp} (e : Same G G') {a : Addr} {xs : List V} (h : SqL K G a xs) : SqL K G' a xs := by
  rcases h with (h | ⟨o, h⟩) | h
  · exact .inl (.inl (e _ _ h))
  · exact .inl (.inr ⟨o, e _ _ h⟩)
  · exact .inr h
mutual
/-- the value v reads as the data d in G -/
inductive Dx (w : World) (K : PySem.W.Frag) (G : Hp) : V → PyData → Prop
  | non : Dx w K G .non .none
  | bl (b : Bool) : Dx w K G (.bl b) (.bool b)
  | int (i : Int) : Dx w K G (.int i) (.int i)
  | str (x : Str) : Dx w K G (.str x) (.str x)
  | lst {a : Addr} {xs : List V} {ds : List PyData} : G a = some (.lst xs) → DxAll w K G xs ds → Dx w K G (.ref a) (.list ds)
  | tup {a : Addr} {xs : List V} {ds : List PyData} : G a = some (.tup xs) → DxAll w K G xs ds → Dx w K G (.ref a) (.tuple ds)
  | dk {a : Addr} {kvs : List (Key × V)} {ds : List (PyData × PyData)} : G a = some (.dK kvs) → DxK w K G kvs ds → ds ≠ [] → Dx w K G (.ref a) (.dict ds)
  | dn {a : Addr} {es : NEs} {ds : List (PyData × PyData)} : G a = some (NDO w a es) → DxN w K G es ds → Dx w K G (.ref a) (.dict ds)
  | net {a dx : Addr} {v k : V} {n : Int} {ties : List PyData} : G a = some (.ins (netC K) dx [("own_size", .int n), ("own_ties", v), ("own_known", k)]) → Dx w K G v (.tuple ties) → Dx w K G (.ref a) (netD n ties)
  | scr {a : Addr} {ns : List Int} : SqL K G a (ns.map V.int) → Dx w K G (.ref a) (scrD ns)
inductive DxAll (w : World) (K : PySem.W.Frag) (G : Hp) : List V → List PyData → Prop
  | nil : DxAll w K G [] []
  | cons {v : V} {vs : List V} {d : PyData} {ds : List PyData} : Dx w K G v d → DxAll w K G vs ds → DxAll w K G (v :: vs) (d :: ds)
inductive DxK (w : World) (K : PySem.W.Frag) (G : Hp) : List (Key × V) → List (PyData × PyData) → Prop
  | nil : DxK w K G [] []
  | cons {k : Key} {v : V} {vs : List (Key × V)} {d : PyData} {ds : List (PyData × PyData)} : Dx w K G v d → DxK w K G vs ds → DxK w K G ((k, v) :: vs) ((keyD k, d) :: ds)
inductive DxN (w : World) (K : PySem.W.Frag) (G : Hp) : NEs → List (PyData × PyData) → Prop
  | nil : DxN w K G [] []
  | cons {k : NestedKey} {b : Addr} {v : V} {es : NEs} {kd d : PyData} {ds : List (PyData × PyData)} : Dx w K G (.ref b) kd → keyOf kd = some k → k.depth ≤ 8 → Dx w K G v d → DxN w K G es ds → DxN w K G ((k, b, v) :: es) ((kd, d) :: ds)
end
section
variable {w : World} {K : PySem.W.Frag} {G G' : Hp}
mutual
theorem Dx.mono (e : Same G G') : ∀ {v : V} {d : PyData}, Dx w K G v d → Dx w K G' v d
  | _, _, .non => .non
  | _, _, .bl b => .bl b
  | _, _, .int i => .int i
  | _, _, .str x => .str x
  | _, _, .lst h r => .lst (e _ _ h) (DxAll.mono e r)
  | _, _, .tup h r => .tup (e _ _ h) (DxAll.mono e r)
  | _, _, .dk h r n => .dk (e _ _ h) (DxK.mono e r) n
  | _, _, .dn h r => .dn (e _ _ h) (DxN.mono e r)
  | _, _, .net h r => .net (e _ _ h) (Dx.mono e r)
  | _, _, .scr h => .scr (sql_mono e h)
theorem DxAll.mono (e : Same G G') : ∀ {v : List V} {d : List PyData}, DxAll w K G v d → DxAll w K G' v d
  | _, _, .nil => .nil
  | _, _, .cons h r => .cons (Dx.mono e h) (DxAll.mono e r)
theorem DxK.mono (e : Same G G') : ∀ {v : List (Key × V)} {d : List (PyData × PyData)}, DxK w K G v d → DxK w K G' v d
  | _, _, .nil => .nil
  | _, _, .cons h r => .cons (Dx.mono e h) (DxK.mono e r)
theorem DxN.mono (e : Same G G') : ∀ {v : NEs} {d : List (PyData × PyData)}, DxN w K G v d → DxN w K G' v d
  | _, _, .nil => .nil
  | _, _, .cons a b c h r => .cons (Dx.mono e a) b c (Dx.mono e h) (DxN.mono e r)
end
theorem DxAll.length : ∀ {v : List V} {d : List PyData}, DxAll w K G v d → v.length = d.length
  | _, _, .nil => rfl
  | _, _, .cons _ r => by rw [List.length_cons, List.length_cons, DxAll.length r]
theorem DxAll.get : ∀ {vs : List V} {ds : List PyData} {i : Nat} {d : PyData}, DxAll w K G vs ds → ds[i]? = some d → ∃ v, vs[i]? = some v ∧ Dx w K G v d
  | _, _, _, _, .nil, h => by simp at h
  | _, _, 0, _, .cons a r, h => ⟨_, rfl, by
    have e := Option.some.inj h
    rw [← e]
    exact a⟩
  | _, _, i + 1, d, .cons a r, h => DxAll.get (i := i) r h
theorem DxAll.getV : ∀ {vs : List V} {ds : List PyData} {i : Nat} {v : V}, DxAll w K G vs ds → vs[i]? = some v → ∃ d, ds[i]? = some d ∧ Dx w K G v d
  | _, _, _, _, .nil, h => by simp at h
  | _, _, 0, _, .cons a r, h => ⟨_, rfl, by
    have e := Option.some.inj h
    rw [← e]
    exact a⟩
  | _, _, i + 1, d, .cons a r, h => DxAll.getV (i := i) r h
theorem DxAll.append : ∀ {vs ws : List V} {ds es : List PyData}, DxAll w K G vs ds → DxAll w K G ws es → DxAll w K G (vs ++ ws) (ds ++ es)
  | _, _, _, _, .nil, s => s
  | _, _, _, _, .cons a r, s => .cons a (DxAll.append r s)
theorem DxAll.take : ∀ {vs : List V} {ds : List PyData} (n : Nat), DxAll w K G vs ds → DxAll w K G (vs.take n) (ds.take n)
  | _, _, 0, _ => .nil
  | _, _, _ + 1, .nil => .nil
  | _, _, n + 1, .cons a r => .cons a (DxAll.take n r)
theorem DxAll.drop : ∀ {vs : List V} {ds : List PyData} (n : Nat), DxAll w K G vs ds → DxAll w K G (vs.drop n) (ds.drop n)
  | _, _, 0, r => r
  | _, _, _ + 1, .nil => .nil
  | _, _, n + 1, .cons _ r => DxAll.drop n r
theorem DxAll.ofEach : ∀ {vs : List V} {ds : List PyData}, vs.length = ds.length → (∀ (i : Nat) v d, vs[i]? = some v → ds[i]? = some d → Dx w K G v d) → DxAll w K G vs ds
  | [], [], _, _ => .nil
  | [], _ :: _, h, _ => by simp at h
  | _ :: _, [], h, _ => by simp at h
  | v :: vs, d :: ds, h, f => .cons (f 0 v d rfl rfl) (DxAll.ofEach (by simpa using h) fun i x y a b => f (i + 1) x y a b)
mutual
/-- no dict within -/
def flat : PyData → Bool
  | .dict _ => false
  | .list ds => flats ds
  | .tuple ds => flats ds
  | _ => true
def flats : List PyData → Bool
  | [] => true
  | d :: ds => flat d && flats ds
end
mutual
theorem Dx.dp : ∀ {v : V} {d : PyData}, Dx w K G v d → flat d = true → Dp K G v d
  | _, _, .non, _ => .non
  | _, _, .bl b, _ => .bl b
  | _, _, .int i, _ => .int i
  | _, _, .str x, _ => .str x
  | _, _, .lst h r, f => .lst (.inl (.inl h)) (DxAll.dp r (by simpa [flat] using f))
  | _, _, .tup h r, f => .tup (.inl (.inl h)) (DxAll.dp r (by simpa [flat] using f))
  | _, _, .dk h r _, f => by simp [flat] at f
  | _, _, .dn h r, f => by simp [flat] at f
  | _, _, .net h r, f => by simp [flat] at f
  | _, _, .scr h, f => by simp [flat] at f
theorem DxAll.dp : ∀ {v : List V} {d : List PyData}, DxAll w K G v d → flats d = true → DpAll K G v d
  | _, _, .nil, _ => .nil
  | _, _, .cons h r, f => by
    simp only [flats, Bool.and_eq_true] at f
    exact .cons (Dx.dp h f.1) (DxAll.dp r f.2)
end
mutual
theorem Dx.dpS (e : Same G G') : ∀ {v : V} {d : PyData}, Dx w K G v d → flat d = true → Dp K G' v d
  | _, _, .non, _ => .non
  | _, _, .bl b, _ => .bl b
  | _, _, .int i, _ => .int i
  | _, _, .str x, _ => .str x
  | _, _, .lst h r, f => .lst (.inl (.inl (e _ _ h))) (DxAll.dpS e r (by simpa [flat] using f))
  | _, _, .tup h r, f => .tup (.inl (.inl (e _ _ h))) (DxAll.dpS e r (by simpa [flat] using f))
  | _, _, .dk h r _, f => by simp [flat] at f
  | _, _, .dn h r, f => by simp [flat] at f
  | _, _, .net h r, f => by simp [flat] at f
  | _, _, .scr h, f => by simp [flat] at f
theorem DxAll.dpS (e : Same G G') : ∀ {v : List V} {d : List PyData}, DxAll w K G v d → flats d = true → DpAll K G' v d
  | _, _, .nil, _ => .nil
  | _, _, .cons h r, f => by
    simp only [flats, Bool.and_eq_true] at f
    exact .cons (Dx.dpS e h f.1) (DxAll.dpS e r f.2)
end
end
/-! ### keys -/
section
variable {X : Cx} {pins : List (Addr × Obj)} {σ : L2.St} {H : Hp} {s : Shared}
mutual
theorem Dx.key (I : Inv X pins σ H s) : ∀ {v : V} {d : PyData} {k : NestedKey} {u : Value}, Dx X.w X.K H v d → keyOf d = some k → RelV v u → NestedIs s.heap k u
  | _, _, _, _, .non, e, _ => by simp [keyOf] at e
  | _, _, _, _, .bl b, e, _ => by simp [keyOf] at e
  | _, _, _, _, .int i, e, r => by
    simp only [keyOf, Option.some.injEq] at e
    subst e
    obtain ⟨t, rfl⟩ := r
    exact .int i t
  | _, _, _, _, .str x, e, r => by
    simp only [keyOf, Option.some.injEq] at e
    subst e
    obtain ⟨t, rfl⟩ := r
    exact .text x t
  | _, _, _, _, .lst h q, e, _ => by simp [keyOf] at e
  | _, _, _, _, .tup h q, e, r => by
    simp only [keyOf] at e
    obtain ⟨ks, hk, rfl⟩ := Option.map_eq_some_iff.mp e
    cases r
    obtain ⟨its, rv, ⟨o, ho, hc, n, hd⟩, _⟩ := I.tuple (.inl (.inl h))
    exact .tup ho hc hd (DxAll.key I q hk rv)
  | _, _, _, _, .dk h q _, e, _ => by simp [keyOf] at e
  | _, _, _, _, .dn h q, e, _ => by simp [keyOf] at e
  | _, _, _, _, .net h q, e, _ => by simp [keyOf] at e
  | _, _, _, _, .scr h, e, _ => by simp [keyOf] at e
theorem DxAll.key (I : Inv X pins σ H s) : ∀ {v : List V} {d : List PyData} {k : List NestedKey} {u : List Value}, DxAll X.w X.K H v d → keysOf d = some k → Vals v u → NestedAll s.heap k u
  | _, _, _, _, .nil, e, r => by
    simp only [keysOf, Option.some.injEq] at e
    subst e
    cases r
    exact .nil
  | _, _, _, _, .cons h q, e, r => by
    simp only [keysOf] at e
    obtain ⟨k, hk, e⟩ := Option.bind_eq_some_iff.mp e
    obtain ⟨ks, hks, rfl⟩ := Option.map_eq_some_iff.mp e
    cases r with
    | cons r rr => exact .cons (Dx.key I h hk r) (DxAll.key I q hks rr)
end
end
end K64

/-! ## K64Dict -/
/-! Dicts with nested keys: new, stored, looked up. -/
namespace K64
open PySem PySem.Spec PyProof.Rows L2

def lookN (es : NEs) (k : NestedKey) : Option (Addr × V) := (es.find? fun e => decide (e.1 = k)).map (·.2)
def setN (k : NestedKey) (v : V) (e : NestedKey × Addr × V) : NestedKey × Addr × V := if e.1 = k then (e.1, e.2.1, v) else e
def putN (es : NEs) (k : NestedKey) (b : Addr) (v : V) : NEs := if (lookN es k).isSome then es.map (setN k v) else es ++ [(k, b, v)]
theorem putN_len (es : NEs) (k : NestedKey) (b : Addr) (v : V) : (putN es k b v).length ≤ es.length + 1 := by
  unfold putN
  split
  · rw [List.length_map]; omega
  · rw [List.length_append]; exact Nat.le_refl _
theorem ent_look {k : NestedKey} : ∀ {es : NEs} {xs : List (NestedKey × Addr × Value)}, Paired EntRel es xs →
    (lookN es k = none ∧ atKey xs k = none) ∨ ∃ b v u, lookN es k = some (b, v) ∧ atKey xs k = some (b, u) ∧ RelV v u
  | _, _, .nil => .inl ⟨rfl, rfl⟩
  | _, _, @Paired.cons _ _ _ p q ps qs h t => by
    obtain ⟨h1, h2, h3⟩ := h
    by_cases e : p.1 = k
    · refine .inr ⟨p.2.1, p.2.2, q.2.2, ?_, ?_, h3⟩
      · unfold lookN
        rw [List.find?_cons_of_pos (by simpa using e)]
        rfl
      · unfold atKey
        rw [List.find?_cons_of_pos (by rw [← h1]; simpa using e), h2]
        rfl
    · have a1 : lookN (p :: ps) k = lookN ps k := by
        unfold lookN
        rw [List.find?_cons_of_neg (by simpa using e)]
      have a2 : atKey (q :: qs) k = atKey qs k := by
        unfold atKey
        rw [List.find?_cons_of_neg (by rw [← h1]; simpa using e)]
      rw [a1, a2]
      exact ent_look t
theorem ent_map {k : NestedKey} {v : V} {u : Value} (r : RelV v u) : ∀ {es : NEs} {xs : List (NestedKey × Addr × Value)}, Paired EntRel es xs → Paired EntRel (es.map (setN k v)) (xs.map (putAt k u))
  | _, _, .nil => .nil
  | _, _, @Paired.cons _ _ _ p q ps qs h t => by
    refine .cons ?_ (ent_map r t)
    obtain ⟨h1, h2, h3⟩ := h
    unfold setN putAt
    by_cases e : p.1 = k
    · rw [if_pos e, if_pos (h1 ▸ e)]
      exact ⟨h1, h2, r⟩
    · rw [if_neg e, if_neg (h1 ▸ e)]
      exact ⟨h1, h2, h3⟩
theorem ent_snoc {p : NestedKey × Addr × V} {q : NestedKey × Addr × Value} (r : EntRel p q) : ∀ {es : NEs} {xs : List (NestedKey × Addr × Value)}, Paired EntRel es xs → Paired EntRel (es ++ [p]) (xs ++ [q])
  | _, _, .nil => .cons r .nil
  | _, _, .cons h t => .cons h (ent_snoc r t)
theorem ent_put {k : NestedKey} {b : Addr} {v : V} {u : Value} (r : RelV v u) {es : NEs} {xs : List (NestedKey × Addr × Value)} (h : Paired EntRel es xs) : Paired EntRel (putN es k b v) (storedH xs k b u) := by
  unfold putN storedH
  rcases ent_look (k := k) h with ⟨e1, e2⟩ | ⟨c, y, z, e1, e2, _⟩
  · rw [e1, e2]
    exact ent_snoc ⟨rfl, rfl, r⟩ h
  · rw [e1, e2]
    exact ent_map r h
theorem ent_len {es : NEs} {xs : List (NestedKey × Addr × Value)} (h : Paired EntRel es xs) : es.length = xs.length := Paired.length h
theorem stored_nodup {xs : List (NestedKey × Addr × Value)} {k : NestedKey} {b : Addr} {u : Value} (h : (xs.map (·.1)).Nodup) : ((storedH xs k b u).map (·.1)).Nodup := by
  unfold storedH
  split
  · rw [keys_map_putAt]; exact h
  · rename_i hn
    rw [List.map_append, List.nodup_append]
    refine ⟨h, by simp, ?_⟩
    intro a ha c hc e
    simp only [List.map_cons, List.map_nil, List.mem_singleton] at hc
    subst hc e
    obtain ⟨x, hx, rfl⟩ := List.mem_map.mp ha
    have : (atKey xs x.1).isSome = true := by
      unfold atKey
      rw [Option.isSome_map, List.find?_isSome]
      exact ⟨x, hx, by simp⟩
    exact hn this

section
variable {X : Cx} {pins : List (Addr × Obj)} {σ : L2.St} {H : Hp} {s : Shared} {a : Addr} {es : NEs} {A : Around} {E : Value → Shared → Prop}
/-- the keys of the entries are in the heap -/
def KeysIn (w : World) (K : PySem.W.Frag) (H : Hp) (es : NEs) : Prop := ∀ e ∈ es, ∃ d, Dx w K H (.ref e.2.1) d ∧ keyOf d = some e.1 ∧ e.1.depth ≤ 8
theorem KeysIn.mono {w : World} {K : PySem.W.Frag} {H H' : Hp} {es : NEs} (h : KeysIn w K H es) (e : Same H H') : KeysIn w K H' es := fun x hx => by
  obtain ⟨d, q, r⟩ := h x hx
  exact ⟨d, q.mono e, r⟩
theorem KeysIn.nil {w : World} {K : PySem.W.Frag} {H : Hp} : KeysIn w K H [] := fun _ h => nomatch h
theorem KeysIn.put {w : World} {K : PySem.W.Frag} {H : Hp} {es : NEs} {k : NestedKey} {b : Addr} {v : V} {d : PyData} (h : KeysIn w K H es) (hd : Dx w K H (.ref b) d) (hk : keyOf d = some k) (h8 : k.depth ≤ 8) : KeysIn w K H (putN es k b v) := fun e he => by
  unfold putN at he
  split at he
  · obtain ⟨x, hx, rfl⟩ := List.mem_map.mp he
    obtain ⟨d', q, r1, r2⟩ := h x hx
    unfold setN
    split
    · exact ⟨d', q, r1, r2⟩
    · exact ⟨d', q, r1, r2⟩
  · rcases List.mem_append.mp he with he | he
    · exact h e he
    · have e1 : e = (k, b, v) := by simpa using he
      subst e1
      exact ⟨d, hd, hk, h8⟩
theorem nd_of (I : Inv X pins σ H s) (h : Rd H a (NDO X.w a es)) : NDict X.w a es s.heap := (h.ok I.hok).1
theorem nk_of (I : Inv X pins σ H s) {b : Addr} {d : PyData} {k : NestedKey} (hd : Dx X.w X.K H (.ref b) d) (hk : keyOf d = some k) (h8 : k.depth ≤ 8) : (nestedKind X.prog X.w).is s.heap k b := ⟨Dx.key I hd hk rfl, h8⟩
theorem nd_dict (I : Inv X pins σ H s) (h : Rd H a (NDO X.w a es)) (hk : KeysIn X.w X.K H es) : es.length ≤ sizeLine ∧ (a == sysModules) = false ∧ ∃ xs, Paired EntRel es xs ∧ s.heap.DictOfH (nestedKind X.prog X.w) a xs := by
  obtain ⟨z, hd, xs, r, nd, o, ents, ep, ho, hx, hdt, hl⟩ := nd_of I h
  refine ⟨z, hd, xs, r, o, ents, ep, ho, hx, hdt, hl, ?_, nd⟩
  have all : ∀ {l : NEs} {m : List (NestedKey × Addr × Value)}, Paired EntRel l m → (∀ e ∈ l, ∃ d, Dx X.w X.K H (.ref e.2.1) d ∧ keyOf d = some e.1 ∧ e.1.depth ≤ 8) → ∀ x ∈ m, (nestedKind X.prog X.w).is s.heap x.1 x.2.1 := by
    intro l m q
    induction q with
    | nil => intro _ x hx; exact nomatch hx
    | @cons p q ps qs hq t ih =>
      intro hl x hx
      rcases List.mem_cons.mp hx with e | hx
      · subst e
        obtain ⟨d, h1, h2, h3⟩ := hl p List.mem_cons_self
        rw [← hq.1, ← hq.2.1]
        exact nk_of I h1 h2 h3
      · exact ih (fun e he => hl e (List.mem_cons_of_mem _ he)) x hx
  exact all r hk
theorem nd_new {P : Program} {w : World} {H : Hp} (h : Heap) (hb : sysModules < h.objs.size) : ObjOk P w H (h.push { cls := .type "dict", data := .dict #[] }) h.objs.size (NDO w h.objs.size []) :=
  ndo_ok ⟨Nat.zero_le _, beq_eq_false_iff_ne.mpr (Ne.symm (Nat.ne_of_lt hb)), [], .nil, List.nodup_nil, _, #[], 0, Heap.get?_push_size _ rfl, ⟨rfl, rfl, rfl⟩, rfl, rfl⟩
end
/-- {}, to have nested keys -/
def tDNewN (w : World) : TE := fun _ H Q => ∀ p, H p = none → Q (.ref p) (upd H p (NDO w p []))
section
variable {X : Cx} {pos : Pos}
theorem pe_dnewN : PE X (.Dict [] [] pos) (tDNewN X.w) := ⟨fun pins s σ H Q I h =>
  wpAny_Dict_empty ⟨.ref s.heap.objs.size, _, I.laid (a := s.heap.objs.size) (o := NDO X.w s.heap.objs.size []) (t' := s.toks) (fun _ _ q => Heap.get?_push_of_some _ q) (Nat.le_refl _) (nd_new s.heap I.big), rfl, h _ (I.hok.fresh (Nat.le_refl _))⟩⟩
end
section
variable {X : Cx} {pins : List (Addr × Obj)} {σ : L2.St} {H : Hp} {s : Shared} {a : Addr} {es : NEs}
theorem nroom {A : Around} (hu : A.units + 9 < cLine) {P : Program} {w : World} : (nestedKind P w).room A.in1 := by
  show A.units + 1 + 8 < cLine
  omega
/-- d[k] = v -/
theorem nd_setItem {b : Addr} {d : PyData} {k : NestedKey} {v : V} {r : Value} {Q : Unit → Shared → Prop} {E : Value → Shared → Prop} (hu : X.A.units + 9 < cLine) (I : Inv X pins σ H s) (h : H a = some (NDO X.w a es)) (hks : KeysIn X.w X.K H es)
    (hd : Dx X.w X.K H (.ref b) d) (hk : keyOf d = some k) (h8 : k.depth ≤ 8) (hl : es.length < sizeLine) (rv : RelV v r)
    (q : ∀ s', Inv X pins σ (upd H a (NDO X.w a (putN es k b v))) s' → Q () s') : wpAny (model X.prog X.w) X.A (setItem (.ref a) (.ref b) r) Q E s := by
  obtain ⟨z, hdm, xs, rel, dd⟩ := nd_dict I (.inl h) hks
  have hz : xs.length ≤ sizeLine := by rw [← ent_len rel]; exact z
  refine wpAny_setItem_heap (hsz := hz) (nroom hu) (nk_of I hd hk h8) dd fun h' dd' hs => q _ ?_
  have he : ∃ q, h'.get? a = some q := let ⟨o, _, _, hq, _⟩ := dd'; ⟨o, hq⟩
  have rel' := ent_put (k := k) (b := b) rv rel
  have hl' : (putN es k b v).length ≤ sizeLine := by have := putN_len es k b v; omega
  obtain ⟨o, ents, ep, ho, hx, hdt, hle, _, nd⟩ := dd'
  exact d_write I (by rw [h]; exact True.intro) hs he (ndo_ok ⟨hl', hdm, _, rel', nd, o, ents, ep, ho, hx, hdt, hle⟩)
/-- d[k] = v, by values -/
def rSetN (w : World) (K : PySem.W.Frag) : V → V → V → Hp → (Hp → Prop) → Prop := fun o i v H Q => ∃ a es b d k, o = .ref a ∧ i = .ref b ∧ H a = some (NDO w a es) ∧ KeysIn w K H es ∧ Dx w K H (.ref b) d ∧ keyOf d = some k ∧ k.depth ≤ 8 ∧ es.length < sizeLine ∧ Q (upd H a (NDO w a (putN es k b v)))
theorem set_dn (hu : X.A.units + 9 < cLine) : PSet X (rSetN X.w X.K) := by
  intro pins s σ H o i v ov iv u Q I ro ri rv h
  obtain ⟨a, es, b, d, k, rfl, rfl, h1, h2, h3, h4, h5, h6, q⟩ := h
  cases ro
  cases ri
  exact nd_setItem hu I h1 h2 h3 h4 h5 h6 rv fun s' I' => ⟨_, I', q⟩
/-- d[k], there -/
def rGetN (w : World) (K : PySem.W.Frag) : R2 := fun x y H Q => ∃ a es b d k c v, x = .ref a ∧ y = .ref b ∧ Rd H a (NDO w a es) ∧ KeysIn w K H es ∧ Dx w K H (.ref b) d ∧ keyOf d = some k ∧ k.depth ≤ 8 ∧ lookN es k = some (c, v) ∧ Q v H
theorem nd_type (I : Inv X pins σ H s) (h : Rd H a (NDO X.w a es)) : s.TypeIs (.ref a) "dict" := by
  obtain ⟨_, _, _, _, _, o, _, _, ho, hx, _⟩ := nd_of I h
  exact ⟨o, ho, hx.1⟩
theorem nd_getItem {b : Addr} {d : PyData} {k : NestedKey} {c : Addr} {v : V} {Q : Value → Shared → Prop} {E : Value → Shared → Prop} (hu : X.A.units + 9 < cLine) (I : Inv X pins σ H s) (h : Rd H a (NDO X.w a es)) (hks : KeysIn X.w X.K H es)
    (hd : Dx X.w X.K H (.ref b) d) (hk : keyOf d = some k) (h8 : k.depth ≤ 8) (hl : lookN es k = some (c, v))
    (q : ∀ u s', Inv X pins σ H s' → RelV v u → Q u s') : wpAny (model X.prog X.w) X.A (getItem (.ref a) (.ref b)) Q E s := by
  obtain ⟨z, hdm, xs, rel, dd⟩ := nd_dict I h hks
  rcases ent_look (k := k) rel with ⟨e1, _⟩ | ⟨c', v', u, e1, e2, r⟩
  · rw [e1] at hl; cases hl
  · rw [e1] at hl
    cases hl
    exact wpAny_getItem_heap (nroom hu) (nk_of I hd hk h8) dd e2 (q u _ (I.tok _) r)
theorem nd_in {b : Addr} {d : PyData} {k : NestedKey} {Q : Value → Shared → Prop} {E : Value → Shared → Prop} (hu : X.A.units + 9 < cLine) (I : Inv X pins σ H s) (h : Rd H a (NDO X.w a es)) (hks : KeysIn X.w X.K H es)
    (hd : Dx X.w X.K H (.ref b) d) (hk : keyOf d = some k) (h8 : k.depth ≤ 8)
    (q : ∀ s', Inv X pins σ H s' → Q (.bool (lookN es k).isSome) s') : wpAny (model X.prog X.w) X.A (compareOp .In (.ref b) (.ref a)) Q E s := by
  obtain ⟨z, hdm, xs, rel, dd⟩ := nd_dict I h hks
  refine wpAny_in_heap (nroom hu) (nk_of I hd hk h8) hdm dd ?_
  have e : (atKey xs k).isSome = (lookN es k).isSome := by
    rcases ent_look (k := k) rel with ⟨e1, e2⟩ | ⟨c', v', u, e1, e2, r⟩ <;> rw [e1, e2] <;> rfl
  rw [e]
  exact q _ (I.tok _)
theorem nd_notIn {b : Addr} {d : PyData} {k : NestedKey} {Q : Value → Shared → Prop} {E : Value → Shared → Prop} (hu : X.A.units + 9 < cLine) (I : Inv X pins σ H s) (h : Rd H a (NDO X.w a es)) (hks : KeysIn X.w X.K H es)
    (hd : Dx X.w X.K H (.ref b) d) (hk : keyOf d = some k) (h8 : k.depth ≤ 8)
    (q : ∀ s', Inv X pins σ H s' → Q (.bool (!(lookN es k).isSome)) s') : wpAny (model X.prog X.w) X.A (compareOp .NotIn (.ref b) (.ref a)) Q E s := by
  obtain ⟨z, hdm, xs, rel, dd⟩ := nd_dict I h hks
  refine wpAny_notIn_heap (nroom hu) (nk_of I hd hk h8) hdm dd ?_
  have e : (atKey xs k).isSome = (lookN es k).isSome := by
    rcases ent_look (k := k) rel with ⟨e1, e2⟩ | ⟨c', v', u, e1, e2, r⟩ <;> rw [e1, e2] <;> rfl
  rw [e]
  exact q _ (I.tok _)
def rInN (w : World) (K : PySem.W.Frag) (neg : Bool) : R2 := fun y x H Q => ∃ a es b d k, x = .ref a ∧ y = .ref b ∧ Rd H a (NDO w a es) ∧ KeysIn w K H es ∧ Dx w K H (.ref b) d ∧ keyOf d = some k ∧ k.depth ≤ 8 ∧ Q (.bl (if neg then !(lookN es k).isSome else (lookN es k).isSome)) H
theorem op_inN (hu : X.A.units + 9 < cLine) : OpR X (compareOp .In) (rInN X.w X.K false) := by
  intro pins s σ H x y v u Q I rx ry h
  obtain ⟨a, es, b, d, k, rfl, rfl, h1, h2, h3, h4, h5, q⟩ := h
  cases rx
  cases ry
  exact nd_in hu I h1 h2 h3 h4 h5 fun s' I' => ⟨.bl _, H, I', rfl, q⟩
theorem op_notInN (hu : X.A.units + 9 < cLine) : OpR X (compareOp .NotIn) (rInN X.w X.K true) := by
  intro pins s σ H x y v u Q I rx ry h
  obtain ⟨a, es, b, d, k, rfl, rfl, h1, h2, h3, h4, h5, q⟩ := h
  cases rx
  cases ry
  exact nd_notIn hu I h1 h2 h3 h4 h5 fun s' I' => ⟨.bl _, H, I', rfl, q⟩
theorem pe_dgetN {o i : Expr} {pos : Pos} {td ty : TE} (hu : X.A.units + 9 < cLine) (ho : PE X o td) (hi : PE X i ty) (hs : NoSl i) : PE X (.Subscript o i pos) (tOp (rGetN X.w X.K) td ty) := by
  refine ⟨fun pins s σ H Q I h => ?_⟩
  refine subD_of PySem.F.slot_dict_getitem.lookup hs (thn (ho.run pins s σ H _ I h) fun u s1 ⟨x, H1, I1, rx, q1⟩ => thn (hi.run pins s1 σ H1 _ I1 q1) fun iv s2 ⟨y, H2, I2, ry, q2⟩ => ?_)
  obtain ⟨a, es, b, d, k, c, z, rfl, rfl, h1, h2, h3, h4, h5, h6, q⟩ := q2
  obtain rfl : u = Value.ref a := rx
  obtain rfl : iv = Value.ref b := ry
  exact ⟨nd_type I2 h1, nd_getItem hu I2 h1 h2 h3 h4 h5 h6 fun u s' I' r => ⟨z, H2, I', r, q⟩⟩
end
end K64

/-! ## K64Eval -/
/-! Pure expressions over data: G the frozen part of the heap H. -/
namespace K64
open PySem PySem.Spec PyProof.Rows L2

/-- G and H grow, nothing that stood changes, the part of H that is not frozen stays so -/
structure Grow (G H G' H' : Hp) : Prop where
  g : Same G G'
  h : Same H H'
  s : Same G' H'
  n : ∀ a, G a = none → H a ≠ none → G' a = none
theorem Grow.refl {G H : Hp} (s : Same G H) : Grow G H G H := ⟨Same.refl _, Same.refl _, s, fun _ h _ => h⟩
theorem Grow.trans {G H G1 H1 G2 H2 : Hp} (a : Grow G H G1 H1) (b : Grow G1 H1 G2 H2) : Grow G H G2 H2 :=
  ⟨a.g.trans b.g, a.h.trans b.h, b.s, fun c h1 h2 => b.n c (a.n c h1 h2) fun e => h2 (a.h.free e)⟩
theorem same_new {H : Hp} {p : Addr} {o : HO} (h : H p = none) : Same H (upd H p o) := fun b x e => by
  rw [upd_ne (ne_of_none e h)]
  exact e
/-- a new object, frozen at once -/
theorem Grow.new {G H : Hp} {p : Addr} {o : HO} (s : Same G H) (h : H p = none) : Grow G H (upd G p o) (upd H p o) := by
  have hg : G p = none := s.free h
  refine ⟨same_new hg, same_new h, fun b x e => ?_, fun a e1 e2 => ?_⟩
  · by_cases hb : b = p
    · subst hb
      rw [upd_same] at e ⊢
      exact e
    · rw [upd_ne hb] at e ⊢
      exact s b x e
  · have : a ≠ p := fun e => e2 (by rw [e]; exact h)
    rw [upd_ne this]
    exact e1
/-- a new object, not frozen -/
theorem Grow.own {G H : Hp} {p : Addr} {o : HO} (s : Same G H) (h : H p = none) : Grow G H G (upd H p o) :=
  ⟨Same.refl _, same_new h, s.trans (same_new h), fun _ e _ => e⟩
/-- an object that is not frozen may change -/
theorem same_mut {G H : Hp} {p : Addr} {o : HO} (s : Same G H) (h : G p = none) : Same G (upd H p o) := fun a u e => by
  rw [upd_ne (ne_of_none e h)]
  exact s a u e
/-- an object that stands is frozen -/
theorem same_frz {G H : Hp} {p : Addr} {o : HO} (s : Same G H) (h : H p = some o) : Same (upd G p o) H := fun a u e => by
  by_cases ha : a = p
  · subst ha
    rw [upd_same] at e
    cases e
    exact h
  · rw [upd_ne ha] at e
    exact s a u e

/-! ### what the slots hold -/
abbrev Env : Type := List (Option PyData)
def EnvD (w : World) (K : PySem.W.Frag) (G : Hp) : L2.St → Env → Prop
  | _, [] => True
  | [], _ :: _ => False
  | _ :: σ, none :: ρ => EnvD w K G σ ρ
  | some v :: σ, some d :: ρ => Dx w K G v d ∧ EnvD w K G σ ρ
  | none :: _, some _ :: _ => False
section
variable {w : World} {K : PySem.W.Frag} {G G' H H' : Hp}
theorem EnvD.nil : ∀ {σ : L2.St}, EnvD w K G σ []
  | [] => trivial
  | _ :: _ => trivial
theorem EnvD.mono (e : Same G G') : ∀ {σ : L2.St} {ρ : Env}, EnvD w K G σ ρ → EnvD w K G' σ ρ
  | _, [], _ => .nil
  | [], _ :: _, h => h.elim
  | none :: σ, none :: ρ, h => EnvD.mono (σ := σ) (ρ := ρ) e h
  | some _ :: σ, none :: ρ, h => EnvD.mono (σ := σ) (ρ := ρ) e h
  | some v :: σ, some d :: ρ, h => ⟨h.1.mono e, EnvD.mono e h.2⟩
  | none :: _, some _ :: _, h => h.elim
theorem EnvD.get : ∀ {σ : L2.St} {ρ : Env} {i : Nat} {d : PyData}, EnvD w K G σ ρ → ρ[i]? = some (some d) → ∃ v, σ[i]? = some (some v) ∧ Dx w K G v d
  | _, [], _, _, _, h => by simp at h
  | [], _ :: _, _, _, h, _ => h.elim
  | none :: σ, none :: ρ, 0, _, _, h => by simp at h
  | some _ :: σ, none :: ρ, 0, _, _, h => by simp at h
  | none :: σ, none :: ρ, i + 1, _, h, e => EnvD.get (σ := σ) (ρ := ρ) (i := i) h e
  | some _ :: σ, none :: ρ, i + 1, _, h, e => EnvD.get (σ := σ) (ρ := ρ) (i := i) h e
  | some v :: σ, some d :: ρ, 0, _, h, e => ⟨v, rfl, by
    have q := Option.some.inj (Option.some.inj e)
    rw [← q]
    exact h.1⟩
  | some v :: σ, some d :: ρ, i + 1, _, h, e => EnvD.get (σ := σ) (ρ := ρ) (i := i) h.2 e
  | none :: _, some _ :: _, _, _, h, _ => h.elim
theorem EnvD.len : ∀ {σ : L2.St} {ρ : Env}, EnvD w K G σ ρ → ρ.length ≤ σ.length
  | _, [], _ => Nat.zero_le _
  | [], _ :: _, h => h.elim
  | none :: σ, none :: ρ, h => Nat.succ_le_succ (EnvD.len (σ := σ) (ρ := ρ) h)
  | some _ :: σ, none :: ρ, h => Nat.succ_le_succ (EnvD.len (σ := σ) (ρ := ρ) h)
  | some v :: σ, some d :: ρ, h => Nat.succ_le_succ (EnvD.len h.2)
  | none :: _, some _ :: _, h => h.elim
theorem EnvD.set {v : V} {d : PyData} (hd : Dx w K G v d) : ∀ {σ : L2.St} {ρ : Env} {i : Nat}, EnvD w K G σ ρ → EnvD w K G (σ.set i (some v)) (ρ.set i (some d))
  | _, [], _, _ => .nil
  | [], _ :: _, _, h => h.elim
  | none :: σ, none :: ρ, 0, h => ⟨hd, h⟩
  | some _ :: σ, none :: ρ, 0, h => ⟨hd, h⟩
  | none :: σ, none :: ρ, i + 1, h => EnvD.set (σ := σ) (ρ := ρ) (i := i) hd h
  | some _ :: σ, none :: ρ, i + 1, h => EnvD.set (σ := σ) (ρ := ρ) (i := i) hd h
  | some _ :: σ, some _ :: ρ, 0, h => ⟨hd, h.2⟩
  | some _ :: σ, some _ :: ρ, i + 1, h => ⟨h.1, EnvD.set (σ := σ) (ρ := ρ) (i := i) hd h.2⟩
  | none :: _, some _ :: _, _, h => h.elim
theorem EnvD.drop {o : Option V} : ∀ {σ : L2.St} {ρ : Env} {i : Nat}, EnvD w K G σ ρ → EnvD w K G (σ.set i o) (ρ.set i none)
  | _, [], _, _ => .nil
  | [], _ :: _, _, h => h.elim
  | none :: σ, none :: ρ, 0, h => by cases o <;> exact h
  | some _ :: σ, none :: ρ, 0, h => by cases o <;> exact h
  | none :: σ, none :: ρ, i + 1, h => EnvD.drop (σ := σ) (ρ := ρ) (i := i) h
  | some _ :: σ, none :: ρ, i + 1, h => EnvD.drop (σ := σ) (ρ := ρ) (i := i) h
  | some _ :: σ, some _ :: ρ, 0, h => by cases o <;> exact h.2
  | some _ :: σ, some _ :: ρ, i + 1, h => ⟨h.1, EnvD.drop (σ := σ) (ρ := ρ) (i := i) h.2⟩
  | none :: _, some _ :: _, _, h => h.elim
end

/-! ### readings of pure expressions -/
def tD (w : World) (K : PySem.W.Frag) (ρ : Env) (d : PyData) : TE := fun σ H Q => ∃ G, Same G H ∧ EnvD w K G σ ρ ∧ ∀ v G' H', Grow G H G' H' → Dx w K G' v d → Q v H'
def tDT (w : World) (K : PySem.W.Frag) (ρ : Env) (b : Bool) : TT := fun σ H Q => ∃ G, Same G H ∧ EnvD w K G σ ρ ∧ ∀ G' H', Grow G H G' H' → Q b H'
def tDA (w : World) (K : PySem.W.Frag) (ρ : Env) (ds : List PyData) : TA := fun σ H Q => ∃ G, Same G H ∧ EnvD w K G σ ρ ∧ ∀ vs G' H', Grow G H G' H' → DxAll w K G' vs ds → Q vs H'
def DE (X : Cx) (e : Expr) (ρ : Env) (d : PyData) : Prop := PE X e (tD X.w X.K ρ d)
def DT (X : Cx) (e : Expr) (ρ : Env) (b : Bool) : Prop := PT X e (tDT X.w X.K ρ b)
def DA (X : Cx) (es : List Expr) (ρ : Env) (ds : List PyData) : Prop := PA X es (tDA X.w X.K ρ ds)
theorem pe_imp {X : Cx} {e : Expr} {t t' : TE} (h : PE X e t) (f : ∀ σ H Q, t' σ H Q → t σ H Q) : PE X e t' := ⟨fun pins s σ H Q I q => h.run pins s σ H Q I (f σ H Q q)⟩
theorem pt_imp {X : Cx} {e : Expr} {t t' : TT} (h : PT X e t) (f : ∀ σ H Q, t' σ H Q → t σ H Q) : PT X e t' := ⟨fun pins s σ H Q I q => h.run pins s σ H Q I (f σ H Q q)⟩
theorem pw_imp {X : Cx} {e : Expr} {t t' : TT} (h : PW X e t) (f : ∀ σ H Q, t' σ H Q → t σ H Q) : PW X e t' := ⟨fun wh pins s σ H Q I q => h.run wh pins s σ H Q I (f σ H Q q)⟩
theorem pa_imp {X : Cx} {e : List Expr} {t t' : TA} (h : PA X e t) (f : ∀ σ H Q, t' σ H Q → t σ H Q) : PA X e t' := ⟨fun pos pins s σ H Q I q => h.run pos pins s σ H Q I (f σ H Q q)⟩
theorem pi_imp {X : Cx} {tg e : Expr} {t t' : TI} (h : PI X tg e t) (f : ∀ σ H Q, t' σ H Q → t σ H Q) : PI X tg e t' := ⟨fun pins s σ H Q I q => h.run pins s σ H Q I (f σ H Q q)⟩
theorem pts_imp {X : Cx} {e : List Expr} {t t' : TT} (h : PTs X e t) (f : ∀ σ H Q, t' σ H Q → t σ H Q) : PTs X e t' := ⟨fun pins s σ H Q I q => h.run pins s σ H Q I (f σ H Q q)⟩
section
variable {X : Cx} {ρ : Env} {a b c e : Expr} {pos : Pos} {d da db dc : PyData}
/-- what an operation on values does, over data -/
def RD2 (w : World) (K : PySem.W.Frag) (r : R2) (da db d : PyData) : Prop := ∀ x y G H Q, Same G H → Dx w K G x da → Dx w K G y db → (∀ v G' H', Grow G H G' H' → Dx w K G' v d → Q v H') → r x y H Q
def RD1 (w : World) (K : PySem.W.Frag) (r : V → Hp → VK → Prop) (da d : PyData) : Prop := ∀ x G H Q, Same G H → Dx w K G x da → (∀ v G' H', Grow G H G' H' → Dx w K G' v d → Q v H') → r x H Q
def RDC (w : World) (K : PySem.W.Frag) (r : List V → Hp → VK → Prop) (ds : List PyData) (d : PyData) : Prop := ∀ xs G H Q, Same G H → DxAll w K G xs ds → (∀ v G' H', Grow G H G' H' → Dx w K G' v d → Q v H') → r xs H Q
theorem de_var (i : Nat) {x : Str} (he : ρ[i]? = some (some d)) (h : PE X (.Name x pos) (tVar i)) : DE X (.Name x pos) ρ d :=
  pe_imp h fun σ H Q ⟨G, s, env, q⟩ => by
    obtain ⟨v, h1, h2⟩ := env.get he
    exact ⟨v, h1, q v G H (.refl s) h2⟩
theorem de_const {v : V} (h : PE X e (tC v)) (hd : ∀ w K G, Dx w K G v d) : DE X e ρ d :=
  pe_imp h fun σ H Q ⟨G, s, _, q⟩ => q v G H (.refl s) (hd _ _ _)
theorem de_int {i : Int} {j} : DE X (.Constant (.int i) j pos) ρ (.int i) := de_const pe_int fun _ _ _ => .int i
theorem de_bl {k : Bool} {j} : DE X (.Constant (.bool k) j pos) ρ (.bool k) := de_const pe_bl fun _ _ _ => .bl k
theorem de_str {x : Str} {j} : DE X (.Constant (.str x) j pos) ρ (.str x) := de_const pe_str fun _ _ _ => .str x
theorem td_op {r : R2} {w : World} {K : PySem.W.Frag} (hr : RD2 w K r da db d) : ∀ σ H Q, tD w K ρ d σ H Q → tOp r (tD w K ρ da) (tD w K ρ db) σ H Q := fun σ H Q ⟨G, s, env, q⟩ =>
  ⟨G, s, env, fun x G1 H1 g1 dx => ⟨G1, g1.s, env.mono g1.g, fun y G2 H2 g2 dy => hr x y G2 H2 Q g2.s (dx.mono g2.g) dy fun v G' H' g3 dv => q v G' H' ((g1.trans g2).trans g3) dv⟩⟩
theorem de_op {op : Operator} {r : R2} (ho : OpR X (binaryOp op) r) (hr : RD2 X.w X.K r da db d) (ha : DE X a ρ da) (hb : DE X b ρ db) : DE X (.BinOp a op b pos) ρ d :=
  pe_imp (pe_op ho ha hb) (td_op hr)
theorem de_cmp {op : CmpOp} {r : R2} (ho : OpR X (compareOp op) r) (hr : RD2 X.w X.K r da db d) (ha : DE X a ρ da) (hb : DE X b ρ db) (hm : behindInMarks op b = false) : DE X (.Compare a [op] [b] pos) ρ d :=
  pe_imp (pe_cmpR ho ha hb hm) (td_op hr)
theorem dt_cmp {op : CmpOp} {r : R2} {k : Bool} (ho : OpR X (compareOp op) r) (hr : RD2 X.w X.K r da db (.bool k)) (ha : DE X a ρ da) (hb : DE X b ρ db) (hm : behindInMarks op b = false) : DT X (.Compare a [op] [b] pos) ρ k :=
  pt_imp (pt_cmpR ho ha hb hm) fun σ H Q ⟨G, s, env, q⟩ => td_op hr σ H _ ⟨G, s, env, fun v G' H' g dv => by
    cases dv
    exact ⟨k, rfl, q G' H' g⟩⟩
/-- any expression that gives a bool, as a test -/
theorem dt_val {k : Bool} (h : DE X e ρ (.bool k)) (he : ∀ whole, isTrue e X.env whole = (do let v ← whole; standAt e.pos; holding [v] (truthy v)) := by intro _; rfl) : DT X e ρ k :=
  pt_imp (pt_val h he) fun σ H Q ⟨G, s, env, q⟩ => ⟨G, s, env, fun v G' H' g dv => by
    cases dv
    exact ⟨k, rfl, q G' H' g⟩⟩
theorem de_un {op : UnaryOp} {r : V → Hp → VK → Prop} (ho : UnR X (unaryOp op) r) (hr : RD1 X.w X.K r da d) (ha : DE X a ρ da) : DE X (.UnaryOp op a pos) ρ d :=
  pe_imp (pe_un ho ha) fun σ H Q ⟨G, s, env, q⟩ => ⟨G, s, env, fun x G1 H1 g1 dx => hr x G1 H1 Q g1.s dx fun v G' H' g dv => q v G' H' (g1.trans g) dv⟩
/-! ### tests -/
def DW (X : Cx) (e : Expr) (ρ : Env) (b : Bool) : Prop := PW X e (tDT X.w X.K ρ b)
theorem DW.dt {k : Bool} (h : DW X e ρ k) : DT X e ρ k := PW.pt h
theorem dw_and1 {k : Bool} (h : DT X a ρ k) : DW X (.BoolOp .And [a] pos) ρ k := pw_and1 h
theorem dw_or1 {k : Bool} (h : DT X a ρ k) : DW X (.BoolOp .Or [a] pos) ρ k := pw_or1 h
theorem dw_and {rest : List Expr} {k l : Bool} (ha : DT X a ρ k) (hb : k = true → DW X (.BoolOp .And (b :: rest) pos) ρ l) : DW X (.BoolOp .And (a :: b :: rest) pos) ρ (k && l) := by
  cases k with
  | true => exact pw_imp (pw_and ha (hb rfl)) fun σ H Q ⟨G, s, env, q⟩ => ⟨G, s, env, fun G1 H1 g1 => by
      show tDT _ _ _ _ _ _ _
      exact ⟨G1, g1.s, env.mono g1.g, fun G' H' g => q G' H' (g1.trans g)⟩⟩
  | false =>
    refine ⟨fun wh pins s σ H Q I h => ?_⟩
    obtain ⟨G, sg, env, q⟩ := h
    refine isTrue_and (thn (ha.run pins s σ H (fun c H1 => c = false ∧ Q c H1) I ⟨G, sg, env, fun G1 H1 g1 => ⟨rfl, q G1 H1 g1⟩⟩) fun c s1 ⟨H1, I1, ec, q1⟩ => ?_)
    subst ec
    exact ⟨H1, I1, q1⟩
theorem dw_or {rest : List Expr} {k l : Bool} (ha : DT X a ρ k) (hb : k = false → DW X (.BoolOp .Or (b :: rest) pos) ρ l) : DW X (.BoolOp .Or (a :: b :: rest) pos) ρ (k || l) := by
  cases k with
  | false => exact pw_imp (pw_or ha (hb rfl)) fun σ H Q ⟨G, s, env, q⟩ => ⟨G, s, env, fun G1 H1 g1 => by
      show tDT _ _ _ _ _ _ _
      exact ⟨G1, g1.s, env.mono g1.g, fun G' H' g => q G' H' (g1.trans g)⟩⟩
  | true =>
    refine ⟨fun wh pins s σ H Q I h => ?_⟩
    obtain ⟨G, sg, env, q⟩ := h
    refine isTrue_or (thn (ha.run pins s σ H (fun c H1 => c = true ∧ Q c H1) I ⟨G, sg, env, fun G1 H1 g1 => ⟨rfl, q G1 H1 g1⟩⟩) fun c s1 ⟨H1, I1, ec, q1⟩ => ?_)
    subst ec
    exact ⟨H1, I1, q1⟩
theorem dt_not {k : Bool} (ha : DT X a ρ k) : DT X (.UnaryOp .Not a pos) ρ (!k) :=
  pt_imp (pt_not ha) fun σ H Q ⟨G, s, env, q⟩ => ⟨G, s, env, fun G1 H1 g1 => q G1 H1 g1⟩
/-- as values -/
theorem de_one {op} (h : DE X a ρ d) : DE X (.BoolOp op [a] pos) ρ d := pe_one h
theorem de_not {k : Bool} (ha : DE X a ρ (.bool k)) : DE X (.UnaryOp .Not a pos) ρ (.bool (!k)) :=
  pe_imp (pe_not ha) fun σ H Q ⟨G, s, env, q⟩ => ⟨G, s, env, fun v G1 H1 g1 dv => by
    cases dv
    exact ⟨k, rfl, q _ G1 H1 g1 (.bl _)⟩⟩
theorem de_and {rest : List Expr} {k l : Bool} (ha : DE X a ρ (.bool k)) (hb : k = true → DE X (.BoolOp .And (b :: rest) pos) ρ (.bool l)) : DE X (.BoolOp .And (a :: b :: rest) pos) ρ (.bool (k && l)) := by
  cases k with
  | true => exact pe_imp (pe_and ha (hb rfl)) fun σ H Q ⟨G, s, env, q⟩ => ⟨G, s, env, fun v G1 H1 g1 dv => by
      cases dv
      refine ⟨true, rfl, ?_⟩
      show tD _ _ _ _ _ _ _
      exact ⟨G1, g1.s, env.mono g1.g, fun v G' H' g dv => q v G' H' (g1.trans g) dv⟩⟩
  | false =>
    refine ⟨fun pins s σ H Q I h => ?_⟩
    obtain ⟨G, sg, env, q⟩ := h
    refine BoolOp_and (thn (ha.run pins s σ H (fun v H1 => v = .bl false ∧ Q v H1) I ⟨G, sg, env, fun v G1 H1 g1 dv => by
      cases dv
      exact ⟨rfl, q _ G1 H1 g1 (.bl _)⟩⟩) fun u s1 ⟨x, H1, I1, r1, ex, q1⟩ => ?_)
    subst ex
    cases r1
    exact wpAny_truthy_bool ⟨.bl false, H1, I1, rfl, q1⟩
/-- a if t else b -/
theorem de_ifT (hc : DT X c ρ true) (ha : DE X a ρ d) : DE X (.IfExp c a b pos) ρ d := by
  refine ⟨fun pins s σ H Q I h => ?_⟩
  obtain ⟨G, sg, env, q⟩ := h
  refine wpAny_IfExp (thn (hc.run pins s σ H (fun k H1 => k = true ∧ tD X.w X.K ρ d σ H1 Q) I ⟨G, sg, env, fun G1 H1 g1 => ⟨rfl, G1, g1.s, env.mono g1.g, fun v G' H' g dv => q v G' H' (g1.trans g) dv⟩⟩) fun k s1 ⟨H1, I1, ek, q1⟩ => ?_)
  subst ek
  exact ha.run pins s1 σ H1 Q I1 q1
theorem de_ifF (hc : DT X c ρ false) (hb : DE X b ρ d) : DE X (.IfExp c a b pos) ρ d := by
  refine ⟨fun pins s σ H Q I h => ?_⟩
  obtain ⟨G, sg, env, q⟩ := h
  refine wpAny_IfExp (thn (hc.run pins s σ H (fun k H1 => k = false ∧ tD X.w X.K ρ d σ H1 Q) I ⟨G, sg, env, fun G1 H1 g1 => ⟨rfl, G1, g1.s, env.mono g1.g, fun v G' H' g dv => q v G' H' (g1.trans g) dv⟩⟩) fun k s1 ⟨H1, I1, ek, q1⟩ => ?_)
  subst ek
  exact hb.run pins s1 σ H1 Q I1 q1
/-! ### arguments, displays -/
theorem da_nil : DA X [] ρ [] := pa_imp pa_nil fun σ H Q ⟨G, s, env, q⟩ => q [] G H (.refl s) .nil
theorem da_cons {es : List Expr} {ds : List PyData} (ha : DE X e ρ d) (hr : DA X es ρ ds) (hs : starEach (e :: es) X.env = (false, eval e X.env) :: starEach es X.env := by rfl) : DA X (e :: es) ρ (d :: ds) :=
  pa_imp (pa_cons ha hr hs) fun σ H Q ⟨G, s, env, q⟩ => ⟨G, s, env, fun v G1 H1 g1 dv => ⟨G1, g1.s, env.mono g1.g, fun vs G' H' g dvs => q _ G' H' (g1.trans g) (.cons (dv.mono g.g) dvs)⟩⟩
theorem de_tup {es : List Expr} {ds : List PyData} {j} (h : DA X es ρ ds) (hz : ds.length ≤ sizeLine) : DE X (.Tuple es j pos) ρ (.tuple ds) :=
  pe_imp (pe_tup h) fun σ H Q ⟨G, s, env, q⟩ => ⟨G, s, env, fun vs G1 H1 g1 dvs => ⟨by rw [dvs.length]; exact hz, fun p hp => q _ (upd G1 p (.tup vs)) _ (g1.trans (.new g1.s hp)) (.tup upd_same (dvs.mono (same_new (g1.s.free hp))))⟩⟩
theorem de_lst {es : List Expr} {ds : List PyData} (h : DA X es ρ ds) (hz : ds.length ≤ sizeLine) : DE X (.List es pos) ρ (.list ds) :=
  pe_imp (pe_lst h) fun σ H Q ⟨G, s, env, q⟩ => ⟨G, s, env, fun vs G1 H1 g1 dvs => ⟨by rw [dvs.length]; exact hz, fun p hp => q _ (upd G1 p (.lst vs)) _ (g1.trans (.new g1.s hp)) (.lst upd_same (dvs.mono (same_new (g1.s.free hp))))⟩⟩
/-! ### subscripts, built-ins -/
theorem de_ix {r : R2} (hr : IxR X r) (hd : RD2 X.w X.K r da db d) (ha : DE X a ρ da) (hb : DE X b ρ db) (hs : PlainIx b) : DE X (.Subscript a b pos) ρ d := pe_imp (pe_ix hr ha hb hs) (td_op hd)
theorem td_args {r : List V → Hp → VK → Prop} {ds : List PyData} {w : World} {K : PySem.W.Frag} (hr : RDC w K r ds d) : ∀ σ H Q, tD w K ρ d σ H Q → tCB r (tDA w K ρ ds) σ H Q := fun σ H Q ⟨G, s, env, q⟩ =>
  ⟨G, s, env, fun vs G1 H1 g1 dvs => hr vs G1 H1 Q g1.s dvs fun v G' H' g dv => q v G' H' (g1.trans g) dv⟩
theorem de_callB {id : String} {r : List V → Hp → VK → Prop} {x : Str} {es : List Expr} {ds : List PyData} {p : Pos} (hc : CallR X (.builtin id) r) (hr : RDC X.w X.K r ds d) (hg : Gl X x) (hm : X.mg x = none) (hv : bootBuiltins x = some (.builtin id))
    (ha : DA X (e :: es) ρ ds) (hn : x ≠ "__name__" := by decide) (hdb : (x == ("__debug__" : Str)) = false := by decide) (he : starEach (e :: es) X.env = (false, eval e X.env) :: starEach es X.env := by rfl) (hpl : (backTo pos (starEach es X.env)).any (·.1) = false := by rfl) : DE X (.Call (.Name x p) (e :: es) [] pos) ρ d :=
  pe_imp (pe_callB hc hg hm hv ha hn hdb he hpl) (td_args hr)
theorem de_callTy {T : String} {r : List V → Hp → VK → Prop} {x : Str} {es : List Expr} {ds : List PyData} {p : Pos} (hc : CallR X (.type T) r) (hr : RDC X.w X.K r ds d) (hg : Gl X x) (hm : X.mg x = none) (hv : bootBuiltins x = some (.type T))
    (ha : DA X (e :: es) ρ ds) (hn : x ≠ "__name__" := by decide) (hdb : (x == ("__debug__" : Str)) = false := by decide) (he : starEach (e :: es) X.env = (false, eval e X.env) :: starEach es X.env := by rfl) (hpl : (backTo pos (starEach es X.env)).any (·.1) = false := by rfl) : DE X (.Call (.Name x p) (e :: es) [] pos) ρ d :=
  pe_imp (pe_callTy hc hg hm hv ha hn hdb he hpl) (td_args hr)
/-! ### defs -/
/-- a def that only reads data and gives data -/
def spD (w : World) (K : PySem.W.Frag) (R : List PyData → PyData → Prop) : Sp := fun vs H Q _ => ∃ G ds d, Same G H ∧ DxAll w K G vs ds ∧ R ds d ∧ ∀ v G' H', Grow G H G' H' → Dx w K G' v d → Q v H'
theorem de_call {CX : CXT} {k : Nat} {f : Addr} {fd : FuncData} {ps : List Str} {R : List PyData → PyData → Prop} {E : XK} {x : Str} {es : List Expr} {ds : List PyData} {p : Pos} (F : FnOk X.prog X.w X.K X.mg X.base CX k f fd ps (spD X.w X.K R)) (hr : Room k X.A) (hg : Gl X x) (hm : X.mg x = some (.ref f))
    (hk : PySem.W.keepIn X.K (.ref f) = true) (hb : Binds X.K fd ps []) (hx : Passes CX X E) (ha : DA X (e :: es) ρ ds) (h : R ds d) (hdb : (x == ("__debug__" : Str)) = false := by decide) (he : starEach (e :: es) X.env = (false, eval e X.env) :: starEach es X.env := by rfl) (hpl : (backTo pos (starEach es X.env)).any (·.1) = false := by rfl) : DE X (.Call (.Name x p) (e :: es) [] pos) ρ d :=
  pe_imp (pe_call F hr hg hm hk hb .nil hx ha hdb he hpl) fun σ H Q ⟨G, s, env, q⟩ => ⟨G, s, env, fun vs G1 H1 g1 dvs => ⟨G1, ds, d, g1.s, by rw [List.append_nil]; exact dvs, h, fun v G' H' g dv => q v G' H' (g1.trans g) dv⟩⟩
end

/-! ### values -/
section
variable {w : World} {K : PySem.W.Frag}
theorem rd_I0 {g : Int → Int → V} {f : Int → Int → PyData} {i j : Int} (hd : ∀ G, Dx w K G (g i j) (f i j)) : RD2 w K (rI0 g) (.int i) (.int j) (f i j) := fun x y G H Q s dx dy q => by
  cases dx
  cases dy
  exact ⟨i, j, rfl, rfl, q _ G H (.refl s) (hd G)⟩
theorem rd_I {C : Int → Int → Prop} {g : Int → Int → V} {f : Int → Int → PyData} {i j : Int} (hc : C i j) (hd : ∀ G, Dx w K G (g i j) (f i j)) : RD2 w K (rI C g) (.int i) (.int j) (f i j) := fun x y G H Q s dx dy q => by
  cases dx
  cases dy
  exact ⟨i, j, rfl, rfl, hc, q _ G H (.refl s) (hd G)⟩
theorem rd_add {i j : Int} : RD2 w K (rI0 fun i j => .int (i + j)) (.int i) (.int j) (.int (i + j)) := rd_I0 (f := fun i j => .int (i + j)) fun _ => .int _
theorem rd_sub {i j : Int} : RD2 w K (rI0 fun i j => .int (i - j)) (.int i) (.int j) (.int (i - j)) := rd_I0 (f := fun i j => .int (i - j)) fun _ => .int _
theorem rd_mul {i j : Int} (h : CMul i j) : RD2 w K (rI CMul fun i j => .int (i * j)) (.int i) (.int j) (.int (i * j)) := rd_I (f := fun i j => .int (i * j)) h fun _ => .int _
theorem rd_lt {i j : Int} : RD2 w K (rI0 fun i j => .bl (decide (i < j))) (.int i) (.int j) (.bool (decide (i < j))) := rd_I0 (f := fun i j => .bool (decide (i < j))) fun _ => .bl _
theorem rd_le {i j : Int} : RD2 w K (rI0 fun i j => .bl (decide (i ≤ j))) (.int i) (.int j) (.bool (decide (i ≤ j))) := rd_I0 (f := fun i j => .bool (decide (i ≤ j))) fun _ => .bl _
theorem rd_gt {i j : Int} : RD2 w K (rI0 fun i j => .bl (decide (j < i))) (.int i) (.int j) (.bool (decide (j < i))) := rd_I0 (f := fun i j => .bool (decide (j < i))) fun _ => .bl _
theorem rd_ge {i j : Int} : RD2 w K (rI0 fun i j => .bl (decide (j ≤ i))) (.int i) (.int j) (.bool (decide (j ≤ i))) := rd_I0 (f := fun i j => .bool (decide (j ≤ i))) fun _ => .bl _
theorem rd_eqI {i j : Int} : RD2 w K rEq (.int i) (.int j) (.bool (decide (i = j))) := fun x y G H Q s dx dy q => by
  cases dx
  cases dy
  refine ⟨rfl, ?_⟩
  have e : decide (V.int i = V.int j) = decide (i = j) := by
    by_cases h : i = j
    · subst h; simp
    · rw [decide_eq_false h, decide_eq_false (fun z => h (V.int.inj z))]
  rw [e]
  exact q _ G H (.refl s) (.bl _)
theorem rd_neI {i j : Int} : RD2 w K rNe (.int i) (.int j) (.bool (!decide (i = j))) := fun x y G H Q s dx dy q => by
  cases dx
  cases dy
  refine ⟨rfl, ?_⟩
  have e : decide (V.int i = V.int j) = decide (i = j) := by
    by_cases h : i = j
    · subst h; simp
    · rw [decide_eq_false h, decide_eq_false (fun z => h (V.int.inj z))]
  rw [e]
  exact q _ G H (.refl s) (.bl _)
theorem rd_eqS {i j : Str} : RD2 w K rEq (.str i) (.str j) (.bool (decide (i = j))) := fun x y G H Q s dx dy q => by
  cases dx
  cases dy
  refine ⟨rfl, ?_⟩
  have e : decide (V.str i = V.str j) = decide (i = j) := by
    by_cases h : i = j
    · subst h; simp
    · rw [decide_eq_false h, decide_eq_false (fun z => h (V.str.inj z))]
  rw [e]
  exact q _ G H (.refl s) (.bl _)
theorem rd_neS {i j : Str} : RD2 w K rNe (.str i) (.str j) (.bool (!decide (i = j))) := fun x y G H Q s dx dy q => by
  cases dx
  cases dy
  refine ⟨rfl, ?_⟩
  have e : decide (V.str i = V.str j) = decide (i = j) := by
    by_cases h : i = j
    · subst h; simp
    · rw [decide_eq_false h, decide_eq_false (fun z => h (V.str.inj z))]
  rw [e]
  exact q _ G H (.refl s) (.bl _)
/-- == of data without dicts -/
theorem rd_eqD {d e : PyData} (fd : flat d = true) (fe : flat e = true) (sd : SeqAt.shaped d = true) (se : SeqAt.shaped e = true) : RD2 w K (rEqD K) d e (.bool (PyData.eqv d e)) := fun x y G H Q s dx dy q =>
  ⟨d, e, Dx.dpS s dx fd, Dx.dpS s dy fe, sd, se, q _ G H (.refl s) (.bl _)⟩
theorem rd_neD {d e : PyData} (fd : flat d = true) (fe : flat e = true) (sd : SeqAt.shaped d = true) (se : SeqAt.shaped e = true) : RD2 w K (rNeD K) d e (.bool (!PyData.eqv d e)) := fun x y G H Q s dx dy q =>
  ⟨d, e, Dx.dpS s dx fd, Dx.dpS s dy fe, sd, se, q _ G H (.refl s) (.bl _)⟩
theorem atI_dx {G : Hp} {xs : List V} {ds : List PyData} {i : Int} {d : PyData} (r : DxAll w K G xs ds) (h : atI ds i = some d) : ∃ v, atI xs i = some v ∧ Dx w K G v d := by
  unfold atI at h ⊢
  obtain ⟨j, h1, h2⟩ := Option.bind_eq_some_iff.mp h
  rw [r.length, h1]
  exact r.get h2
theorem rd_ixL {ds : List PyData} {i : Int} {d : PyData} (h : atI ds i = some d) : RD2 w K (rIxL K) (.list ds) (.int i) d := fun x y G H Q s dx dy q => by
  cases dy
  cases dx with
  | lst hx r =>
    obtain ⟨v, h1, h2⟩ := atI_dx r h
    exact ⟨_, _, i, v, rfl, rfl, .inl (.inl (s _ _ hx)), h1, q v G H (.refl s) h2⟩
theorem rd_ixT {ds : List PyData} {i : Int} {d : PyData} (h : atI ds i = some d) : RD2 w K (rIxT K) (.tuple ds) (.int i) d := fun x y G H Q s dx dy q => by
  cases dy
  cases dx with
  | tup hx r =>
    obtain ⟨v, h1, h2⟩ := atI_dx r h
    exact ⟨_, _, i, v, rfl, rfl, .inl (.inl (s _ _ hx)), h1, q v G H (.refl s) h2⟩
end
end K64

/-! ## K64Comp -/
/-! What a loop walks, as data; list comprehensions over data. -/
namespace K64
open PySem PySem.Spec PyProof.Rows L2

/-- J walks the data L, while G stays -/
structure Wk (w : World) (K : PySem.W.Frag) (J : It) (G : Hp) (L : List PyData) : Prop where
  go : ∀ i H, Same G H → i < L.length → J.go i H
  stop : ∀ H, Same G H → J.stop L.length H
  yld : ∀ i G1 H x H', Same G G1 → Same G1 H → i < L.length → J.yld i H x H' → ∃ d G2, L[i]? = some d ∧ Grow G1 H G2 H' ∧ Dx w K G2 x d
theorem Wk.mono {w : World} {K : PySem.W.Frag} {J : It} {G G' : Hp} {L : List PyData} (k : Wk w K J G L) (e : Same G G') : Wk w K J G' L :=
  ⟨fun i H s => k.go i H (e.trans s), fun H s => k.stop H (e.trans s), fun i G1 H x H' s => k.yld i G1 H x H' (e.trans s)⟩
def tI (w : World) (K : PySem.W.Frag) (ρ : Env) (L : List PyData) : TI := fun σ H R => ∃ G, Same G H ∧ EnvD w K G σ ρ ∧ ∀ J G' H', Grow G H G' H' → Wk w K J G' L → R J H'
def DI (X : Cx) (tg it : Expr) (ρ : Env) (L : List PyData) : Prop := PI X tg it (tI X.w X.K ρ L)
section
variable {w : World} {K : PySem.W.Frag} {G : Hp} {a b : Addr} {xs ys : List V} {ds es : List PyData}
theorem wk_list (h : G a = some (.lst xs)) (r : DxAll w K G xs ds) : Wk w K (Itl K a) G ds where
  go := fun i H s hi => ⟨xs, xs[i]'(by rw [r.length]; exact hi), .inl (.inl (s _ _ h)), by simp [r.length, hi]⟩
  stop := fun H s => ⟨xs, .inl (.inl (s _ _ h)), by rw [r.length]; exact Nat.le_refl _⟩
  yld := fun i G1 H x H' s s1 hi y => by
    obtain ⟨rfl, q⟩ := y
    obtain ⟨d, e, dx⟩ := r.getV (q xs (.inl (.inl (s1 _ _ (s _ _ h)))))
    exact ⟨d, G1, e, .refl s1, dx.mono s⟩
theorem wk_tup (h : G a = some (.tup xs)) (r : DxAll w K G xs ds) : Wk w K (Itt K a) G ds where
  go := fun i H s hi => ⟨xs, xs[i]'(by rw [r.length]; exact hi), .inl (.inl (s _ _ h)), by simp [r.length, hi]⟩
  stop := fun H s => ⟨xs, .inl (.inl (s _ _ h)), by rw [r.length]; exact Nat.le_refl _⟩
  yld := fun i G1 H x H' s s1 hi y => by
    obtain ⟨rfl, q⟩ := y
    obtain ⟨d, e, dx⟩ := r.getV (q xs (.inl (.inl (s1 _ _ (s _ _ h)))))
    exact ⟨d, G1, e, .refl s1, dx.mono s⟩
theorem wk_range {lo : Int} {n : Nat} : Wk w K (Itr lo n) G ((List.range n).map fun (i : Nat) => PyData.int (lo + i)) where
  go := fun i H s hi => by
    show i < n
    simpa using hi
  stop := fun H s => by
    show n ≤ _
    simp
  yld := fun i G1 H x H' s s1 hi y => by
    obtain ⟨rfl, rfl⟩ := y
    have hi' : i < n := by simpa using hi
    exact ⟨.int (lo + i), G1, by simp [hi'], .refl s1, .int _⟩
theorem wk_str {z : Str} : Wk w K (Its z) G (z.cps.toList.map fun c => PyData.str ⟨#[c]⟩) where
  go := fun i H s hi => by
    show i < z.cps.size
    simpa using hi
  stop := fun H s => by
    show z.cps.size ≤ _
    simp
  yld := fun i G1 H x H' s s1 hi y => by
    obtain ⟨rfl, c, hc, rfl⟩ := y
    refine ⟨.str ⟨#[c]⟩, G1, ?_, .refl s1, .str _⟩
    rw [List.getElem?_map, Array.getElem?_toList, hc]
    rfl
/-- a new pair -/
theorem new_pair {G1 H : Hp} {T : Addr} {x y : V} {d e : PyData} (s : Same G1 H) (hT : H T = none) (dx : Dx w K G1 x d) (dy : Dx w K G1 y e) : Grow G1 H (upd G1 T (.tup [x, y])) (upd H T (.tup [x, y])) ∧ Dx w K (upd G1 T (.tup [x, y])) (.ref T) (.tuple [d, e]) :=
  have n := same_new (o := .tup [x, y]) (s.free hT)
  ⟨.new s hT, .tup upd_same (.cons (dx.mono n) (.cons (dy.mono n) .nil))⟩
theorem zip_get {α β : Type} {l : List α} {m : List β} {i : Nat} {x : α} {y : β} (h1 : l[i]? = some x) (h2 : m[i]? = some y) : (l.zip m)[i]? = some (x, y) := by
  rw [List.getElem?_zip_eq_some]
  exact ⟨h1, h2⟩
theorem wk_zipT (ha : G a = some (.tup xs)) (hb : G b = some (.tup ys)) (r1 : DxAll w K G xs ds) (r2 : DxAll w K G ys es) : Wk w K (RZ.ItzT K a b) G ((ds.zip es).map fun p => PyData.tuple [p.1, p.2]) where
  go := fun i H s hi => by
    simp only [List.length_map, List.length_zip] at hi
    have h1 : i < xs.length := by rw [r1.length]; omega
    have h2 : i < ys.length := by rw [r2.length]; omega
    exact ⟨xs, ys, xs[i], ys[i], .inl (.inl (s _ _ ha)), .inl (.inl (s _ _ hb)), by simp [h1], by simp [h2]⟩
  stop := fun H s => by
    refine ⟨xs, ys, .inl (.inl (s _ _ ha)), .inl (.inl (s _ _ hb)), ?_⟩
    simp only [List.length_map, List.length_zip]
    rw [r1.length, r2.length]
    omega
  yld := fun i G1 H v H' s s1 hi y => by
    obtain ⟨T, x, y, rfl, hT, rfl, f1, f2⟩ := y
    obtain ⟨d, e1, dx⟩ := r1.getV (f1 xs (.inl (.inl (s1 _ _ (s _ _ ha)))))
    obtain ⟨e, e2, dy⟩ := r2.getV (f2 ys (.inl (.inl (s1 _ _ (s _ _ hb)))))
    obtain ⟨g, q⟩ := new_pair s1 hT (dx.mono s) (dy.mono s)
    exact ⟨.tuple [d, e], _, by rw [List.getElem?_map, zip_get e1 e2]; rfl, g, q⟩
theorem wk_zipL (ha : G a = some (.lst xs)) (hb : G b = some (.lst ys)) (r1 : DxAll w K G xs ds) (r2 : DxAll w K G ys es) : Wk w K (Itz K a b) G ((ds.zip es).map fun p => PyData.tuple [p.1, p.2]) where
  go := fun i H s hi => by
    simp only [List.length_map, List.length_zip] at hi
    have h1 : i < xs.length := by rw [r1.length]; omega
    have h2 : i < ys.length := by rw [r2.length]; omega
    exact ⟨xs, ys, xs[i], ys[i], .inl (.inl (s _ _ ha)), .inl (.inl (s _ _ hb)), by simp [h1], by simp [h2]⟩
  stop := fun H s => by
    refine ⟨xs, ys, .inl (.inl (s _ _ ha)), .inl (.inl (s _ _ hb)), ?_⟩
    simp only [List.length_map, List.length_zip]
    rw [r1.length, r2.length]
    omega
  yld := fun i G1 H v H' s s1 hi y => by
    obtain ⟨T, x, y, rfl, hT, rfl, f1, f2⟩ := y
    obtain ⟨d, e1, dx⟩ := r1.getV (f1 xs (.inl (.inl (s1 _ _ (s _ _ ha)))))
    obtain ⟨e, e2, dy⟩ := r2.getV (f2 ys (.inl (.inl (s1 _ _ (s _ _ hb)))))
    obtain ⟨g, q⟩ := new_pair s1 hT (dx.mono s) (dy.mono s)
    exact ⟨.tuple [d, e], _, by rw [List.getElem?_map, zip_get e1 e2]; rfl, g, q⟩
theorem wk_enum (ha : G a = some (.lst xs)) (r1 : DxAll w K G xs ds) : Wk w K (Ite K a) G (ds.zipIdx.map fun p => PyData.tuple [.int (p.2 : Nat), p.1]) where
  go := fun i H s hi => by
    simp only [List.length_map, List.length_zipIdx] at hi
    have h1 : i < xs.length := by rw [r1.length]; omega
    exact ⟨xs, xs[i], .inl (.inl (s _ _ ha)), by simp [h1]⟩
  stop := fun H s => by
    refine ⟨xs, .inl (.inl (s _ _ ha)), ?_⟩
    simp only [List.length_map, List.length_zipIdx]
    rw [r1.length]
    exact Nat.le_refl _
  yld := fun i G1 H v H' s s1 hi y => by
    obtain ⟨T, x, rfl, hT, rfl, f1⟩ := y
    obtain ⟨d, e1, dx⟩ := r1.getV (f1 xs (.inl (.inl (s1 _ _ (s _ _ ha)))))
    obtain ⟨g, q⟩ := new_pair (x := .int (i : Nat)) (d := .int (i : Nat)) s1 hT (.int _) (dx.mono s)
    exact ⟨.tuple [.int (i : Nat), d], _, by rw [List.getElem?_map, List.getElem?_zipIdx, e1]; simp, g, q⟩
end
section
variable {X : Cx} {tg it : Expr} {ρ : Env} {pos : Pos} {ds es : List PyData}
theorem di_list (h : DE X it ρ (.list ds)) : DI X tg it ρ ds := pi_imp (pi_list h) fun σ H R ⟨G, s, env, q⟩ => ⟨G, s, env, fun v G' H' g dv => by
  cases dv with
  | lst ha r => exact ⟨_, rfl, ⟨_, .inl (.inl (g.s _ _ ha))⟩, q _ G' H' g (wk_list ha r)⟩⟩
theorem di_tup (h : DE X it ρ (.tuple ds)) : DI X tg it ρ ds := pi_imp (pi_tup h) fun σ H R ⟨G, s, env, q⟩ => ⟨G, s, env, fun v G' H' g dv => by
  cases dv with
  | tup ha r => exact ⟨_, rfl, ⟨_, .inl (.inl (g.s _ _ ha))⟩, q _ G' H' g (wk_tup ha r)⟩⟩
theorem di_range {a : Expr} {p : Pos} {n : Nat} (hg : Gl X "range") (hm : X.mg "range" = none) (ha : DA X [a] ρ [.int (n : Nat)]) (hn : n < 2 ^ 62) (hs : starEach [a] X.env = [(false, eval a X.env)] := by rfl) :
    DI X tg (.Call (.Name "range" p) [a] [] pos) ρ ((List.range n).map fun (i : Nat) => PyData.int i) := pi_imp (pi_range1 hg hm ha hs) fun σ H R ⟨G, s, env, q⟩ => ⟨G, s, env, fun vs G' H' g dv => by
  cases dv with
  | cons dv dr =>
    cases dr
    cases dv
    refine ⟨(n : Int), rfl, by omega, by omega, ?_⟩
    have := q (Itr 0 (n : Int).toNat) G' H' g (by
      have k := wk_range (w := X.w) (K := X.K) (G := G') (lo := 0) (n := n)
      rw [Int.toNat_natCast]
      simpa using k)
    exact this⟩
theorem di_str {z : Str} (h : DE X it ρ (.str z)) : DI X tg it ρ (z.cps.toList.map fun c => PyData.str ⟨#[c]⟩) := pi_imp (pi_str h) fun σ H R ⟨G, s, env, q⟩ => ⟨G, s, env, fun v G' H' g dv => by
  cases dv
  exact ⟨z, rfl, q _ G' H' g wk_str⟩⟩
theorem di_zipT {e e2 : Expr} {p tpos : Pos} {elts : List Expr} {kk : Nat} (hg : Gl X "zip") (hm : X.mg "zip" = none) (ha : DA X [e, e2] ρ [.tuple ds, .tuple es])
    (hs : starEach [e, e2] X.env = (false, eval e X.env) :: starEach [e2] X.env := by rfl) (hpl : (backTo pos (starEach [e2] X.env)).any (·.1) = false := by rfl) :
    DI X (.Tuple elts kk tpos) (.Call (.Name "zip" p) [e, e2] [] pos) ρ ((ds.zip es).map fun p => PyData.tuple [p.1, p.2]) := pi_imp (RZ.pi_zipA hg hm ha hs hpl) fun σ H R ⟨G, s, env, q⟩ => ⟨G, s, env, fun vs G' H' g dv => by
  cases dv with
  | cons d1 dr =>
    cases dr with
    | cons d2 dr =>
      cases dr
      cases d1 with
      | tup h1 r1 =>
        cases d2 with
        | tup h2 r2 => exact ⟨_, _, _, _, rfl, .inr ⟨.inl (.inl (g.s _ _ h1)), .inl (.inl (g.s _ _ h2)), q _ G' H' g (wk_zipT h1 h2 r1 r2)⟩⟩⟩
theorem di_zipL {e e2 : Expr} {p tpos : Pos} {elts : List Expr} {kk : Nat} (hg : Gl X "zip") (hm : X.mg "zip" = none) (ha : DA X [e, e2] ρ [.list ds, .list es])
    (hs : starEach [e, e2] X.env = (false, eval e X.env) :: starEach [e2] X.env := by rfl) (hpl : (backTo pos (starEach [e2] X.env)).any (·.1) = false := by rfl) :
    DI X (.Tuple elts kk tpos) (.Call (.Name "zip" p) [e, e2] [] pos) ρ ((ds.zip es).map fun p => PyData.tuple [p.1, p.2]) := pi_imp (RZ.pi_zipA hg hm ha hs hpl) fun σ H R ⟨G, s, env, q⟩ => ⟨G, s, env, fun vs G' H' g dv => by
  cases dv with
  | cons d1 dr =>
    cases dr with
    | cons d2 dr =>
      cases dr
      cases d1 with
      | lst h1 r1 =>
        cases d2 with
        | lst h2 r2 => exact ⟨_, _, _, _, rfl, .inl ⟨.inl (.inl (g.s _ _ h1)), .inl (.inl (g.s _ _ h2)), q _ G' H' g (wk_zipL h1 h2 r1 r2)⟩⟩⟩
theorem di_enum {e : Expr} {p tpos : Pos} {elts : List Expr} {kk : Nat} (hg : Gl X "enumerate") (hm : X.mg "enumerate" = none) (ha : DA X [e] ρ [.list ds]) (hs : starEach [e] X.env = [(false, eval e X.env)] := by rfl) :
    DI X (.Tuple elts kk tpos) (.Call (.Name "enumerate" p) [e] [] pos) ρ (ds.zipIdx.map fun p => PyData.tuple [.int (p.2 : Nat), p.1]) := pi_imp (pi_enum hg hm ha hs) fun σ H R ⟨G, s, env, q⟩ => ⟨G, s, env, fun vs G' H' g dv => by
  cases dv with
  | cons d1 dr =>
    cases dr
    cases d1 with
    | lst h1 r1 => exact ⟨_, _, rfl, .inl (.inl (g.s _ _ h1)), q _ G' H' g (wk_enum h1 r1)⟩⟩
end

/-! ### targets -/
def wipeR (ρ : Env) : List Nat → Env
  | [] => ρ
  | v :: vs => (wipeR ρ vs).set v none
section
variable {w : World} {K : PySem.W.Frag} {G : Hp} {σ : L2.St} {ρ : Env}
theorem EnvD.wipe (h : EnvD w K G σ ρ) : ∀ vs : List Nat, EnvD w K G (wipe σ vs) (wipeR ρ vs)
  | [] => h
  | v :: vs => (EnvD.wipe h vs).drop
end
theorem wipe_get (σ : L2.St) : ∀ (vs : List Nat) (i : Nat), (wipe σ vs)[i]? = if i ∈ vs then (σ[i]?).map (fun _ => none) else σ[i]?
  | [], i => by simp [wipe]
  | v :: vs, i => by
    unfold wipe
    by_cases h : v = i
    · subst h
      rw [if_pos List.mem_cons_self]
      by_cases hl : v < σ.length
      · rw [List.getElem?_set_self (by rw [wipe_length]; exact hl), List.getElem?_eq_getElem hl]
        rfl
      · rw [List.getElem?_eq_none (by rw [List.length_set, wipe_length]; omega), List.getElem?_eq_none (by omega)]
        rfl
    · rw [List.getElem?_set_ne h, wipe_get σ vs i]
      by_cases hm : i ∈ vs
      · rw [if_pos hm, if_pos (List.mem_cons_of_mem _ hm)]
      · rw [if_neg hm, if_neg (by simp only [List.mem_cons, not_or]; exact ⟨fun e => h e.symm, hm⟩)]
theorem wipe_ext {σ τ : L2.St} {vs : List Nat} (hl : σ.length = τ.length) (h : ∀ i, i ∉ vs → σ[i]? = τ[i]?) : wipe σ vs = wipe τ vs := by
  apply List.ext_getElem?
  intro i
  rw [wipe_get, wipe_get]
  by_cases hm : i ∈ vs
  · rw [if_pos hm, if_pos hm]
    by_cases hi : i < σ.length
    · rw [List.getElem?_eq_getElem hi, List.getElem?_eq_getElem (by omega)]
      rfl
    · rw [List.getElem?_eq_none (by omega), List.getElem?_eq_none (by omega)]
  · rw [if_neg hm, if_neg hm, h i hm]
theorem wipe_idem (σ : L2.St) (vs : List Nat) : wipe (wipe σ vs) vs = wipe σ vs := wipe_ext (wipe_length _ _) fun i hi => by rw [wipe_get, if_neg hi]
theorem wipe_set {σ : L2.St} {vs : List Nat} {i : Nat} {o : Option V} (h : i ∈ vs) : wipe (σ.set i o) vs = wipe σ vs := wipe_ext (by simp) fun j hj => by
  rw [List.getElem?_set_ne]
  intro e
  subst e
  exact hj h
/-- the target g takes what reads as d: the slots vs alone change -/
def TgD (w : World) (K : PySem.W.Frag) (vs : List Nat) (g : TG) (ρ : Env) (d : PyData) (ρ' : Env) : Prop :=
  ∀ x σ G H (Q : L2.St → Hp → Prop), Same G H → EnvD w K G σ ρ → Dx w K G x d → (∀ σ2, wipe σ2 vs = wipe σ vs → EnvD w K G σ2 ρ' → Q σ2 H) → g x σ H Q
section
variable {w : World} {K : PySem.W.Frag} {ρ : Env} {vs : List Nat}
theorem tg_name {i : Nat} {d : PyData} (hi : i ∈ vs) : TgD w K vs (gName i) ρ d (ρ.set i (some d)) := fun x σ G H Q s env dx q => q _ (wipe_set hi) (env.set dx)
theorem tg_pair {i j : Nat} {d e : PyData} (hi : i ∈ vs) (hj : j ∈ vs) : TgD w K vs (gTup K 2 (gCons (gName i) (gCons (gName j) gNil))) ρ (.tuple [d, e]) ((ρ.set i (some d)).set j (some e)) := fun x σ G H Q s env dx q => by
  cases dx with
  | tup h r =>
    cases r with
    | cons d1 r =>
      cases r with
      | cons d2 r =>
        cases r
        refine ⟨_, _, rfl, .inl (.inl (s _ _ h)), rfl, _, _, rfl, _, _, rfl, rfl, ?_⟩
        exact q _ (by rw [wipe_set hj, wipe_set hi]) ((env.set d1).set d2)
end

/-! ### list comprehensions -/
section
variable {X : Cx} {ρ : Env} {pos : Pos} {elt tg iter : Expr} {ifs : List Expr} {scope : Scope} {own : List (Str × Nat)}
/-- a test, an element: for each item -/
def tAnyT (w : World) (K : PySem.W.Frag) {α : Type} (as : List α) (ρ' : α → Env) (p : α → Bool) : TT := fun σ H Q => ∃ a, a ∈ as ∧ tDT w K (ρ' a) (p a) σ H Q
def tAnyE (w : World) (K : PySem.W.Frag) {α : Type} (as : List α) (ρ' : α → Env) (f : α → PyData) : TE := fun σ H Q => ∃ a, a ∈ as ∧ tD w K (ρ' a) (f a) σ H Q
theorem map_get {α : Type} {as : List α} {enc : α → PyData} {i : Nat} {d : PyData} (h : (as.map enc)[i]? = some d) : ∃ a, as[i]? = some a ∧ a ∈ as ∧ d = enc a := by
  rw [List.getElem?_map] at h
  obtain ⟨a, h1, h2⟩ := Option.map_eq_some_iff.mp h
  exact ⟨a, h1, List.mem_of_getElem? h1, h2.symm⟩
theorem take_filter_map {α : Type} {as : List α} {p : α → Bool} {f : α → PyData} {i : Nat} {a : α} (h : as[i]? = some a) : ((as.take (i + 1)).filter p).map f = ((as.take i).filter p).map f ++ (if p a then [f a] else []) := by
  rw [List.take_add_one, h]
  cases e : p a <;> simp [List.filter_append, e]
/-- the reading of a comprehension: a new list, not frozen -/
theorem td_lcO {w : World} {K : PySem.W.Frag} {g : TG} {α : Type} (as : List α) (enc : α → PyData) (p : α → Bool) (f : α → PyData) (ρ' : α → Env) {vs : List Nat} (hz : as.length ≤ sizeLine)
    (hgd : ∀ a ∈ as, TgD w K vs g (wipeR ρ vs) (enc a) (ρ' a)) :
    ∀ σ H Q, (∃ G, Same G H ∧ EnvD w K G σ ρ ∧ ∀ D acc G' H', Grow G H G' H' → H D = none → G' D = none → H' D = some (.lst acc) → DxAll w K G' acc ((as.filter p).map f) → Q (.ref D) H') → tLc (tI w K ρ (as.map enc)) g (tAnyT w K as ρ' p) (tAnyE w K (as.filter p) ρ' f) vs σ H Q := by
  rintro σ H Q ⟨G, s, env, q⟩
  refine ⟨G, s, env, fun J G1 H1 g1 wk D hD => ?_⟩
  have hGD : G1 D = none := g1.s.free hD
  refine ⟨fun i m H2 => i + m = as.length ∧ ∃ G2 acc, Same G1 G2 ∧ Same G2 H2 ∧ Same H1 H2 ∧ G2 D = none ∧ (∀ a, G1 a = none → H1 a ≠ none → G2 a = none) ∧ H2 D = some (.lst acc) ∧ DxAll w K G2 acc (((as.take i).filter p).map f),
    ⟨as.length, by omega, G1, [], Same.refl _, g1.s.trans (same_new hD), same_new hD, hGD, fun _ e _ => e, upd_same, by simpa using DxAll.nil⟩, ?_⟩
  rintro i m H2 ⟨him, G2, acc, s1, s2, s3, n1, n2, hacc, hr⟩
  by_cases hi : i < as.length
  · refine .inr ⟨wk.go i H2 (s1.trans s2) (by simpa using hi), fun H3 => ∃ G3 acc3, Same G1 G3 ∧ Same G3 H3 ∧ Same H1 H3 ∧ G3 D = none ∧ (∀ a, G1 a = none → H1 a ≠ none → G3 a = none) ∧ H3 D = some (.lst acc3) ∧ DxAll w K G3 acc3 (((as.take (i + 1)).filter p).map f),
      fun H3 h => ⟨m - 1, by omega, by omega, h⟩, fun x H3 y => ?_⟩
    obtain ⟨d, G3, ed, gr3, dx⟩ := wk.yld i G2 H2 x H3 s1 s2 (by simpa using hi) y
    obtain ⟨a, ea, ma, rfl⟩ := map_get ed
    have env3 : EnvD w K G3 (wipe σ vs) (wipeR ρ vs) := ((env.mono (g1.g.trans (s1.trans gr3.g))).wipe vs)
    refine hgd a ma x (wipe σ vs) G3 H3 _ gr3.s env3 dx fun σ2 e2 env2 => ⟨by rw [e2, wipe_idem], a, ma, G3, gr3.s, env2, fun G4 H4 gr4 => ?_⟩
    have nD3 : G3 D = none := gr3.n D n1 (by rw [hacc]; exact fun z => nomatch z)
    have aD3 : H3 D = some (.lst acc) := gr3.h _ _ hacc
    have nD4 : G4 D = none := gr4.n D nD3 (by rw [aD3]; exact fun z => nomatch z)
    have n4 : ∀ a, G1 a = none → H1 a ≠ none → G4 a = none := fun b e1 e2 =>
      have hb2 : H2 b ≠ none := fun z => e2 (s3.free z)
      have hb3 : H3 b ≠ none := fun z => hb2 (gr3.h.free z)
      gr4.n b (gr3.n b (n2 b e1 e2) hb2) hb3
    cases hp : p a with
    | false =>
      refine iteF ⟨G4, acc, s1.trans (gr3.g.trans gr4.g), gr4.s, s3.trans (gr3.h.trans gr4.h), nD4, n4, gr4.h _ _ aD3, ?_⟩
      rw [take_filter_map ea, hp, if_neg Bool.false_ne_true, List.append_nil]
      exact hr.mono (gr3.g.trans gr4.g)
    | true =>
      refine iteT ⟨a, List.mem_filter.mpr ⟨ma, hp⟩, G4, gr4.s, env2.mono gr4.g, fun v G5 H5 gr5 dv => ?_⟩
      have aD5 : H5 D = some (.lst acc) := gr5.h _ _ (gr4.h _ _ aD3)
      have nD5 : G5 D = none := gr5.n D nD4 (by rw [gr4.h _ _ aD3]; exact fun z => nomatch z)
      have hlen : acc.length ≤ i := by
        rw [hr.length, List.length_map]
        refine Nat.le_trans (List.length_filter_le _ _) ?_
        rw [List.length_take]
        omega
      refine ⟨acc, aD5, by omega, G5, acc ++ [v], s1.trans (gr3.g.trans (gr4.g.trans gr5.g)), same_mut gr5.s nD5, fun b o e => ?_, nD5, fun b e1 e2 => ?_, upd_same, ?_⟩
      · rw [upd_ne (ne_of_none e hD)]
        exact gr5.h _ _ (gr4.h _ _ (gr3.h _ _ (s3 _ _ e)))
      · have hb4 : H4 b ≠ none := fun z => e2 (s3.free (gr3.h.free (gr4.h.free z)))
        exact gr5.n b (n4 b e1 e2) hb4
      · rw [take_filter_map ea, hp, if_pos rfl]
        exact (hr.mono (gr3.g.trans (gr4.g.trans gr5.g))).append (.cons dv .nil)
  · have ei : i = as.length := by omega
    subst ei
    refine .inl ⟨by
      have := wk.stop H2 (s1.trans s2)
      rwa [List.length_map] at this, ?_⟩
    rw [List.take_length] at hr
    exact q D acc G2 H2 (g1.trans ⟨s1, s3, s2, n2⟩) (g1.h.free hD) n1 hacc hr
/-- .. frozen at once -/
theorem td_lc {w : World} {K : PySem.W.Frag} {g : TG} {α : Type} (as : List α) (enc : α → PyData) (p : α → Bool) (f : α → PyData) (ρ' : α → Env) {vs : List Nat} (hz : as.length ≤ sizeLine)
    (hgd : ∀ a ∈ as, TgD w K vs g (wipeR ρ vs) (enc a) (ρ' a)) :
    ∀ σ H Q, tD w K ρ (.list ((as.filter p).map f)) σ H Q → tLc (tI w K ρ (as.map enc)) g (tAnyT w K as ρ' p) (tAnyE w K (as.filter p) ρ' f) vs σ H Q := fun σ H Q ⟨G, s, env, q⟩ => td_lcO as enc p f ρ' hz hgd σ H Q ⟨G, s, env, fun D acc G2 H2 g hD n1 hacc hr =>
  q (.ref D) (upd G2 D (.lst acc)) H2 ⟨g.g.trans (same_new n1), g.h, same_frz g.s hacc, fun b e1 e2 => by
    rw [upd_ne fun e => e2 (by rw [e]; exact hD)]
    exact g.n b e1 e2⟩ (.lst upd_same (hr.mono (same_new n1)))⟩
theorem de_lc {α : Type} (as : List α) (enc : α → PyData) (p : α → Bool) (f : α → PyData) (ρ' : α → Env) {g : TG} (hc : X.calm = true) (hN : X.N.Nodup) (hi : DI X tg iter ρ (as.map enc)) (ok : BlkOk X.N X.env.scope scope own)
    (hg : ∀ (s : Shared) (H : Hp) (C : Addr) (cl : List (Str × Addr)) (fp : List Addr), PG (X.blk s H scope (compEnvC scope cl C X.env) fp) tg g) (hz : as.length ≤ sizeLine)
    (hgd : ∀ a ∈ as, TgD X.w X.K (own.map (·.2)) g (wipeR ρ (own.map (·.2))) (enc a) (ρ' a))
    (ht : ∀ (s : Shared) (H : Hp) (C : Addr) (cl : List (Str × Addr)) (fp : List Addr), ∀ a ∈ as, PTs (X.blk s H scope (compEnvC scope cl C X.env) fp) ifs (tDT X.w X.K (ρ' a) (p a)))
    (he : ∀ (s : Shared) (H : Hp) (C : Addr) (cl : List (Str × Addr)) (fp : List Addr), ∀ a ∈ as, p a = true → DE (X.blk s H scope (compEnvC scope cl C X.env) fp) elt (ρ' a) (f a))
    (hs : ∀ x, foldedSetIterable iter X.env x = pure x := by intro _; rfl) : DE X (.ListComp elt [⟨tg, iter, ifs, 0⟩] scope pos) ρ (.list ((as.filter p).map f)) :=
  pe_imp (pe_lc hc hN hi ok hg (tt := tAnyT X.w X.K as ρ' p) (te := tAnyE X.w X.K (as.filter p) ρ' f)
    (fun s H C cl fp => ⟨fun pins s1 σ H1 Q I ⟨a, ha, h⟩ => (ht s H C cl fp a ha).run pins s1 σ H1 Q I h⟩)
    (fun s H C cl fp => ⟨fun pins s1 σ H1 Q I ⟨a, ha, h⟩ => (he s H C cl fp a (List.mem_filter.mp ha).1 (List.mem_filter.mp ha).2).run pins s1 σ H1 Q I h⟩) hs) (td_lc as enc p f ρ' hz hgd)
/-- .. given to a name on one line -/
theorem ps_setLcD {α : Type} (as : List α) (enc : α → PyData) (p : α → Bool) (f : α → PyData) (ρ' : α → Env) {g : TG} {i : Nat} {y : Str} {py spos : Pos} (hc : X.calm = true) (hN : X.N.Nodup) (hy : X.N[i]? = some y) (hyl : X.env.scope.names.lookup y = some .local)
    (hsw : swapsWith (.ListComp elt [⟨tg, iter, ifs, 0⟩] scope pos) (some (.Name y py)) spos.line X.env = pure true) (hi : DI X tg iter ρ (as.map enc)) (ok : BlkOk X.N X.env.scope scope own)
    (hg : ∀ (s : Shared) (H : Hp) (C : Addr) (cl : List (Str × Addr)) (fp : List Addr), PG (X.blk s H scope (compEnvC scope cl C X.env) fp) tg g) (hz : as.length ≤ sizeLine)
    (hgd : ∀ a ∈ as, TgD X.w X.K (own.map (·.2)) g (wipeR ρ (own.map (·.2))) (enc a) (ρ' a))
    (ht : ∀ (s : Shared) (H : Hp) (C : Addr) (cl : List (Str × Addr)) (fp : List Addr), ∀ a ∈ as, PTs (X.blk s H scope (compEnvC scope cl C X.env) fp) ifs (tDT X.w X.K (ρ' a) (p a)))
    (he : ∀ (s : Shared) (H : Hp) (C : Addr) (cl : List (Str × Addr)) (fp : List Addr), ∀ a ∈ as, p a = true → DE (X.blk s H scope (compEnvC scope cl C X.env) fp) elt (ρ' a) (f a))
    (hs : ∀ x, foldedSetIterable iter X.env x = pure x := by intro _; rfl) : PS X (.Assign [.Name y py] (.ListComp elt [⟨tg, iter, ifs, 0⟩] scope pos) spos) (tAsg (tD X.w X.K ρ (.list ((as.filter p).map f))) (gName i)) :=
  ⟨fun pins s σ H D I h => (ps_setLc (i := i) hc hN hy hyl hsw hi ok hg (tt := tAnyT X.w X.K as ρ' p) (te := tAnyE X.w X.K (as.filter p) ρ' f)
    (fun s H C cl fp => ⟨fun pins s1 σ H1 Q I ⟨a, ha, h⟩ => (ht s H C cl fp a ha).run pins s1 σ H1 Q I h⟩)
    (fun s H C cl fp => ⟨fun pins s1 σ H1 Q I ⟨a, ha, h⟩ => (he s H C cl fp a (List.mem_filter.mp ha).1 (List.mem_filter.mp ha).2).run pins s1 σ H1 Q I h⟩) hs).run pins s σ H D I (td_lc as enc p f ρ' hz hgd σ H _ h)⟩
theorem pts_yes {ρ : Env} : PTs X [] (tDT X.w X.K ρ true) := pts_imp pts_nil fun σ H Q ⟨G, s, env, q⟩ => q G H (.refl s)
theorem pts_if {ρ : Env} {c : Expr} {k : Bool} (h : DT X c ρ k) : PTs X [c] (tDT X.w X.K ρ k) := pts_one h
end
end K64

/-! ## K64Prim -/
/-! Operations over data with a Lean type (the library's Datum). -/
namespace K64
open PySem PySem.Spec PyProof.Rows L2 PySem.W
instance instDatumNat : DatumOrd Nat where
  toD n := .int (n : Nat)
  plain _ := rfl
  eqv a b := by
    show PyData.eqv (.int (a : Int)) (.int (b : Int)) = _
    simp only [PyData.eqv]
    rw [beq_decide]
    exact decide_eq_decide.mpr (by omega)
  depth := 0
  depth_le _ := Nat.le_refl _
  lt a b := decide (a < b)
  alike a b := by show PySem.W.alike (.int (a : Int)) (.int (b : Int)) = true; simp only [PySem.W.alike]
  notNone a := fun e => by cases e
  lt_eq a b := by
    show dataLt (.int (a : Int)) (.int (b : Int)) = _
    rw [dataLt_int]
    exact decide_eq_decide.mpr (by omega)
mutual
theorem flat_of_plain : ∀ d : PyData, d.plain = true → flat d = true
  | .none, _ => rfl
  | .bool _, _ => rfl
  | .int _, _ => rfl
  | .str _, _ => rfl
  | .list ds, h => by
    rw [flat]
    exact flats_of_plain ds (by simpa [PyData.plain] using h)
  | .tuple ds, h => by
    rw [flat]
    exact flats_of_plain ds (by simpa [PyData.plain] using h)
  | .dict _, h => by simp [PyData.plain] at h
theorem flats_of_plain : ∀ d : List PyData, PyData.plainAll d = true → flats d = true
  | [], _ => rfl
  | d :: ds, h => by
    simp only [PyData.plainAll, Bool.and_eq_true] at h
    rw [flats, flat_of_plain d h.1, flats_of_plain ds h.2]
    rfl
end
section
variable {X : Cx} {pins : List (Addr × Obj)} {σ : L2.St} {H G : Hp} {s : Shared} {α : Type} [DecidableEq α]
theorem dx_reads (I : Inv X pins σ H s) (sg : Same G H) {v : V} {u : Value} {d : PyData} (h : Dx X.w X.K G v d) (hp : d.plain = true) (r : RelV v u) : ∃ as, Reads s.heap u d as := Dp.reads I d v u (Dx.dpS sg h (flat_of_plain d hp)) r
theorem dx_readsAll (I : Inv X pins σ H s) (sg : Same G H) {v : List V} {u : List Value} {d : List PyData} (h : DxAll X.w X.K G v d) (hp : PyData.plainAll d = true) (r : Vals v u) : ∃ as, ReadsAll s.heap u d as := Dp.readsAll I d v u (DxAll.dpS sg h (flats_of_plain d hp)) r
end
section
variable {X : Cx} {w : World} {K : PySem.W.Frag}
/-- two values that read as data; the answer -/
def rD2 (w : World) (K : PySem.W.Frag) (α : Type) [DecidableEq α] [Datum α] (g : α → α → V) : R2 := fun x y H Q => ∃ (G : Hp) (a b : α), Same G H ∧ Dx w K G x (Datum.toD a) ∧ Dx w K G y (Datum.toD b) ∧ Q (g a b) H
theorem rd_D2 {α : Type} [DecidableEq α] [Datum α] {g : α → α → V} {f : α → α → PyData} {a b : α} (h : ∀ G, Dx w K G (g a b) (f a b)) : RD2 w K (rD2 w K α g) (Datum.toD a) (Datum.toD b) (f a b) := fun x y G H Q s dx dy q => ⟨G, a, b, s, dx, dy, q _ G H (.refl s) (h G)⟩
variable {α : Type} [DecidableEq α]
theorem opD_eq [Datum α] (hu : X.A.units + 64 < cLine) (hd : Datum.depth α ≤ 60) : OpR X (compareOp .Eq) (rD2 X.w X.K α fun a b => .bl (decide (a = b))) := by
  intro pins s σ H x y v u Q I rx ry h
  obtain ⟨G, a, b, sg, da, db, q⟩ := h
  obtain ⟨as, r1⟩ := dx_reads I sg da (Datum.plain a) rx
  obtain ⟨bs, r2⟩ := dx_reads I sg db (Datum.plain b) ry
  have := Datum.depth_le a
  refine SeqAt.eq_plain r1 r2 (Datum.plain a) (Datum.plain b) (by omega) ?_
  rw [Datum.eqv]
  exact ⟨.bl _, H, I, rfl, q⟩
theorem opD_ne [Datum α] (hu : X.A.units + 64 < cLine) (hd : Datum.depth α ≤ 60) : OpR X (compareOp .NotEq) (rD2 X.w X.K α fun a b => .bl (!decide (a = b))) := by
  intro pins s σ H x y v u Q I rx ry h
  obtain ⟨G, a, b, sg, da, db, q⟩ := h
  obtain ⟨as, r1⟩ := dx_reads I sg da (Datum.plain a) rx
  obtain ⟨bs, r2⟩ := dx_reads I sg db (Datum.plain b) ry
  have := Datum.depth_le a
  refine SeqAt.ne_plain r1 r2 (Datum.plain a) (Datum.plain b) (by omega) ?_
  rw [Datum.eqv]
  exact ⟨.bl _, H, I, rfl, q⟩
theorem opD_lt [DatumOrd α] (hu : X.A.units + 64 < cLine) (hd : Datum.depth α ≤ 60) : OpR X (compareOp .Lt) (rD2 X.w X.K α fun a b => .bl (DatumOrd.lt a b)) := by
  intro pins s σ H x y v u Q I rx ry h
  obtain ⟨G, a, b, sg, da, db, q⟩ := h
  obtain ⟨as, r1⟩ := dx_reads I sg da (Datum.plain a) rx
  obtain ⟨bs, r2⟩ := dx_reads I sg db (Datum.plain b) ry
  have := Datum.depth_le a
  refine lt_data r1 r2 (DatumOrd.alike a b) (DatumOrd.notNone a) (by omega) ?_
  rw [DatumOrd.lt_eq]
  exact ⟨.bl _, H, I, rfl, q⟩
/-- x in c, c a list or a tuple -/
def rIn2 (w : World) (K : PySem.W.Frag) (α : Type) [DecidableEq α] [Datum α] (neg : Bool) : R2 := fun x y H Q => ∃ (G : Hp) (a : α) (bs : List α), Same G H ∧ Dx w K G x (Datum.toD a) ∧ (Dx w K G y (.list (bs.map Datum.toD)) ∨ Dx w K G y (.tuple (bs.map Datum.toD))) ∧ Q (.bl (if neg then !decide (a ∈ bs) else decide (a ∈ bs))) H
theorem any_mem [Datum α] (a : α) : ∀ bs : List α, ((bs.map Datum.toD).any fun y => PyData.eqv y (Datum.toD a)) = decide (a ∈ bs)
  | [] => by simp
  | b :: bs => by
    rw [List.map_cons, List.any_cons, any_mem a bs, Datum.eqv, ← Bool.decide_or]
    exact decide_eq_decide.mpr (by rw [List.mem_cons, eq_comm])
theorem opD_in [Datum α] (hu : X.A.units + 64 < cLine) (hd : Datum.depth α ≤ 60) : OpR X (compareOp .In) (rIn2 X.w X.K α false) := by
  intro pins s σ H x y v u Q I rx ry h
  obtain ⟨G, a, bs, sg, da, db, q⟩ := h
  obtain ⟨as, r1⟩ := dx_reads I sg da (Datum.plain a) rx
  have hdl := Datum.depth_le a
  have fin : EP X pins σ Q (.bool ((bs.map Datum.toD).any fun y => PyData.eqv y (Datum.toD a))) s := by
    rw [any_mem]
    exact ⟨.bl _, H, I, rfl, q⟩
  rcases db with db | db
  · obtain ⟨cs, r2⟩ := dx_reads I sg db (by rw [PyData.plain]; exact plainAll_map bs) ry
    exact SeqAt.in_list_data r2 r1 (plainAll_map bs) (Datum.plain a) (by omega) fin
  · obtain ⟨cs, r2⟩ := dx_reads I sg db (by rw [PyData.plain]; exact plainAll_map bs) ry
    exact SeqAt.in_tuple_data r2 r1 (plainAll_map bs) (Datum.plain a) (by omega) fin
theorem opD_notIn [Datum α] (hu : X.A.units + 64 < cLine) (hd : Datum.depth α ≤ 60) : OpR X (compareOp .NotIn) (rIn2 X.w X.K α true) := by
  intro pins s σ H x y v u Q I rx ry h
  obtain ⟨G, a, bs, sg, da, db, q⟩ := h
  obtain ⟨as, r1⟩ := dx_reads I sg da (Datum.plain a) rx
  have hdl := Datum.depth_le a
  have fin : EP X pins σ Q (.bool (!(bs.map Datum.toD).any fun y => PyData.eqv y (Datum.toD a))) s := by
    rw [any_mem]
    exact ⟨.bl _, H, I, rfl, q⟩
  rcases db with db | db
  · obtain ⟨cs, r2⟩ := dx_reads I sg db (by rw [PyData.plain]; exact plainAll_map bs) ry
    exact SeqAt.notIn_list_data r2 r1 (plainAll_map bs) (Datum.plain a) (by omega) fin
  · obtain ⟨cs, r2⟩ := dx_reads I sg db (by rw [PyData.plain]; exact plainAll_map bs) ry
    exact SeqAt.notIn_tuple_data r2 r1 (plainAll_map bs) (Datum.plain a) (by omega) fin
theorem rd_inL [Datum α] {a : α} {bs : List α} : RD2 w K (rIn2 w K α false) (Datum.toD a) (.list (bs.map Datum.toD)) (.bool (decide (a ∈ bs))) := fun x y G H Q s dx dy q => ⟨G, a, bs, s, dx, .inl dy, q _ G H (.refl s) (.bl _)⟩
theorem rd_inT [Datum α] {a : α} {bs : List α} : RD2 w K (rIn2 w K α false) (Datum.toD a) (.tuple (bs.map Datum.toD)) (.bool (decide (a ∈ bs))) := fun x y G H Q s dx dy q => ⟨G, a, bs, s, dx, .inr dy, q _ G H (.refl s) (.bl _)⟩
theorem rd_ninL [Datum α] {a : α} {bs : List α} : RD2 w K (rIn2 w K α true) (Datum.toD a) (.list (bs.map Datum.toD)) (.bool (!decide (a ∈ bs))) := fun x y G H Q s dx dy q => ⟨G, a, bs, s, dx, .inl dy, q _ G H (.refl s) (.bl _)⟩
theorem rd_ninT [Datum α] {a : α} {bs : List α} : RD2 w K (rIn2 w K α true) (Datum.toD a) (.tuple (bs.map Datum.toD)) (.bool (!decide (a ∈ bs))) := fun x y G H Q s dx dy q => ⟨G, a, bs, s, dx, .inr dy, q _ G H (.refl s) (.bl _)⟩
theorem rd_eqD2 [Datum α] {a b : α} : RD2 w K (rD2 w K α fun a b => .bl (decide (a = b))) (Datum.toD a) (Datum.toD b) (.bool (decide (a = b))) := rd_D2 (f := fun a b => .bool (decide (a = b))) fun _ => .bl _
theorem rd_neD2 [Datum α] {a b : α} : RD2 w K (rD2 w K α fun a b => .bl (!decide (a = b))) (Datum.toD a) (Datum.toD b) (.bool (!decide (a = b))) := rd_D2 (f := fun a b => .bool (!decide (a = b))) fun _ => .bl _
theorem rd_ltD2 [DatumOrd α] {a b : α} : RD2 w K (rD2 w K α fun a b => .bl (DatumOrd.lt a b)) (Datum.toD a) (Datum.toD b) (.bool (DatumOrd.lt a b)) := rd_D2 (f := fun a b => .bool (DatumOrd.lt a b)) fun _ => .bl _
/-! ### max of a tuple of numbers -/
def rMaxT (w : World) (K : PySem.W.Frag) : List V → Hp → VK → Prop := fun xs H Q => ∃ (x : V) (G : Hp) (n : Int) (ns : List Int), xs = [x] ∧ Same G H ∧ Dx w K G x (.tuple ((n :: ns).map PyData.int)) ∧ Q (.int (ns.foldl max n)) H
theorem alikeAll_ints {ns : List Int} : ∀ d ∈ ns.map PyData.int, ∀ d' ∈ ns.map PyData.int, alike d d' = true := by
  intro d hd d' hd'
  obtain ⟨a, _, rfl⟩ := List.mem_map.mp hd
  obtain ⟨b, _, rfl⟩ := List.mem_map.mp hd'
  simp only [alike]
theorem plain_ints : ∀ ns : List Int, PyData.plainAll (ns.map PyData.int) = true
  | [] => rfl
  | n :: ns => by
    rw [List.map_cons, PyData.plainAll, plain_ints ns]
    rfl
theorem crD_max (hc : X.calm = true) (hu : X.A.units + 64 < cLine) : CallR X (.builtin "max") (rMaxT X.w X.K) := by
  intro pins s σ H xs us Q I r h
  obtain ⟨x, G, n, ns, rfl, sg, dx, q⟩ := h
  obtain ⟨u, rfl, ru⟩ := vals1 r
  cases dx with
  | tup hx rx =>
    cases ru
    obtain ⟨its, rv, ht, _⟩ := I.tuple (.inl (.inl (sg _ _ hx)))
    obtain ⟨as, ra⟩ := dx_readsAll I sg rx (plain_ints (n :: ns)) rv
    have hr : ReadsAll s.heap its.toArray.toList (.int n :: ns.map .int) as := by simpa using ra
    refine PySem.W.max_tuple_data (I.ok.hd hc) (show s.heap.IsTuple _ its.toArray from ht) hr ⟨fun d hd d' hd' => alikeAll_ints (ns := n :: ns) d (by simpa using hd) d' (by simpa using hd'), fun d hd => ?_⟩ ?_ fun i v h' tk bs hi rv' hk => ?_
    · rcases List.mem_cons.mp hd with rfl | hd
      · exact fun z => nomatch z
      · obtain ⟨_, _, rfl⟩ := List.mem_map.mp hd
        exact fun z => nomatch z
    · have : PyData.depthAll (.int n :: ns.map .int) = 0 := by
        have := depth_ints (n :: ns)
        simpa using this
      rw [this]
      omega
    · rw [maxD_ints] at rv'
      cases rv'
      exact ⟨.int _, H, I.kept (t' := tk) hk, ⟨_, rfl⟩, q⟩
theorem rdc_max {n : Int} {ns : List Int} : RDC w K (rMaxT w K) [.tuple ((n :: ns).map PyData.int)] (.int (ns.foldl max n)) := fun xs G H Q s dx q => by
  cases dx with
  | cons d1 dr =>
    cases dr
    exact ⟨_, G, n, ns, rfl, s, d1, q _ G H (.refl s) (.int _)⟩
/-! ### built-ins -/
theorem rdc_lenL {ds : List PyData} : RDC w K (fun xs H Q => ∃ p ys, xs = [.ref p] ∧ (SqL K H p ys ∨ SqT K H p ys) ∧ Q (.int ys.length) H) [.list ds] (.int (ds.length : Nat)) := fun xs G H Q s dx q => by
  cases dx with
  | cons d1 dr =>
    cases dr
    cases d1 with
    | lst h r => exact ⟨_, _, rfl, .inl (.inl (.inl (s _ _ h))), by rw [r.length]; exact q _ G H (.refl s) (.int _)⟩
theorem rdc_lenT {ds : List PyData} : RDC w K (fun xs H Q => ∃ p ys, xs = [.ref p] ∧ (SqL K H p ys ∨ SqT K H p ys) ∧ Q (.int ys.length) H) [.tuple ds] (.int (ds.length : Nat)) := fun xs G H Q s dx q => by
  cases dx with
  | cons d1 dr =>
    cases dr
    cases d1 with
    | tup h r => exact ⟨_, _, rfl, .inr (.inl (.inl (s _ _ h))), by rw [r.length]; exact q _ G H (.refl s) (.int _)⟩
theorem rdc_lenS {z : Str} (hz : z.length ≤ sizeLine) : RDC w K (fun xs H Q => ∃ z, xs = [.str z] ∧ z.length ≤ sizeLine ∧ Q (.int z.length) H) [.str z] (.int (z.length : Nat)) := fun xs G H Q s dx q => by
  cases dx with
  | cons d1 dr =>
    cases dr
    cases d1
    exact ⟨z, rfl, hz, q _ G H (.refl s) (.int _)⟩
theorem dx_bools {G : Hp} : ∀ {xs : List V} {bs : List Bool}, DxAll w K G xs (bs.map PyData.bool) → xs = bs.map V.bl
  | _, [], h => by cases h; rfl
  | _, b :: bs, h => by
    rw [List.map_cons] at h
    cases h with
    | cons h1 h2 =>
      cases h1
      rw [dx_bools h2]
      rfl
theorem rdc_all {bs : List Bool} : RDC w K (rAll K) [.list (bs.map PyData.bool)] (.bool (bs.all id)) := fun xs G H Q s dx q => by
  cases dx with
  | cons d1 dr =>
    cases dr
    cases d1 with
    | lst h r =>
      rw [dx_bools r] at h
      exact ⟨_, bs, rfl, .inl (.inl (s _ _ h)), q _ G H (.refl s) (.bl _)⟩
theorem rdc_tupleL {ds : List PyData} : RDC w K (fun xs H Q => ∃ p ys, xs = [.ref p] ∧ ((SqL K H p ys ∧ ∀ l, H l = none → Q (.ref l) (upd H l (.tup ys))) ∨ (SqT K H p ys ∧ Q (.ref p) H))) [.list ds] (.tuple ds) := fun xs G H Q s dx q => by
  cases dx with
  | cons d1 dr =>
    cases dr
    cases d1 with
    | lst h r => exact ⟨_, _, rfl, .inl ⟨.inl (.inl (s _ _ h)), fun l hl => q _ (upd G l _) _ (.new s hl) (.tup upd_same (r.mono (same_new (s.free hl))))⟩⟩
theorem rdc_tupleT {ds : List PyData} : RDC w K (fun xs H Q => ∃ p ys, xs = [.ref p] ∧ ((SqL K H p ys ∧ ∀ l, H l = none → Q (.ref l) (upd H l (.tup ys))) ∨ (SqT K H p ys ∧ Q (.ref p) H))) [.tuple ds] (.tuple ds) := fun xs G H Q s dx q => by
  cases dx with
  | cons d1 dr =>
    cases dr
    cases d1 with
    | tup h r => exact ⟨_, _, rfl, .inr ⟨.inl (.inl (s _ _ h)), q _ G H (.refl s) (.tup h r)⟩⟩
theorem rdc_listL {ds : List PyData} : RDC w K (fun xs H Q => ∃ p ys, xs = [.ref p] ∧ (SqL K H p ys ∨ SqT K H p ys) ∧ ∀ l, H l = none → Q (.ref l) (upd H l (.lst ys))) [.list ds] (.list ds) := fun xs G H Q s dx q => by
  cases dx with
  | cons d1 dr =>
    cases dr
    cases d1 with
    | lst h r => exact ⟨_, _, rfl, .inl (.inl (.inl (s _ _ h))), fun l hl => q _ (upd G l _) _ (.new s hl) (.lst upd_same (r.mono (same_new (s.free hl))))⟩
theorem rdc_listT {ds : List PyData} : RDC w K (fun xs H Q => ∃ p ys, xs = [.ref p] ∧ (SqL K H p ys ∨ SqT K H p ys) ∧ ∀ l, H l = none → Q (.ref l) (upd H l (.lst ys))) [.tuple ds] (.list ds) := fun xs G H Q s dx q => by
  cases dx with
  | cons d1 dr =>
    cases dr
    cases d1 with
    | tup h r => exact ⟨_, _, rfl, .inr (.inl (.inl (s _ _ h))), fun l hl => q _ (upd G l _) _ (.new s hl) (.lst upd_same (r.mono (same_new (s.free hl))))⟩
theorem rd_catT {ds es : List PyData} (hz : ds.length + es.length ≤ sizeLine) : RD2 w K (rCatA K) (.tuple ds) (.tuple es) (.tuple (ds ++ es)) := fun x y G H Q s dx dy q => by
  cases dx with
  | tup h r =>
    cases dy with
    | tup h' r' =>
      refine ⟨_, _, _, _, rfl, rfl, .inl (.inl (s _ _ h)), .inl (.inl (s _ _ h')), by rw [r.length, r'.length]; exact hz, fun e => ?_, fun e1 e2 => ?_, fun e1 e2 p hp => ?_⟩
      · subst e
        cases r
        exact q _ G H (.refl s) (.tup h' r')
      · subst e2
        cases r'
        rw [List.append_nil] at q
        exact q _ G H (.refl s) (.tup h r)
      · exact q _ (upd G p _) _ (.new s hp) (.tup upd_same ((r.append r').mono (same_new (s.free hp))))
theorem rd_catL {ds es : List PyData} (hz : ds.length + es.length ≤ sizeLine) : RD2 w K rCat (.list ds) (.list es) (.list (ds ++ es)) := fun x y G H Q s dx dy q => by
  cases dx with
  | lst h r =>
    cases dy with
    | lst h' r' => exact ⟨_, _, _, _, rfl, rfl, s _ _ h, s _ _ h', by rw [r.length, r'.length]; exact hz, fun p hp => q _ (upd G p _) _ (.new s hp) (.lst upd_same ((r.append r').mono (same_new (s.free hp))))⟩
end
/-! ### dicts by text keys, chains, slices -/
section
variable {X : Cx} {ρ : Env} {a b c : Expr} {pos : Pos}
def lookD (ds : List (PyData × PyData)) (k : Key) : Option PyData := (ds.find? fun e => match e.1, k with
  | .str x, .inr y => decide (x = y)
  | .int i, .inl j => decide (i = j)
  | _, _ => false).map (·.2)
theorem dxk_look {w : World} {K : PySem.W.Frag} {G : Hp} {k : Key} {d : PyData} : ∀ {kvs : List (Key × V)} {ds : List (PyData × PyData)}, DxK w K G kvs ds → lookD ds k = some d → ∃ v, valV kvs k = some v ∧ Dx w K G v d
  | _, _, .nil, h => by simp [lookD] at h
  | (k', v) :: kvs, _, .cons (d := d') (ds := ds) h r, e => by
    by_cases hk : k' = k
    · subst hk
      have e2 : lookD ((keyD k', d') :: ds) k' = some d' := by
        unfold lookD
        cases k' <;> simp [keyD]
      rw [e2] at e
      cases e
      exact ⟨v, by simp [valV], h⟩
    · have e2 : lookD ((keyD k', d') :: ds) k = lookD ds k := by
        unfold lookD
        rw [List.find?_cons_of_neg]
        cases k' <;> cases k <;> simp_all [keyD]
      rw [e2] at e
      obtain ⟨u, h1, h2⟩ := dxk_look r e
      refine ⟨u, ?_, h2⟩
      unfold valV at h1 ⊢
      rw [List.find?_cons_of_neg (by simpa using hk)]
      exact h1
end
end K64

/-! ## K64Prim2 -/
/-! Chains, slices, isinstance, subscripts of dicts, index, global numbers. -/
namespace K64
open PySem PySem.Spec PyProof.Rows L2 PySem.W
section
variable {X : Cx} {ρ : Env} {a b c e : Expr} {pos : Pos} {d da db dc : PyData}
theorem td_chain {r r' : R2} {w : World} {K : PySem.W.Frag} {k l : Bool} (h1 : RD2 w K r da db (.bool k)) (h2 : k = true → RD2 w K r' db dc (.bool l)) : ∀ σ H Q, tD w K ρ (.bool (k && l)) σ H Q → tChain r r' (tD w K ρ da) (tD w K ρ db) (tD w K ρ dc) σ H Q := fun σ H Q ⟨G, s, env, q⟩ =>
  ⟨G, s, env, fun x G1 H1 g1 dx => ⟨G1, g1.s, env.mono g1.g, fun y G2 H2 g2 dy => h1 x y G2 H2 _ g2.s (dx.mono g2.g) dy fun v G3 H3 g3 dv => by
    cases dv
    refine ⟨k, rfl, ?_⟩
    cases k with
    | false => exact iteF (q _ G3 H3 ((g1.trans g2).trans g3) (.bl _))
    | true => exact iteT ⟨G3, g3.s, env.mono (g1.g.trans (g2.g.trans g3.g)), fun z G4 H4 g4 dz => h2 rfl y z G4 H4 Q g4.s (dy.mono (g3.g.trans g4.g)) dz fun v G' H' g dv => q v G' H' ((((g1.trans g2).trans g3).trans g4).trans g) dv⟩⟩⟩
theorem de_chain {op op' : CmpOp} {r r' : R2} {k l : Bool} (ho : OpR X (compareOp op) r) (ho' : OpR X (compareOp op') r') (h1 : RD2 X.w X.K r da db (.bool k)) (h2 : k = true → RD2 X.w X.K r' db dc (.bool l)) (ha : DE X a ρ da) (hb : DE X b ρ db) (hc : DE X c ρ dc)
    (hm : lastMarks [op, op'] [b, c] = false := by with_unfolding_all rfl) : DE X (.Compare a [op, op'] [b, c] pos) ρ (.bool (k && l)) := pe_imp (pe_chain ho ho' ha hb hc hm) (td_chain h1 h2)
theorem dt_chain {op op' : CmpOp} {r r' : R2} {k l : Bool} (ho : OpR X (compareOp op) r) (ho' : OpR X (compareOp op') r') (h1 : RD2 X.w X.K r da db (.bool k)) (h2 : k = true → RD2 X.w X.K r' db dc (.bool l)) (ha : DE X a ρ da) (hb : DE X b ρ db) (hc : DE X c ρ dc)
    (hm : lastMarks [op, op'] [b, c] = false := by with_unfolding_all rfl) : DT X (.Compare a [op, op'] [b, c] pos) ρ (k && l) := pt_imp (pt_chain ho ho' ha hb hc hm) fun σ H Q ⟨G, s, env, q⟩ => td_chain h1 h2 σ H _ ⟨G, s, env, fun v G' H' g dv => by
    cases dv
    exact ⟨_, rfl, q G' H' g⟩⟩
/-- a number of the module -/
theorem de_gint {x : Str} {i : Int} {t : Tok} (hg : Gl X x) (hm : X.mg x = some (.int i t)) (hd : (x == ("__debug__" : Str)) = false := by decide) : DE X (.Name x pos) ρ (.int i) := de_const (pe_glob (v := .int i) hg hm ⟨_, rfl⟩ hd) fun _ _ _ => .int i
theorem de_neg {i : Int} (h : DE X a ρ (.int i)) : DE X (.UnaryOp .USub a pos) ρ (.int (-i)) := de_un un_neg (fun x G H Q s dx q => by
  cases dx
  exact ⟨i, rfl, q _ G H (.refl s) (.int _)⟩) h
/-! ### slices -/
theorem cutV_from1 (xs : List V) : cutV xs (some 1) none = xs.drop 1 := by
  unfold cutV
  rw [show HT.sIx xs.length 0 (some 1) = min 1 xs.length from HT.sIx_nat xs.length 0 1, HT.sIx_none]
  cases xs with
  | nil => rfl
  | cons x r =>
    rw [show min 1 (x :: r).length = 1 by rw [List.length_cons]; omega]
    show List.take ((x :: r).length - 1) r = r
    rw [List.length_cons, Nat.add_sub_cancel]
    exact List.take_length
theorem cutV_to (xs : List V) (n : Nat) : cutV xs none (some (n : Int)) = xs.take n := by
  unfold cutV
  rw [HT.sIx_none, HT.sIx_nat, List.drop_zero, Nat.sub_zero]
  rcases Nat.le_total n xs.length with h | h
  · rw [Nat.min_eq_left h]
  · rw [Nat.min_eq_right h, List.take_length, List.take_of_length_le h]
theorem de_drop1T {ds : List PyData} {k p1 p2 p3} (ha : DE X a ρ (.tuple ds)) : DE X (.Subscript a (.Slice (some (.Constant (.int 1) k p1)) none none p2) p3) ρ (.tuple (ds.drop 1)) :=
  pe_imp (pe_slice sl_tupA ha (po_some pe_int) po_none) fun σ H Q ⟨G, s, env, q⟩ => ⟨G, s, env, fun x G1 H1 g1 dx => ⟨1, rfl, by
    cases dx with
    | tup h r =>
      refine ⟨_, _, rfl, .inl (.inl (g1.s _ _ h)), fun e => ?_, fun e p hp => ?_⟩
      · have e1 := e.1
        rename_i xs
        rw [show HT.sIx xs.length 0 (some 1) = min 1 xs.length from HT.sIx_nat xs.length 0 1] at e1
        have e2 : xs.length = 0 := by omega
        have e3 : xs = [] := List.eq_nil_of_length_eq_zero e2
        subst e3
        cases r
        exact q _ G1 H1 g1 (.tup h .nil)
      · rw [cutV_from1]
        exact q _ (upd G1 p _) _ (g1.trans (.new g1.s hp)) (.tup upd_same ((r.drop 1).mono (same_new (g1.s.free hp))))⟩⟩
theorem de_drop1L {ds : List PyData} {k p1 p2 p3} (ha : DE X a ρ (.list ds)) : DE X (.Subscript a (.Slice (some (.Constant (.int 1) k p1)) none none p2) p3) ρ (.list (ds.drop 1)) :=
  pe_imp (pe_slice sl_list ha (po_some pe_int) po_none) fun σ H Q ⟨G, s, env, q⟩ => ⟨G, s, env, fun x G1 H1 g1 dx => ⟨1, rfl, by
    cases dx with
    | lst h r =>
      refine ⟨_, _, rfl, .inl (.inl (g1.s _ _ h)), fun p hp => ?_⟩
      rw [cutV_from1]
      exact q _ (upd G1 p _) _ (g1.trans (.new g1.s hp)) (.lst upd_same ((r.drop 1).mono (same_new (g1.s.free hp))))⟩⟩
theorem de_takeT {ds : List PyData} {n : Nat} {p2 p3} (ha : DE X a ρ (.tuple ds)) (hb : DE X b ρ (.int (n : Nat))) : DE X (.Subscript a (.Slice none (some b) none p2) p3) ρ (.tuple (ds.take n)) :=
  pe_imp (pe_slice sl_tupA ha po_none (po_some hb)) fun σ H Q ⟨G, s, env, q⟩ => ⟨G, s, env, fun x G1 H1 g1 dx => ⟨G1, g1.s, env.mono g1.g, fun y G2 H2 g2 dy => by
    cases dy
    refine ⟨(n : Int), rfl, ?_⟩
    cases dx with
    | tup h r =>
      have r2 := r.mono g2.g
      have h2 := g2.g _ _ h
      refine ⟨_, _, rfl, .inl (.inl (g2.s _ _ h2)), fun e => ?_, fun e p hp => ?_⟩
      · have e1 := e.2
        rename_i xs
        rw [HT.sIx_nat] at e1
        have e2 : ds.take n = ds := List.take_of_length_le (by rw [← r.length]; omega)
        rw [e2] at q
        exact q _ G2 H2 (g1.trans g2) (.tup h2 r2)
      · rw [cutV_to]
        exact q _ (upd G2 p _) _ ((g1.trans g2).trans (.new g2.s hp)) (.tup upd_same ((r2.take n).mono (same_new (g2.s.free hp))))⟩⟩
/-! ### isinstance -/
def tyName : PyData → String
  | .none => "NoneType"
  | .bool _ => "bool"
  | .int _ => "int"
  | .str _ => "str"
  | .list _ => "list"
  | .tuple _ => "tuple"
  | .dict _ => "dict"
theorem dx_ty {w : World} {K : PySem.W.Frag} {G H : Hp} (s : Same G H) {v : V} {d : PyData} (h : Dx w K G v d) (hp : d.plain = true) : TyX K H v (.type (tyName d)) := by
  cases h with
  | non => exact .base .non
  | bl b => exact .base (.bl b)
  | int i => exact .base (.int i)
  | str x => exact .base (.str x)
  | lst h r => exact .base (.lst (s _ _ h))
  | tup h r => exact .base (.tup (s _ _ h))
  | dk h r _ => simp [PyData.plain] at hp
  | dn h r => simp [PyData.plain] at hp
  | net h r => simp [PyData.plain] at hp
  | scr h => simp [PyData.plain] at hp
theorem de_isi {T : String} {x : Str} {p p1 : Pos} {k : Bool} (ha : DE X a ρ d) (hp : d.plain = true) (hk : kitB (tyName d) T = some k) (hg : Gl X "isinstance") (hm : X.mg "isinstance" = none) (hgx : Gl X x) (hmx : X.mg x = none) (hv : bootBuiltins x = some (.type T))
    (hn : x ≠ "__name__" := by decide) (hd : (x == ("__debug__" : Str)) = false := by decide)
    (he : starEach [a, .Name x p1] X.env = (false, eval a X.env) :: starEach [.Name x p1] X.env := by rfl) (he2 : starEach [.Name x p1] X.env = (false, eval (.Name x p1) X.env) :: starEach [] X.env := by rfl) (hpl : (backTo pos (starEach [.Name x p1] X.env)).any (·.1) = false := by rfl) :
    DE X (.Call (.Name "isinstance" p) [a, .Name x p1] [] pos) ρ (.bool k) :=
  pe_imp (pe_callB call_isi hg hm (by decide +kernel) (pa_cons ha (pa_cons (pe_bltn (v := .ty T) hgx hmx hv rfl hn hd) pa_nil he2) he) (by decide) (by decide) he hpl) fun σ H Q ⟨G, s, env, q⟩ => ⟨G, s, env, fun v G1 H1 g1 dv =>
    ⟨v, .ty T, .type (tyName d), .type T, k, rfl, .ty T, dx_ty g1.s dv hp, kit_ty hk, q _ G1 H1 g1 (.bl _)⟩⟩
/-! ### subscripts of dicts -/
theorem de_dget {k : Key} {kd : PyData} {ds : List (PyData × PyData)} (hu : X.A.units + 1 < cLine) (ha : DE X a ρ (.dict ds)) (hb : DE X b ρ (keyD k)) (hl : lookD ds k = some d) (hn : ∀ w K G v, Dx w K G v (.dict ds) → ∃ p kvs, v = .ref p ∧ G p = some (.dK kvs) ∧ DxK w K G kvs ds) (hs : NoSl b) : DE X (.Subscript a b pos) ρ d :=
  pe_imp (pe_dget hu ha hb hs) fun σ H Q ⟨G, s, env, q⟩ => ⟨G, s, env, fun x G1 H1 g1 dx => ⟨G1, g1.s, env.mono g1.g, fun y G2 H2 g2 dy => by
    obtain ⟨p, kvs, rfl, hp, r⟩ := hn _ _ _ _ dx
    obtain ⟨v, h1, h2⟩ := dxk_look r hl
    have ey : y = kV k := by
      cases k with
      | inl i => cases dy; rfl
      | inr z => cases dy; rfl
    subst ey
    refine ⟨p, v, rfl, ?_, q v G2 H2 (g1.trans g2) (h2.mono g2.g)⟩
    have := DGet.k (k := k) (g2.h _ _ (g1.s _ _ hp))
    rw [h1] at this
    exact this⟩⟩
/-- a dict with a text key at its head is a dict of the first kind -/
theorem dk_of_str {x : Str} {d0 : PyData} {ds : List (PyData × PyData)} : ∀ w K G v, Dx w K G v (.dict ((.str x, d0) :: ds)) → ∃ p kvs, v = .ref p ∧ G p = some (.dK kvs) ∧ DxK w K G kvs ((.str x, d0) :: ds) := by
  intro w K G v h
  cases h with
  | dk h r _ => exact ⟨_, _, rfl, h, r⟩
  | dn h r =>
    cases r with
    | cons h1 _ _ _ _ => cases h1
/-- entries with nested keys, as data -/
theorem dxn_keys {w : World} {K : PySem.W.Frag} {G H : Hp} (s : Same G H) : ∀ {es : NEs} {ds : List (PyData × PyData)}, DxN w K G es ds → KeysIn w K H es
  | _, _, .nil => .nil
  | _, _, .cons h1 h2 h3 _ r => fun e he => by
    rcases List.mem_cons.mp he with rfl | he
    · exact ⟨_, h1.mono s, h2, h3⟩
    · exact dxn_keys s r e he
def lookT (ds : List (PyData × PyData)) (k : NestedKey) : Option PyData := (ds.find? fun e => decide (keyOf e.1 = some k)).map (·.2)
theorem dxn_look {w : World} {K : PySem.W.Frag} {G : Hp} {k : NestedKey} : ∀ {es : NEs} {ds : List (PyData × PyData)}, DxN w K G es ds → (lookT ds k = none ∧ lookN es k = none) ∨ ∃ d b v, lookT ds k = some d ∧ lookN es k = some (b, v) ∧ Dx w K G v d
  | _, _, .nil => .inl ⟨rfl, rfl⟩
  | (k', b', v') :: es, _, .cons (kd := kd) (d := d') (ds := ds) h1 h2 h3 h4 r => by
    by_cases e : k' = k
    · subst e
      refine .inr ⟨d', b', v', ?_, ?_, h4⟩
      · unfold lookT
        rw [List.find?_cons_of_pos (by simpa using h2)]
        rfl
      · unfold lookN
        rw [List.find?_cons_of_pos (by simp)]
        rfl
    · have a1 : lookT ((kd, d') :: ds) k = lookT ds k := by
        unfold lookT
        rw [List.find?_cons_of_neg (by simpa [h2] using e)]
      have a2 : lookN ((k', b', v') :: es) k = lookN es k := by
        unfold lookN
        rw [List.find?_cons_of_neg (by simpa using e)]
      rw [a1, a2]
      exact dxn_look r
theorem ref_of_key {w : World} {K : PySem.W.Frag} {G : Hp} {v : V} {ds : List PyData} (h : Dx w K G v (.tuple ds)) : ∃ b, v = .ref b := by
  cases h with
  | tup _ _ => exact ⟨_, rfl⟩
/-- what a value of nested-key dict data is -/
def IsDn (ds : List (PyData × PyData)) : Prop := ∀ w K G v, Dx w K G v (.dict ds) → ∃ p es, v = .ref p ∧ G p = some (NDO w p es) ∧ DxN w K G es ds
theorem dxk_key {w : World} {K : PySem.W.Frag} {G : Hp} : ∀ {kvs} {ds : List (PyData × PyData)}, DxK w K G kvs ds → ∀ e ∈ ds, ∃ k, e.1 = keyD k := by
  intro kvs ds h
  induction ds generalizing kvs with
  | nil => exact fun _ h => nomatch h
  | cons e0 ds ih =>
    cases h with
    | cons h r =>
      intro e he
      rcases List.mem_cons.mp he with rfl | he
      · exact ⟨_, rfl⟩
      · exact ih r e he
theorem isDn_cons {ks : List PyData} {d : PyData} {ds : List (PyData × PyData)} : IsDn ((.tuple ks, d) :: ds) := by
  intro w K G v h
  cases h with
  | dn h r => exact ⟨_, _, rfl, h, r⟩
  | dk h r _ =>
    obtain ⟨k, hk⟩ := dxk_key r _ (List.mem_cons_self ..)
    cases k <;> cases hk
/-- .. and the empty dict too: an empty dict of the first kind is no data -/
theorem isDn_nil : IsDn [] := by
  intro w K G v h
  cases h with
  | dn h r => exact ⟨_, _, rfl, h, r⟩
  | dk h r n => exact absurd rfl n
theorem de_dgetN {ks : List PyData} {k : NestedKey} {ds : List (PyData × PyData)} (hu : X.A.units + 9 < cLine) (ha : DE X a ρ (.dict ds)) (hb : DE X b ρ (.tuple ks)) (hk : keyOf (.tuple ks) = some k) (h8 : k.depth ≤ 8) (hl : lookT ds k = some d) (hn : IsDn ds) (hs : NoSl b) : DE X (.Subscript a b pos) ρ d :=
  pe_imp (pe_dgetN hu ha hb hs) fun σ H Q ⟨G, s, env, q⟩ => ⟨G, s, env, fun x G1 H1 g1 dx => ⟨G1, g1.s, env.mono g1.g, fun y G2 H2 g2 dy => by
    obtain ⟨p, es, rfl, hp, r⟩ := hn _ _ _ _ dx
    obtain ⟨c, rfl⟩ := ref_of_key dy
    rcases dxn_look (k := k) r with ⟨e1, _⟩ | ⟨d', b', v, e1, e2, dv⟩
    · rw [e1] at hl; cases hl
    · rw [e1] at hl
      cases hl
      exact ⟨p, es, c, .tuple ks, k, b', v, rfl, rfl, .inl (g2.s _ _ (g2.g _ _ hp)), dxn_keys (g2.g.trans g2.s) r, dy.mono g2.s, hk, h8, e2, q v G2 H2 (g1.trans g2) (dv.mono g2.g)⟩⟩⟩
theorem rd_inN {w : World} {K : PySem.W.Frag} {neg : Bool} {ks : List PyData} {k : NestedKey} {ds : List (PyData × PyData)} (hk : keyOf (.tuple ks) = some k) (h8 : k.depth ≤ 8) (hn : IsDn ds) : RD2 w K (rInN w K neg) (.tuple ks) (.dict ds) (.bool (if neg then !(lookT ds k).isSome else (lookT ds k).isSome)) := fun x y G H Q s dx dy q => by
  obtain ⟨p, es, rfl, hp, r⟩ := hn _ _ _ _ dy
  obtain ⟨c, rfl⟩ := ref_of_key dx
  refine ⟨p, es, c, .tuple ks, k, rfl, rfl, .inl (s _ _ hp), dxn_keys s r, dx.mono s, hk, h8, ?_⟩
  have e : (lookN es k).isSome = (lookT ds k).isSome := by
    rcases dxn_look (k := k) r with ⟨e1, e2⟩ | ⟨d', b', v, e1, e2, dv⟩ <;> rw [e1, e2] <;> rfl
  rw [e]
  exact q _ G H (.refl s) (.bl _)
end
end K64

/-! ## K64Stmt -/
/-! Statements over data: slots that hold frozen data, slots that own an object that may still change, the sack. -/
namespace K64
open PySem PySem.Spec PyProof.Rows L2
/-- what is known of a slot -/
inductive Sl where
  | non
  | dat (d : PyData)
  | ownL (ds : List PyData)
  | ownK (ds : List (PyData × PyData))
  | ownN (ds : List (PyData × PyData))
  | sck
abbrev Sls : Type := List Sl
/-- frozen data alone -/
def Sl.fix : Sl → Option PyData
  | .dat d => some d
  | _ => none
/-- .. and what is owned -/
def Sl.all : Sl → Option PyData
  | .dat d => some d
  | .ownL ds => some (.list ds)
  | .ownK (p :: ds) => some (.dict (p :: ds))
  | .ownN ds => some (.dict ds)
  | _ => none
/-- .. and the dicts that are owned -/
def Sl.dcs : Sl → Option PyData
  | .dat d => some d
  | .ownK (p :: ds) => some (.dict (p :: ds))
  | .ownN ds => some (.dict ds)
  | _ => none
def Sl.isOwn : Sl → Bool
  | .ownL _ => true
  | .ownK _ => true
  | .ownN _ => true
  | _ => false
abbrev er (ρ : Sls) : Env := ρ.map Sl.fix
abbrev erA (ρ : Sls) : Env := ρ.map Sl.all
abbrev erD (ρ : Sls) : Env := ρ.map Sl.dcs
/-- what surrounds the walk: what was frozen and what stood at its start; the sack -/
structure Fr where
  G0 : Hp
  H0 : Hp
  sk : Option Addr
def Sk (H : Hp) (k : Addr) : Prop := ∃ a b c : Int, H k = some (.lst [.int a, .int b, .int c])
/-- the object o of an owned slot -/
def Hold (w : World) (K : PySem.W.Frag) (G : Hp) (p : Addr) : Sl → HO → Prop
  | .ownL ds, o => ∃ xs, o = .lst xs ∧ DxAll w K G xs ds
  | .ownK ds, o => ∃ kvs, o = .dK kvs ∧ DxK w K G kvs ds
  | .ownN ds, o => ∃ es, o = NDO w p es ∧ DxN w K G es ds
  | _, _ => False
theorem Hold.mono {w : World} {K : PySem.W.Frag} {G G' : Hp} {p : Addr} (e : Same G G') : ∀ {sl : Sl} {o : HO}, Hold w K G p sl o → Hold w K G' p sl o
  | .ownL _, _, ⟨xs, h, r⟩ => ⟨xs, h, r.mono e⟩
  | .ownK _, _, ⟨xs, h, r⟩ => ⟨xs, h, r.mono e⟩
  | .ownN _, _, ⟨xs, h, r⟩ => ⟨xs, h, r.mono e⟩
theorem Hold.own {w : World} {K : PySem.W.Frag} {G : Hp} {p : Addr} : ∀ {sl : Sl} {o : HO}, Hold w K G p sl o → sl.isOwn = true
  | .ownL _, _, _ => rfl
  | .ownK _, _, _ => rfl
  | .ownN _, _, _ => rfl
/-- frozen -/
theorem Hold.dx {w : World} {K : PySem.W.Frag} {G : Hp} {p : Addr} {o : HO} (hG : G p = some o) : ∀ {sl : Sl} {d : PyData}, Hold w K G p sl o → sl.all = some d → Dx w K G (.ref p) d
  | .ownL _, _, ⟨xs, h, r⟩, e => by
    cases e
    exact .lst (by rw [hG, h]) r
  | .ownK [], _, ⟨xs, h, r⟩, e => by cases e
  | .ownK (_ :: _), _, ⟨xs, h, r⟩, e => by
    cases e
    exact .dk (by rw [hG, h]) r (List.cons_ne_nil _ _)
  | .ownN _, _, ⟨xs, h, r⟩, e => by
    cases e
    exact .dn (by rw [hG, h]) r
/-- what a slot's value is -/
def SlOk (w : World) (K : PySem.W.Frag) (F : Fr) (G H : Hp) (o : Option (Option V)) : Sl → Prop
  | .non => True
  | .dat d => ∃ v, o = some (some v) ∧ Dx w K G v d
  | .sck => ∃ k, F.sk = some k ∧ o = some (some (.ref k))
  | sl => ∃ p b, o = some (some (.ref p)) ∧ H p = some b ∧ G p = none ∧ F.H0 p = none ∧ F.sk ≠ some p ∧ Hold w K G p sl b
theorem SlOk.own {w : World} {K : PySem.W.Frag} {F : Fr} {G H : Hp} {o : Option (Option V)} : ∀ {sl : Sl}, sl.isOwn = true → SlOk w K F G H o sl → ∃ p b, o = some (some (.ref p)) ∧ H p = some b ∧ G p = none ∧ F.H0 p = none ∧ F.sk ≠ some p ∧ Hold w K G p sl b
  | .ownL _, _, h => h
  | .ownK _, _, h => h
  | .ownN _, _, h => h
theorem SlOk.mk {w : World} {K : PySem.W.Frag} {F : Fr} {G H : Hp} {o : Option (Option V)} {p : Addr} {b : HO} (h1 : o = some (some (.ref p))) (h2 : H p = some b) (h3 : G p = none) (h4 : F.H0 p = none) (h5 : F.sk ≠ some p) : ∀ {sl : Sl}, Hold w K G p sl b → SlOk w K F G H o sl
  | .ownL _, h => ⟨p, b, h1, h2, h3, h4, h5, h⟩
  | .ownK _, h => ⟨p, b, h1, h2, h3, h4, h5, h⟩
  | .ownN _, h => ⟨p, b, h1, h2, h3, h4, h5, h⟩
/-- the state of a walk -/
structure StG (w : World) (K : PySem.W.Frag) (F : Fr) (ρ : Sls) (σ : L2.St) (G H : Hp) : Prop where
  grow : Grow F.G0 F.H0 G H
  len : ρ.length ≤ σ.length
  at_ : ∀ (i : Nat) (sl : Sl), ρ[i]? = some sl → SlOk w K F G H (σ[i]?) sl
  dist : ∀ (i j : Nat) (a b : Sl), ρ[i]? = some a → ρ[j]? = some b → a.isOwn = true → b.isOwn = true → i ≠ j → σ[i]? ≠ σ[j]?
  sack : ∀ k, F.sk = some k → F.H0 k = none ∧ G k = none ∧ Sk H k
section
variable {w : World} {K : PySem.W.Frag} {F : Fr} {ρ : Sls} {σ : L2.St} {G H G' H' : Hp}
theorem SlOk.grow (g : Grow G H G' H') {o : Option (Option V)} : ∀ {sl : Sl}, SlOk w K F G H o sl → SlOk w K F G' H' o sl
  | .non, _ => trivial
  | .dat d, ⟨v, h, r⟩ => ⟨v, h, r.mono g.g⟩
  | .sck, h => h
  | .ownL _, ⟨p, b, h1, h2, h3, h4, h5, h6⟩ => ⟨p, b, h1, g.h _ _ h2, g.n p h3 (by rw [h2]; exact fun z => nomatch z), h4, h5, h6.mono g.g⟩
  | .ownK _, ⟨p, b, h1, h2, h3, h4, h5, h6⟩ => ⟨p, b, h1, g.h _ _ h2, g.n p h3 (by rw [h2]; exact fun z => nomatch z), h4, h5, h6.mono g.g⟩
  | .ownN _, ⟨p, b, h1, h2, h3, h4, h5, h6⟩ => ⟨p, b, h1, g.h _ _ h2, g.n p h3 (by rw [h2]; exact fun z => nomatch z), h4, h5, h6.mono g.g⟩
theorem StG.mono (S : StG w K F ρ σ G H) (g : Grow G H G' H') : StG w K F ρ σ G' H' where
  grow := S.grow.trans g
  len := S.len
  at_ := fun i sl h => (S.at_ i sl h).grow g
  dist := S.dist
  sack := fun k h => by
    obtain ⟨a, b, x, y, z, c⟩ := S.sack k h
    exact ⟨a, g.n k b (by rw [c]; exact fun z => nomatch z), x, y, z, g.h _ _ c⟩
theorem env_of {f : Sl → Option PyData} : ∀ {ρ : Sls} {σ : L2.St}, ρ.length ≤ σ.length → (∀ (i : Nat) (sl : Sl) (d : PyData), ρ[i]? = some sl → f sl = some d → ∃ v, σ[i]? = some (some v) ∧ Dx w K G v d) → EnvD w K G σ (ρ.map f)
  | [], _, _, _ => .nil
  | _ :: _, [], h, _ => by simp at h
  | sl :: ρ, o :: σ, h, q => by
    have ih : EnvD w K G σ (ρ.map f) := env_of (by simpa using h) fun i sl' d e1 e2 => q (i + 1) sl' d e1 e2
    rw [List.map_cons]
    cases hf : f sl with
    | none => cases o <;> exact ih
    | some d =>
      obtain ⟨v, h1, h2⟩ := q 0 sl d rfl hf
      cases o with
      | none => simp at h1
      | some v' =>
        have e : v' = v := by simpa using h1
        subst e
        exact ⟨h2, ih⟩
theorem StG.env (S : StG w K F ρ σ G H) : EnvD w K G σ (er ρ) := env_of S.len fun i sl d h e => by
  have := S.at_ i sl h
  cases sl with
  | dat d' =>
    cases e
    exact this
  | _ => cases e
/-- the start of a walk over frozen data -/
theorem StG.init {ds : List PyData} (s : Same G H) (env : EnvD w K G σ (ds.map some)) : StG w K ⟨G, H, none⟩ (ds.map Sl.dat) σ G H where
  grow := .refl s
  len := by have := env.len; simpa using this
  at_ := fun i sl h => by
    rw [List.getElem?_map] at h
    obtain ⟨d, h1, rfl⟩ := Option.map_eq_some_iff.mp h
    exact env.get (by rw [List.getElem?_map, h1]; rfl)
  dist := fun i j a b h1 h2 e1 e2 => by
    rw [List.getElem?_map] at h1
    obtain ⟨d, h1, rfl⟩ := Option.map_eq_some_iff.mp h1
    cases e1
  sack := fun k h => nomatch h
/-- less is known -/
theorem StG.weak {ρ' : Sls} (S : StG w K F ρ σ G H) (hl : ρ'.length ≤ ρ.length) (h : ∀ (i : Nat) (sl : Sl), ρ'[i]? = some sl → sl = .non ∨ ρ[i]? = some sl) : StG w K F ρ' σ G H where
  grow := S.grow
  len := Nat.le_trans hl S.len
  at_ := fun i sl e => by
    rcases h i sl e with rfl | q
    · exact trivial
    · exact S.at_ i sl q
  dist := fun i j a b e1 e2 o1 o2 => by
    rcases h i a e1 with rfl | q1
    · cases o1
    · rcases h j b e2 with rfl | q2
      · cases o2
      · exact S.dist i j a b q1 q2 o1 o2
  sack := S.sack
theorem get_set {α : Type} {l : List α} {i j : Nat} {a b : α} (h : (l.set i a)[j]? = some b) : (i = j ∧ i < l.length ∧ b = a) ∨ (i ≠ j ∧ l[j]? = some b) := by
  by_cases e : i = j
  · subst e
    by_cases hl : i < l.length
    · rw [List.getElem?_set_self hl] at h
      exact .inl ⟨rfl, hl, (Option.some.inj h).symm⟩
    · rw [List.getElem?_eq_none (by rw [List.length_set]; omega)] at h
      cases h
  · rw [List.getElem?_set_ne e] at h
    exact .inr ⟨e, h⟩
/-- a slot takes frozen data -/
theorem StG.set {v : V} {d : PyData} {i : Nat} (S : StG w K F ρ σ G H) (dx : Dx w K G v d) : StG w K F (ρ.set i (.dat d)) (σ.set i (some v)) G H where
  grow := S.grow
  len := by rw [List.length_set, List.length_set]; exact S.len
  at_ := fun j sl h => by
    rcases get_set h with ⟨rfl, hl, rfl⟩ | ⟨e, h⟩
    · exact ⟨v, List.getElem?_set_self (Nat.lt_of_lt_of_le hl S.len), dx⟩
    · rw [List.getElem?_set_ne e]
      exact S.at_ j sl h
  dist := fun j k a b h1 h2 o1 o2 e => by
    rcases get_set h1 with ⟨rfl, hl, rfl⟩ | ⟨e1, h1⟩
    · cases o1
    · rcases get_set h2 with ⟨rfl, hl, rfl⟩ | ⟨e2, h2⟩
      · cases o2
      · rw [List.getElem?_set_ne e1, List.getElem?_set_ne e2]
        exact S.dist j k a b h1 h2 o1 o2 e
  sack := S.sack
/-- a slot is forgotten -/
theorem StG.drop {i : Nat} {o : Option V} (S : StG w K F ρ σ G H) : StG w K F (ρ.set i .non) (σ.set i o) G H where
  grow := S.grow
  len := by rw [List.length_set, List.length_set]; exact S.len
  at_ := fun j sl h => by
    rcases get_set h with ⟨rfl, hl, rfl⟩ | ⟨e, h⟩
    · exact trivial
    · rw [List.getElem?_set_ne e]
      exact S.at_ j sl h
  dist := fun j k a b h1 h2 o1 o2 e => by
    rcases get_set h1 with ⟨rfl, hl, rfl⟩ | ⟨e1, h1⟩
    · cases o1
    · rcases get_set h2 with ⟨rfl, hl, rfl⟩ | ⟨e2, h2⟩
      · cases o2
      · rw [List.getElem?_set_ne e1, List.getElem?_set_ne e2]
        exact S.dist j k a b h1 h2 o1 o2 e
  sack := S.sack
/-- a slot takes an object that no other slot owns -/
theorem StG.take {sl : Sl} {i : Nat} {p : Addr} {b : HO} (S : StG w K F ρ σ G H) (h2 : H p = some b) (h3 : G p = none) (h4 : F.H0 p = none) (h5 : F.sk ≠ some p) (hold : Hold w K G p sl b) (hno : ∀ (j : Nat) (a : Sl), ρ[j]? = some a → a.isOwn = true → j ≠ i → σ[j]? ≠ some (some (.ref p))) :
    StG w K F (ρ.set i sl) (σ.set i (some (.ref p))) G H where
  grow := S.grow
  len := by rw [List.length_set, List.length_set]; exact S.len
  at_ := fun j s h => by
    rcases get_set h with ⟨rfl, hl, rfl⟩ | ⟨e, h⟩
    · exact .mk (List.getElem?_set_self (Nat.lt_of_lt_of_le hl S.len)) h2 h3 h4 h5 hold
    · rw [List.getElem?_set_ne e]
      exact S.at_ j s h
  dist := fun j k a c h1 h2 o1 o2 e => by
    rcases get_set h1 with ⟨rfl, hl, rfl⟩ | ⟨e1, h1⟩
    · rcases get_set h2 with ⟨rfl, hl2, rfl⟩ | ⟨e2, h2⟩
      · exact absurd rfl e
      · rw [List.getElem?_set_self (Nat.lt_of_lt_of_le hl S.len), List.getElem?_set_ne e2]
        exact fun z => hno k c h2 o2 (Ne.symm e2) z.symm
    · rcases get_set h2 with ⟨rfl, hl2, _⟩ | ⟨e2, h2⟩
      · rw [List.getElem?_set_self (Nat.lt_of_lt_of_le hl2 S.len), List.getElem?_set_ne e1]
        exact hno j a h1 o1 (Ne.symm e1)
      · rw [List.getElem?_set_ne e1, List.getElem?_set_ne e2]
        exact S.dist j k a c h1 h2 o1 o2 e
  sack := S.sack
/-- an object that just came -/
theorem StG.new {sl : Sl} {i : Nat} {p : Addr} {b : HO} (S : StG w K F ρ σ G H) (hp : H p = none) (g : Grow G H G' H') (h2 : H' p = some b) (h3 : G' p = none) (hold : Hold w K G' p sl b) : StG w K F (ρ.set i sl) (σ.set i (some (.ref p))) G' H' :=
  (S.mono g).take h2 h3 (S.grow.h.free hp) (fun z => by
    obtain ⟨_, _, x, y, q, c⟩ := S.sack p z
    rw [hp] at c; cases c) hold fun j a h o _ z => by
    obtain ⟨p', b', e1, e2, _⟩ := SlOk.own o (S.at_ j a h)
    rw [z] at e1
    cases e1
    rw [hp] at e2; cases e2
/-- an owned object changes -/
theorem StG.put {sl sl' : Sl} {i : Nat} {p : Addr} {b : HO} (S : StG w K F ρ σ G H) (hi : ρ[i]? = some sl) (ho : sl.isOwn = true) (hp : σ[i]? = some (some (.ref p))) (hold : Hold w K G p sl' b) : StG w K F (ρ.set i sl') σ G (upd H p b) := by
  obtain ⟨p', b', e1, e2, e3, e4, e5, _⟩ := SlOk.own ho (S.at_ i sl hi)
  rw [hp] at e1
  cases e1
  refine ⟨⟨S.grow.g, fun a o e => ?_, same_mut S.grow.s e3, S.grow.n⟩, by rw [List.length_set]; exact S.len, fun j s h => ?_, fun j k a c h1 h2 o1 o2 e => ?_, fun k hk => ?_⟩
  · rw [upd_ne (ne_of_none e e4)]
    exact S.grow.h a o e
  · rcases get_set h with ⟨rfl, hl, rfl⟩ | ⟨e, h⟩
    · exact .mk hp upd_same e3 e4 e5 hold
    · have q := S.at_ j s h
      by_cases os : s.isOwn = true
      · obtain ⟨p2, b2, f1, f2, f3, f4, f5, f6⟩ := SlOk.own os q
        refine .mk f1 ?_ f3 f4 f5 f6
        rw [upd_ne fun z => S.dist i j sl s hi h ho os e (by rw [hp, f1, z])]
        exact f2
      · cases s with
        | non => exact trivial
        | dat d => exact q
        | sck => exact q
        | _ => exact absurd rfl os
  · have hj : ∀ (j : Nat) (a : Sl), (ρ.set i sl')[j]? = some a → a.isOwn = true → ∃ a', ρ[j]? = some a' ∧ a'.isOwn = true := fun j a h o => by
      rcases get_set h with ⟨rfl, hl, rfl⟩ | ⟨e, h⟩
      · exact ⟨sl, hi, ho⟩
      · exact ⟨a, h, o⟩
    obtain ⟨a', x1, x2⟩ := hj j a h1 o1
    obtain ⟨c', y1, y2⟩ := hj k c h2 o2
    exact S.dist j k a' c' x1 y1 x2 y2 e
  · obtain ⟨a, b, x, y, z, c⟩ := S.sack k hk
    refine ⟨a, b, x, y, z, ?_⟩
    rw [upd_ne fun z => e5 (by rw [hk, z])]
    exact c
/-- an owned object is frozen -/
theorem StG.frz {sl : Sl} {i : Nat} (S : StG w K F ρ σ G H) (hi : ρ[i]? = some sl) (ho : sl.isOwn = true) {d : PyData} (hd : sl.all = some d) : ∃ G', Same G G' ∧ StG w K F (ρ.set i (.dat d)) σ G' H := by
  obtain ⟨p, b, e1, e2, e3, e4, e5, e6⟩ := SlOk.own ho (S.at_ i sl hi)
  have sG : Same G (upd G p b) := same_new e3
  have dx := (e6.mono sG).dx upd_same hd
  refine ⟨upd G p b, sG, ⟨S.grow.g.trans sG, S.grow.h, same_frz S.grow.s e2, fun a h1 h2 => ?_⟩, by rw [List.length_set]; exact S.len, fun j s h => ?_, fun j k a c h1 h2 o1 o2 e => ?_, fun k hk => ?_⟩
  · rw [upd_ne fun z => h2 (by rw [z]; exact e4)]
    exact S.grow.n a h1 h2
  · rcases get_set h with ⟨rfl, hl, rfl⟩ | ⟨e, h⟩
    · exact ⟨_, e1, dx⟩
    · have q := S.at_ j s h
      by_cases os : s.isOwn = true
      · obtain ⟨p2, b2, f1, f2, f3, f4, f5, f6⟩ := SlOk.own os q
        refine .mk f1 f2 ?_ f4 f5 (f6.mono sG)
        rw [upd_ne fun z => S.dist i j sl s hi h ho os e (by rw [e1, f1, z])]
        exact f3
      · cases s with
        | non => exact trivial
        | dat d => obtain ⟨v, q1, q2⟩ := q; exact ⟨v, q1, q2.mono sG⟩
        | sck => exact q
        | _ => exact absurd rfl os
  · rcases get_set h1 with ⟨rfl, hl, rfl⟩ | ⟨e1, h1⟩
    · cases o1
    · rcases get_set h2 with ⟨rfl, hl, rfl⟩ | ⟨e2, h2⟩
      · cases o2
      · exact S.dist j k a c h1 h2 o1 o2 e
  · obtain ⟨a, b', c⟩ := S.sack k hk
    refine ⟨a, ?_, c⟩
    rw [upd_ne fun z => e5 (by rw [hk, z])]
    exact b'
end
end K64

/-! ## K64Run -/
/-! Expressions that may draw or change what is owned; statements; loops. -/
namespace K64
open PySem PySem.Spec PyProof.Rows L2
section
variable {w : World} {K : PySem.W.Frag}
/-- .. gives some d, leaves some slots, as P says -/
def tX (w : World) (K : PySem.W.Frag) (ρ : Sls) (P : PyData → Sls → Prop) : TE := fun σ H Q => ∃ F G, StG w K F ρ σ G H ∧ ∀ v d ρ' G' H', P d ρ' → StG w K F ρ' σ G' H' → Same G G' → Dx w K G' v d → Q v H'
def tXT (w : World) (K : PySem.W.Frag) (ρ : Sls) (P : Bool → Sls → Prop) : TT := fun σ H Q => ∃ F G, StG w K F ρ σ G H ∧ ∀ b ρ' G' H', P b ρ' → StG w K F ρ' σ G' H' → Same G G' → Q b H'
def tXA (w : World) (K : PySem.W.Frag) (ρ : Sls) (P : List PyData → Sls → Prop) : TA := fun σ H Q => ∃ F G, StG w K F ρ σ G H ∧ ∀ vs ds ρ' G' H', P ds ρ' → StG w K F ρ' σ G' H' → Same G G' → DxAll w K G' vs ds → Q vs H'
/-- .. gives a new object, as sl says -/
def tO (w : World) (K : PySem.W.Frag) (ρ : Env) (sl : Sl) : TE := fun σ H Q => ∃ G, Same G H ∧ EnvD w K G σ ρ ∧ ∀ p b G' H', Grow G H G' H' → H p = none → G' p = none → H' p = some b → Hold w K G' p sl b → Q (.ref p) H'
end
def EX (X : Cx) (e : Expr) (ρ : Sls) (P : PyData → Sls → Prop) : Prop := PE X e (tX X.w X.K ρ P)
def TX (X : Cx) (e : Expr) (ρ : Sls) (P : Bool → Sls → Prop) : Prop := PT X e (tXT X.w X.K ρ P)
def XA (X : Cx) (es : List Expr) (ρ : Sls) (P : List PyData → Sls → Prop) : Prop := PA X es (tXA X.w X.K ρ P)
def DO (X : Cx) (e : Expr) (ρ : Env) (sl : Sl) : Prop := PE X e (tO X.w X.K ρ sl)
section
variable {X : Cx} {ρ : Sls} {a b c e : Expr} {pos : Pos} {d da db dc : PyData} {P : PyData → Sls → Prop}
/-- one answer, nothing changes -/
abbrev Is (d : PyData) (ρ : Sls) : PyData → Sls → Prop := fun x r => x = d ∧ r = ρ
theorem ex_of (h : DE X e (er ρ) d) : EX X e ρ (Is d ρ) := pe_imp h fun σ H Q ⟨F, G, S, q⟩ => ⟨G, S.grow.s, S.env, fun v G' H' g dx => q v d ρ G' H' ⟨rfl, rfl⟩ (S.mono g) g.g dx⟩
theorem ex_imp {P' : PyData → Sls → Prop} (h : EX X e ρ P) (i : ∀ d r, P d r → P' d r) : EX X e ρ P' := pe_imp h fun σ H Q ⟨F, G, S, q⟩ => ⟨F, G, S, fun v d r G' H' p => q v d r G' H' (i d r p)⟩
theorem tx_imp {P P' : Bool → Sls → Prop} (h : TX X e ρ P) (i : ∀ d r, P d r → P' d r) : TX X e ρ P' := pt_imp h fun σ H Q ⟨F, G, S, q⟩ => ⟨F, G, S, fun d r G' H' p => q d r G' H' (i d r p)⟩
theorem tx_of {k : Bool} (h : DT X e (er ρ) k) : TX X e ρ (fun x r => x = k ∧ r = ρ) := pt_imp h fun σ H Q ⟨F, G, S, q⟩ => ⟨G, S.grow.s, S.env, fun G' H' g => q k ρ G' H' ⟨rfl, rfl⟩ (S.mono g) g.g⟩
theorem xa_of {es : List Expr} {ds : List PyData} (h : DA X es (er ρ) ds) : XA X es ρ (fun x r => x = ds ∧ r = ρ) := pa_imp h fun σ H Q ⟨F, G, S, q⟩ => ⟨G, S.grow.s, S.env, fun v G' H' g dx => q v ds ρ G' H' ⟨rfl, rfl⟩ (S.mono g) g.g dx⟩
/-! ### what is owned, read for a moment -/
/-- all that is owned, frozen too -/
noncomputable def plus (σ : L2.St) (ρ : Sls) (f : Sl → Bool) (G H : Hp) : Hp := open Classical in fun a => if ∃ (i : Nat) (sl : Sl), ρ[i]? = some sl ∧ sl.isOwn = true ∧ f sl = true ∧ σ[i]? = some (some (V.ref a)) then H a else G a
theorem plus_same {w : World} {K : PySem.W.Frag} {F : Fr} {ρ : Sls} {σ : L2.St} {G H : Hp} (S : StG w K F ρ σ G H) (f : Sl → Bool) : Same G (plus σ ρ f G H) ∧ Same (plus σ ρ f G H) H := by
  constructor
  · intro a o e
    unfold plus
    split
    · exact S.grow.s a o e
    · exact e
  · intro a o e
    unfold plus at e
    split at e
    · exact e
    · exact S.grow.s a o e
theorem plus_env {w : World} {K : PySem.W.Frag} {F : Fr} {ρ : Sls} {σ : L2.St} {G H : Hp} (S : StG w K F ρ σ G H) (f : Sl → Bool) (g : Sl → Option PyData) (hg : ∀ sl d, g sl = some d → sl = .dat d ∨ (sl.isOwn = true ∧ f sl = true ∧ sl.all = some d)) : EnvD w K (plus σ ρ f G H) σ (ρ.map g) := env_of S.len fun i sl d h e => by
  have q := S.at_ i sl h
  rcases hg sl d e with rfl | ⟨o, ef, ea⟩
  · obtain ⟨v, q1, q2⟩ := q
    exact ⟨v, q1, q2.mono (plus_same S f).1⟩
  · obtain ⟨p, b, e1, e2, e3, e4, e5, e6⟩ := SlOk.own o q
    have hp : plus σ ρ f G H p = some b := by
      unfold plus
      rw [if_pos ⟨i, sl, h, o, ef, e1⟩]
      exact e2
    exact ⟨_, e1, (e6.mono (plus_same S f).1).dx hp ea⟩
/-- a number, a text, a truth, None: nothing of the heap is asked -/
def scal : PyData → Bool
  | .list _ => false
  | .tuple _ => false
  | .dict _ => false
  | _ => true
theorem dx_scal {w : World} {K : PySem.W.Frag} {G G' : Hp} {v : V} (h : Dx w K G v d) (hs : scal d = true) : Dx w K G' v d := by
  cases h with
  | non => exact .non
  | bl b => exact .bl b
  | int i => exact .int i
  | str x => exact .str x
  | _ => cases hs
theorem all_own {sl : Sl} {d : PyData} (h : sl.all = some d) : sl = .dat d ∨ (sl.isOwn = true ∧ (fun _ => true) sl = true ∧ sl.all = some d) := by
  cases sl with
  | dat d' => cases h; exact .inl rfl
  | non => cases h
  | sck => cases h
  | ownK ds => exact .inr ⟨rfl, rfl, h⟩
  | _ => exact .inr ⟨rfl, rfl, h⟩
theorem grow_read {w : World} {K : PySem.W.Frag} {F : Fr} {ρ : Sls} {σ : L2.St} {G H G' H' : Hp} (S : StG w K F ρ σ G H) {f : Sl → Bool} (g : Grow (plus σ ρ f G H) H G' H') : Grow G H G H' := ⟨Same.refl _, g.h, S.grow.s.trans g.h, fun _ e _ => e⟩
theorem ex_own (h : DE X e (erA ρ) d) (hs : scal d = true) : EX X e ρ (Is d ρ) := pe_imp h fun σ H Q ⟨F, G, S, q⟩ =>
  ⟨plus σ ρ (fun _ => true) G H, (plus_same S _).2, plus_env S _ _ fun sl d => all_own, fun v G' H' g dx => q v d ρ G H' ⟨rfl, rfl⟩ (S.mono (grow_read S g)) (Same.refl _) (dx_scal dx hs)⟩
theorem tx_own {k : Bool} (h : DT X e (erA ρ) k) : TX X e ρ (fun x r => x = k ∧ r = ρ) := pt_imp h fun σ H Q ⟨F, G, S, q⟩ =>
  ⟨plus σ ρ (fun _ => true) G H, (plus_same S _).2, plus_env S _ _ fun sl d => all_own, fun G' H' g => q k ρ G H' ⟨rfl, rfl⟩ (S.mono (grow_read S g)) (Same.refl _)⟩
/-- a heap less its dicts at some places -/
noncomputable def less (σ : L2.St) (ρ : Sls) (f : Sl → Bool) (G : Hp) : Hp := open Classical in fun a => if ∃ (i : Nat) (sl : Sl), ρ[i]? = some sl ∧ sl.isOwn = true ∧ f sl = true ∧ σ[i]? = some (some (V.ref a)) then none else G a
def isDc : Sl → Bool
  | .ownK _ => true
  | .ownN _ => true
  | _ => false
/-- an object that is a dict -/
def dictO (w : World) (a : Addr) (o : HO) : Prop := (∃ kvs, o = .dK kvs) ∨ ∃ es, o = NDO w a es
mutual
theorem dx_less {w : World} {K : PySem.W.Frag} {G G' : Hp} (h : ∀ a o, G a = some o → G' a = some o ∨ dictO w a o) : ∀ {v : V} {d : PyData}, Dx w K G v d → flat d = true → Dx w K G' v d
  | _, _, .non, _ => .non
  | _, _, .bl b, _ => .bl b
  | _, _, .int i, _ => .int i
  | _, _, .str x, _ => .str x
  | _, _, .lst (a := a) e r, f => .lst ((h _ _ e).elim id fun z => by rcases z with ⟨_, z⟩ | ⟨_, z⟩ <;> cases z) (dxAll_less h r (by simpa [flat] using f))
  | _, _, .tup (a := a) e r, f => .tup ((h _ _ e).elim id fun z => by rcases z with ⟨_, z⟩ | ⟨_, z⟩ <;> cases z) (dxAll_less h r (by simpa [flat] using f))
  | _, _, .dk _ _ _, f => by simp [flat] at f
  | _, _, .dn _ _, f => by simp [flat] at f
  | _, _, .net _ _, f => by simp [flat] at f
  | _, _, .scr _, f => by simp [flat] at f
theorem dxAll_less {w : World} {K : PySem.W.Frag} {G G' : Hp} (h : ∀ a o, G a = some o → G' a = some o ∨ dictO w a o) : ∀ {v : List V} {d : List PyData}, DxAll w K G v d → flats d = true → DxAll w K G' v d
  | _, _, .nil, _ => .nil
  | _, _, .cons e r, f => by
    simp only [flats, Bool.and_eq_true] at f
    exact .cons (dx_less h e f.1) (dxAll_less h r f.2)
end
theorem dcs_own {sl : Sl} {d : PyData} (h : sl.dcs = some d) : sl = .dat d ∨ (sl.isOwn = true ∧ isDc sl = true ∧ sl.all = some d) := by
  cases sl with
  | dat d' => cases h; exact .inl rfl
  | ownK ds =>
    cases ds with
    | nil => cases h
    | cons p ds => exact .inr ⟨rfl, rfl, h⟩
  | ownN ds => exact .inr ⟨rfl, rfl, h⟩
  | _ => cases h
/-- the dicts that are owned, read for a moment -/
theorem ex_dcs (h : DE X e (erD ρ) d) (hs : flat d = true) : EX X e ρ (Is d ρ) := pe_imp h fun σ H Q ⟨F, G, S, q⟩ => by
  refine ⟨plus σ ρ isDc G H, (plus_same S _).2, plus_env S _ _ fun sl d => dcs_own, fun v G' H' g dx => ?_⟩
  have hG : ∀ a, (∃ (i : Nat) (sl : Sl), ρ[i]? = some sl ∧ sl.isOwn = true ∧ isDc sl = true ∧ σ[i]? = some (some (V.ref a))) → G a = none ∧ H a ≠ none ∧ ∀ o, plus σ ρ isDc G H a = some o → dictO X.w a o := by
    rintro a ⟨i, sl, h1, h2, h3, h4⟩
    obtain ⟨p, b, e1, e2, e3, e4, e5, e6⟩ := SlOk.own h2 (S.at_ i sl h1)
    rw [h4] at e1
    cases e1
    refine ⟨e3, (by rw [e2]; exact fun z => nomatch z), fun o ho => ?_⟩
    unfold plus at ho
    rw [if_pos ⟨i, sl, h1, h2, h3, h4⟩, e2] at ho
    cases ho
    cases sl with
    | ownK ds => obtain ⟨kvs, r1, _⟩ := e6; exact .inl ⟨kvs, r1⟩
    | ownN ds => obtain ⟨kvs, r1, _⟩ := e6; exact .inr ⟨kvs, r1⟩
    | _ => cases h3
  have g2 : Grow G H (less σ ρ isDc G') H' := by
    refine ⟨fun a o e => ?_, g.h, fun a o e => ?_, fun a e1 e2 => ?_⟩
    · unfold less
      split
      · rename_i z
        rw [(hG a z).1] at e; cases e
      · exact g.g a o ((plus_same S isDc).1 a o e)
    · unfold less at e
      split at e
      · cases e
      · exact g.s a o e
    · unfold less
      split
      · rfl
      · rename_i z
        refine g.n a ?_ e2
        unfold plus
        rw [if_neg z]
        exact e1
  refine q v d ρ _ H' ⟨rfl, rfl⟩ (S.mono g2) g2.g (dx_less (fun a o e => ?_) dx hs)
  by_cases z : ∃ (i : Nat) (sl : Sl), ρ[i]? = some sl ∧ sl.isOwn = true ∧ isDc sl = true ∧ σ[i]? = some (some (V.ref a))
  · obtain ⟨z1, z2, z3⟩ := hG a z
    obtain ⟨b, hb⟩ := Option.ne_none_iff_exists'.mp z2
    have hp : plus σ ρ isDc G H a = some b := by
      unfold plus
      rw [if_pos z]
      exact hb
    have : G' a = some b := g.g a b hp
    rw [this] at e
    exact .inr (Option.some.inj e ▸ z3 b hp)
  · left
    unfold less
    rw [if_neg z]
    exact e
end
/-! ### composed expressions -/
section
variable {X : Cx} {ρ : Sls} {a b c e : Expr} {pos : Pos} {P P' : PyData → Sls → Prop}
theorem ex_op2 {w : World} {K : PySem.W.Frag} {r : R2} {M : PyData → PyData → Sls → Prop} {N : PyData → Sls → Prop → Prop} {t t' : TE} {σ : L2.St} {H : Hp} {Q : VK} (Pa : PyData → Sls → Prop) (Pb : PyData → PyData → Sls → Prop) (f : PyData → PyData → PyData)
    (ta : t = tX w K ρ Pa) (tb : ∀ da r', Pa da r' → ∀ σ H Q, tX w K r' (Pb da) σ H Q → t' σ H Q) (hr : ∀ da r' db r'', Pa da r' → Pb da db r'' → RD2 w K r da db (f da db)) (h : tX w K ρ (fun d r'' => ∃ da r' db, Pa da r' ∧ Pb da db r'' ∧ d = f da db) σ H Q) : tOp r t t' σ H Q := by
  subst ta
  obtain ⟨F, G, S, q⟩ := h
  refine ⟨F, G, S, fun x da r1 G1 H1 p1 S1 s1 dx => tb da r1 p1 σ H1 _ ⟨F, G1, S1, fun y db r2 G2 H2 p2 S2 s2 dy => hr da r1 db r2 p1 p2 x y G2 H2 Q S2.grow.s (dx.mono s2) dy fun v G' H' g dv => q v _ r2 G' H' ⟨da, r1, db, p1, p2, rfl⟩ (S2.mono g) ((s1.trans s2).trans g.g) dv⟩⟩
/-- a op b: the second may ask of the first's answer -/
theorem ex_bin {op : Operator} {r : R2} {Pa : PyData → Sls → Prop} {Pb : PyData → PyData → Sls → Prop} {f : PyData → PyData → PyData} {t' : TE} (ho : OpR X (binaryOp op) r) (ha : EX X a ρ Pa) (hb : PE X b t') (tb : ∀ da r', Pa da r' → ∀ σ H Q, tX X.w X.K r' (Pb da) σ H Q → t' σ H Q)
    (hr : ∀ da r' db r'', Pa da r' → Pb da db r'' → RD2 X.w X.K r da db (f da db)) : EX X (.BinOp a op b pos) ρ (fun d r'' => ∃ da r' db, Pa da r' ∧ Pb da db r'' ∧ d = f da db) :=
  pe_imp (pe_op ho ha hb) fun σ H Q h => ex_op2 (M := fun _ _ _ => True) (N := fun _ _ _ => True) Pa Pb f rfl tb hr h
theorem xa_nil {P : List PyData → Sls → Prop} (h : P [] ρ) : XA X [] ρ P := pa_imp pa_nil fun σ H Q ⟨F, G, S, q⟩ => q [] [] ρ G H h S (Same.refl _) .nil
/-- the first argument drawn or read, then the others -/
theorem xa_cons {es : List Expr} {Pa : PyData → Sls → Prop} {P : List PyData → Sls → Prop} {P' : List PyData → Sls → Prop} {ρ1 : Sls} (ha : EX X e ρ Pa) (hp : ∀ d r, Pa d r → r = ρ1) (hr : XA X es ρ1 P') (hP : ∀ d ds r, Pa d ρ1 → P' ds r → P (d :: ds) r)
    (hs : starEach (e :: es) X.env = (false, eval e X.env) :: starEach es X.env := by rfl) : XA X (e :: es) ρ P :=
  pa_imp (pa_cons ha hr hs) fun σ H Q ⟨F, G, S, q⟩ => ⟨F, G, S, fun x da r1 G1 H1 p1 S1 s1 dx => by
    have := hp da r1 p1
    subst this
    exact ⟨F, G1, S1, fun vs ds r2 G2 H2 p2 S2 s2 dvs => q _ _ r2 G2 H2 (hP da ds r2 p1 p2) S2 (s1.trans s2) (.cons (dx.mono s2) dvs)⟩⟩
theorem ex_args {w : World} {K : PySem.W.Frag} {r : List V → Hp → VK → Prop} {P : List PyData → Sls → Prop} {f : List PyData → PyData} (hr : ∀ ds r', P ds r' → RDC w K r ds (f ds)) : ∀ σ H Q, tX w K ρ (fun d r' => ∃ ds, P ds r' ∧ d = f ds) σ H Q → tCB r (tXA w K ρ P) σ H Q := fun σ H Q ⟨F, G, S, q⟩ =>
  ⟨F, G, S, fun vs ds r1 G1 H1 p1 S1 s1 dvs => hr ds r1 p1 vs G1 H1 Q S1.grow.s dvs fun v G' H' g dv => q v _ r1 G' H' ⟨ds, p1, rfl⟩ (S1.mono g) (s1.trans g.g) dv⟩
theorem ex_callB {id : String} {r : List V → Hp → VK → Prop} {x : Str} {es : List Expr} {p : Pos} {Pa : List PyData → Sls → Prop} (f : List PyData → PyData) (hc : CallR X (.builtin id) r) (hr : ∀ ds r', Pa ds r' → RDC X.w X.K r ds (f ds)) (hg : Gl X x) (hm : X.mg x = none) (hv : bootBuiltins x = some (.builtin id))
    (ha : XA X (e :: es) ρ Pa) (hn : x ≠ "__name__" := by decide) (hdb : (x == ("__debug__" : Str)) = false := by decide) (he : starEach (e :: es) X.env = (false, eval e X.env) :: starEach es X.env := by rfl) (hpl : (backTo pos (starEach es X.env)).any (·.1) = false := by rfl) :
    EX X (.Call (.Name x p) (e :: es) [] pos) ρ (fun d r' => ∃ ds, Pa ds r' ∧ d = f ds) :=
  pe_imp (pe_callB hc hg hm hv ha hn hdb he hpl) (ex_args hr)
theorem ex_callTy {T : String} {r : List V → Hp → VK → Prop} {x : Str} {es : List Expr} {p : Pos} {Pa : List PyData → Sls → Prop} (f : List PyData → PyData) (hc : CallR X (.type T) r) (hr : ∀ ds r', Pa ds r' → RDC X.w X.K r ds (f ds)) (hg : Gl X x) (hm : X.mg x = none) (hv : bootBuiltins x = some (.type T))
    (ha : XA X (e :: es) ρ Pa) (hn : x ≠ "__name__" := by decide) (hdb : (x == ("__debug__" : Str)) = false := by decide) (he : starEach (e :: es) X.env = (false, eval e X.env) :: starEach es X.env := by rfl) (hpl : (backTo pos (starEach es X.env)).any (·.1) = false := by rfl) :
    EX X (.Call (.Name x p) (e :: es) [] pos) ρ (fun d r' => ∃ ds, Pa ds r' ∧ d = f ds) :=
  pe_imp (pe_callTy hc hg hm hv ha hn hdb he hpl) (ex_args hr)
theorem ex_tup {es : List Expr} {P : List PyData → Sls → Prop} {j} (h : XA X es ρ P) (hz : ∀ ds r, P ds r → ds.length ≤ sizeLine) : EX X (.Tuple es j pos) ρ (fun d r => ∃ ds, P ds r ∧ d = .tuple ds) :=
  pe_imp (pe_tup h) fun σ H Q ⟨F, G, S, q⟩ => ⟨F, G, S, fun vs ds r1 G1 H1 p1 S1 s1 dvs => ⟨by rw [dvs.length]; exact hz ds r1 p1, fun p hp =>
    have g := Grow.new (o := .tup vs) S1.grow.s hp
    q _ _ r1 _ _ ⟨ds, p1, rfl⟩ (S1.mono g) (s1.trans g.g) (.tup upd_same (dvs.mono g.g))⟩⟩
theorem ex_lst {es : List Expr} {P : List PyData → Sls → Prop} (h : XA X es ρ P) (hz : ∀ ds r, P ds r → ds.length ≤ sizeLine) : EX X (.List es pos) ρ (fun d r => ∃ ds, P ds r ∧ d = .list ds) :=
  pe_imp (pe_lst h) fun σ H Q ⟨F, G, S, q⟩ => ⟨F, G, S, fun vs ds r1 G1 H1 p1 S1 s1 dvs => ⟨by rw [dvs.length]; exact hz ds r1 p1, fun p hp =>
    have g := Grow.new (o := .lst vs) S1.grow.s hp
    q _ _ r1 _ _ ⟨ds, p1, rfl⟩ (S1.mono g) (s1.trans g.g) (.lst upd_same (dvs.mono g.g))⟩⟩
end
/-! ### the sack -/
noncomputable def del (H : Hp) (k : Addr) : Hp := open Classical in fun a => if a = k then none else H a
theorem del_same {H : Hp} {k : Addr} : Same (del H k) H := fun a o e => by
  unfold del at e
  split at e
  · cases e
  · exact e
theorem same_del {G H : Hp} {k : Addr} (s : Same G H) (h : G k = none) : Same G (del H k) := fun a o e => by
  unfold del
  rw [if_neg (ne_of_none e h)]
  exact s a o e
theorem del_none {H : Hp} {k : Addr} : del H k k = none := by unfold del; rw [if_pos rfl]
theorem del_ne {H : Hp} {k a : Addr} (h : a ≠ k) : del H k a = H a := by unfold del; rw [if_neg h]
/-- a def whose first argument is the sack -/
def spK (w : World) (K : PySem.W.Frag) (Pre : List PyData → Prop) (R : List PyData → PyData → Prop) : Sp := fun vs H Q _ => ∃ G k ws ds, vs = .ref k :: ws ∧ Same G H ∧ G k = none ∧ Sk H k ∧ DxAll w K G ws ds ∧ Pre ds ∧
  ∀ v d G' H', R ds d → Grow G (del H k) G' H' → G' k = none → Sk H' k → Dx w K G' v d → Q v H'
/-- the sack alone, behind data -/
theorem StG.drawn {w : World} {K : PySem.W.Frag} {F : Fr} {ρ : Sls} {σ : L2.St} {G H G' H' : Hp} {k : Addr} (S : StG w K F ρ σ G H) (hk : F.sk = some k) (g : Grow G (del H k) G' H') (hG : G' k = none) (hs : Sk H' k) : StG w K F ρ σ G' H' := by
  obtain ⟨s1, s2, s3⟩ := S.sack k hk
  have kn : ∀ {a : Addr} {o : HO}, F.H0 a = some o → a ≠ k := fun e => ne_of_none e s1
  refine ⟨⟨S.grow.g.trans g.g, fun a o e => g.h a o (by rw [del_ne (kn e)]; exact S.grow.h a o e), g.s, fun a h1 h2 => ?_⟩, S.len, fun i sl h => ?_, S.dist, fun k' h => ?_⟩
  · obtain ⟨o, ho⟩ := Option.ne_none_iff_exists'.mp h2
    refine g.n a (S.grow.n a h1 h2) ?_
    rw [del_ne (kn ho), S.grow.h a o ho]
    exact fun z => nomatch z
  · have q := S.at_ i sl h
    by_cases os : sl.isOwn = true
    · obtain ⟨p, b, f1, f2, f3, f4, f5, f6⟩ := SlOk.own os q
      have pk : p ≠ k := fun z => f5 (by rw [hk, z])
      refine .mk f1 (g.h p b (by rw [del_ne pk]; exact f2)) (g.n p f3 (by rw [del_ne pk, f2]; exact fun z => nomatch z)) f4 f5 (f6.mono g.g)
    · cases sl with
      | non => exact trivial
      | dat d => obtain ⟨v, q1, q2⟩ := q; exact ⟨v, q1, q2.mono g.g⟩
      | sck => exact q
      | _ => exact absurd rfl os
  · rw [hk] at h
    cases h
    exact ⟨s1, hG, hs⟩
section
variable {X : Cx} {ρ : Sls} {pos : Pos}
/-- f(sack, ..) -/
theorem ex_draw {CX : CXT} {n : Nat} {f : Addr} {fd : FuncData} {ps : List Str} {Pre : List PyData → Prop} {R : List PyData → PyData → Prop} {E : XK} {x y : Str} {es : List Expr} {p p2 : Pos} {i : Nat} {Pa : List PyData → Sls → Prop} (F : FnOk X.prog X.w X.K X.mg X.base CX n f fd ps (spK X.w X.K Pre R)) (hr : Room n X.A) (hg : Gl X x) (hm : X.mg x = some (.ref f))
    (hk : PySem.W.keepIn X.K (.ref f) = true) (hb : Binds X.K fd ps []) (hx : Passes CX X E) (hv : PE X (.Name y p2) (tVar i)) (hi : ρ[i]? = some .sck) (ha : XA X es ρ Pa) (hpre : ∀ ds r, Pa ds r → Pre ds)
    (hs : starEach (.Name y p2 :: es) X.env = (false, eval (.Name y p2) X.env) :: starEach es X.env := by rfl) (hdb : (x == ("__debug__" : Str)) = false := by decide) (hpl : (backTo pos (starEach es X.env)).any (·.1) = false := by rfl) :
    EX X (.Call (.Name x p) (.Name y p2 :: es) [] pos) ρ (fun d r => ∃ ds, Pa ds r ∧ R ds d) :=
  pe_imp (pe_call F hr hg hm hk hb .nil hx (pa_cons hv ha hs) hdb hs hpl) fun σ H Q ⟨F', G, S, q⟩ => by
    obtain ⟨k, hsk, hk'⟩ := (S.at_ i _ hi : SlOk X.w X.K F' G H (σ[i]?) .sck)
    refine ⟨.ref k, hk', F', G, S, fun vs ds r G1 H1 p1 S1 s1 dvs => ?_⟩
    obtain ⟨t1, t2, t3⟩ := S1.sack k hsk
    refine ⟨G1, k, vs, ds, by rw [List.append_nil], S1.grow.s, t2, t3, dvs, hpre ds r p1, fun v d G' H' hR g hG hS dv => ?_⟩
    exact q v d r G' H' ⟨ds, p1, hR⟩ (S1.drawn hsk g hG hS) (s1.trans g.g) dv
end
/-! ### statements -/
def tS (w : World) (K : PySem.W.Frag) (ρ : Sls) (N : Sls → Prop) (R : PyData → Sls → Prop) : TS := fun D σ H => ∃ F G, StG w K F ρ σ G H ∧ (∀ ρ' σ' G' H', N ρ' → StG w K F ρ' σ' G' H' → Same G G' → D.nx σ' H') ∧
  ∀ v d ρ' σ' G' H', R d ρ' → StG w K F ρ' σ' G' H' → Same G G' → Dx w K G' v d → D.rt v H'
def DS (X : Cx) (sts : List Stmt) (ρ : Sls) (N : Sls → Prop) (R : PyData → Sls → Prop) : Prop := PSs X sts (tS X.w X.K ρ N R)
def D1 (X : Cx) (st : Stmt) (ρ : Sls) (N : Sls → Prop) (R : PyData → Sls → Prop) : Prop := PS X st (tS X.w X.K ρ N R)
theorem ps_imp {X : Cx} {st : Stmt} {t t' : TS} (h : PS X st t) (f : ∀ D σ H, t' D σ H → t D σ H) : PS X st t' := ⟨fun pins s σ H D I q => h.run pins s σ H D I (f D σ H q)⟩
theorem pss_imp {X : Cx} {st : List Stmt} {t t' : TS} (h : PSs X st t) (f : ∀ D σ H, t' D σ H → t D σ H) : PSs X st t' := ⟨fun pins s σ H D I q => h.run pins s σ H D I (f D σ H q)⟩
section
variable {X : Cx} {st : Stmt} {rest sts : List Stmt} {ρ : Sls} {N M : Sls → Prop} {R : PyData → Sls → Prop} {a b c e : Expr} {pos : Pos}
theorem ds_nil (h : N ρ) : DS X [] ρ N R := pss_imp pss_nil fun D σ H ⟨F, G, S, q, _⟩ => q ρ σ G H h S (Same.refl _)
theorem ds_cons (h1 : D1 X st ρ M R) (h2 : ∀ ρ', M ρ' → DS X rest ρ' N R) : DS X (st :: rest) ρ N R := by
  have h2' : PSs X rest (fun D σ H => ∃ ρ', M ρ' ∧ tS X.w X.K ρ' N R D σ H) := ⟨fun pins s σ H D I ⟨ρ', m, q⟩ => (h2 ρ' m).run pins s σ H D I q⟩
  refine pss_imp (pss_cons h1 h2') fun D σ H ⟨F, G, S, qn, qr⟩ => ⟨F, G, S, fun ρ' σ' G' H' m S' s' => ⟨ρ', m, F, G', S', fun ρ2 σ2 G2 H2 n S2 s2 => qn ρ2 σ2 G2 H2 n S2 (s'.trans s2), fun v d ρ2 σ2 G2 H2 r S2 s2 dx => qr v d ρ2 σ2 G2 H2 r S2 (s'.trans s2) dx⟩, qr⟩
theorem ds_one (h1 : D1 X st ρ N R) : DS X [st] ρ N R := pss_one h1
/-- .. to one state -/
theorem ds_then {ρ' : Sls} (h1 : D1 X st ρ (· = ρ') R) (h2 : DS X rest ρ' N R) : DS X (st :: rest) ρ N R := ds_cons h1 fun _ e => e ▸ h2
theorem d1_imp {N' : Sls → Prop} {R' : PyData → Sls → Prop} (h : D1 X st ρ N R) (hn : ∀ r, N r → N' r) (hr : ∀ d r, R d r → R' d r) : D1 X st ρ N' R' := ps_imp h fun D σ H ⟨F, G, S, qn, qr⟩ => ⟨F, G, S, fun ρ' σ' G' H' n => qn ρ' σ' G' H' (hn _ n), fun v d ρ' σ' G' H' r => qr v d ρ' σ' G' H' (hr _ _ r)⟩
theorem ds_imp {N' : Sls → Prop} {R' : PyData → Sls → Prop} (h : DS X sts ρ N R) (hn : ∀ r, N r → N' r) (hr : ∀ d r, R d r → R' d r) : DS X sts ρ N' R' := pss_imp h fun D σ H ⟨F, G, S, qn, qr⟩ => ⟨F, G, S, fun ρ' σ' G' H' n => qn ρ' σ' G' H' (hn _ n), fun v d ρ' σ' G' H' r => qr v d ρ' σ' G' H' (hr _ _ r)⟩
/-- less is known -/
def Weak (ρ ρ' : Sls) : Prop := ρ'.length ≤ ρ.length ∧ ∀ (i : Nat) (sl : Sl), ρ'[i]? = some sl → sl = .non ∨ ρ[i]? = some sl
theorem ds_weak {ρ' : Sls} (h : DS X sts ρ' N R) (hw : Weak ρ ρ') : DS X sts ρ N R := pss_imp h fun D σ H ⟨F, G, S, qn, qr⟩ => ⟨F, G, S.weak hw.1 hw.2, qn, qr⟩
theorem d1_weak {ρ' : Sls} (h : D1 X st ρ' N R) (hw : Weak ρ ρ') : D1 X st ρ N R := ps_imp h fun D σ H ⟨F, G, S, qn, qr⟩ => ⟨F, G, S.weak hw.1 hw.2, qn, qr⟩
/-- an owned object is frozen from here on -/
theorem ds_frz {i : Nat} {sl : Sl} {d : PyData} (hi : ρ[i]? = some sl) (ho : sl.isOwn = true) (hd : sl.all = some d) (h : DS X sts (ρ.set i (.dat d)) N R) : DS X sts ρ N R := pss_imp h fun D σ H ⟨F, G, S, qn, qr⟩ => by
  obtain ⟨G', s, S'⟩ := S.frz hi ho hd
  exact ⟨F, G', S', fun ρ' σ' G2 H' n S2 s2 => qn ρ' σ' G2 H' n S2 (s.trans s2), fun v x ρ' σ' G2 H' r S2 s2 => qr v x ρ' σ' G2 H' r S2 (s.trans s2)⟩
theorem ex_frz {P : PyData → Sls → Prop} {i : Nat} {sl : Sl} {d : PyData} (hi : ρ[i]? = some sl) (ho : sl.isOwn = true) (hd : sl.all = some d) (h : EX X e (ρ.set i (.dat d)) P) : EX X e ρ P := pe_imp h fun σ H Q ⟨F, G, S, q⟩ => by
  obtain ⟨G', s, S'⟩ := S.frz hi ho hd
  exact ⟨F, G', S', fun v x ρ' G2 H' n S2 s2 => q v x ρ' G2 H' n S2 (s.trans s2)⟩
theorem d1_set {i : Nat} {x : Str} {pos' : Pos} {P : PyData → Sls → Prop} (he : EX X e ρ P) (hp : PS X (.Assign [.Name x pos'] e pos) (tAsg (tX X.w X.K ρ P) (gName i))) (hn : ∀ d r, P d r → N (r.set i (.dat d))) : D1 X (.Assign [.Name x pos'] e pos) ρ N R :=
  ps_imp hp fun D σ H ⟨F, G, S, qn, _⟩ => ⟨F, G, S, fun v d r G' H' p S' s' dx => qn _ _ G' H' (hn d r p) (S'.set dx) s'⟩
theorem d1_setO {i : Nat} {x : Str} {pos' : Pos} {sl : Sl} (hp : PS X (.Assign [.Name x pos'] e pos) (tAsg (tO X.w X.K (er ρ) sl) (gName i))) (hn : N (ρ.set i sl)) : D1 X (.Assign [.Name x pos'] e pos) ρ N R :=
  ps_imp hp fun D σ H ⟨F, G, S, qn, _⟩ => ⟨G, S.grow.s, S.env, fun p b G' H' g h1 h2 h3 h4 => qn _ _ G' H' hn (S.new h1 g h3 h2 h4) g.g⟩
theorem d1_ret {P : PyData → Sls → Prop} (he : EX X e ρ P) (hr : ∀ d r, P d r → R d r) : D1 X (.Return (some e) pos) ρ N R :=
  ps_imp (ps_ret he) fun D σ H ⟨F, G, S, _, qr⟩ => ⟨F, G, S, fun v d r G' H' p S' s' dx => qr v d r σ G' H' (hr d r p) S' s' dx⟩
theorem d1_if {P : Bool → Sls → Prop} {p q : List Stmt} (hc : TX X c ρ P) (ha : ∀ r, P true r → DS X p r N R) (hb : ∀ r, P false r → DS X q r N R) : D1 X (.If c p q pos) ρ N R := by
  have ha' : PSs X p (fun D σ H => ∃ r, P true r ∧ tS X.w X.K r N R D σ H) := ⟨fun pins s σ H D I ⟨r, m, z⟩ => (ha r m).run pins s σ H D I z⟩
  have hb' : PSs X q (fun D σ H => ∃ r, P false r ∧ tS X.w X.K r N R D σ H) := ⟨fun pins s σ H D I ⟨r, m, z⟩ => (hb r m).run pins s σ H D I z⟩
  refine ps_imp (ps_if hc ha' hb') fun D σ H ⟨F, G, S, qn, qr⟩ => ⟨F, G, S, fun k r G' H' pk S' s' => ?_⟩
  have fin : tS X.w X.K r N R D σ H' := ⟨F, G', S', fun ρ2 σ2 G2 H2 n S2 s2 => qn ρ2 σ2 G2 H2 n S2 (s'.trans s2), fun v d ρ2 σ2 G2 H2 z S2 s2 dx => qr v d ρ2 σ2 G2 H2 z S2 (s'.trans s2) dx⟩
  cases k with
  | true => exact iteT ⟨r, pk, fin⟩
  | false => exact iteF ⟨r, pk, fin⟩
theorem d1_ifT {p q : List Stmt} {r : Sls} (hc : TX X c ρ (fun k r' => k = true ∧ r' = r)) (ha : DS X p r N R) : D1 X (.If c p q pos) ρ N R := d1_if hc (fun _ h => h.2 ▸ ha) fun _ h => nomatch h.1
theorem d1_ifF {p q : List Stmt} {r : Sls} (hc : TX X c ρ (fun k r' => k = false ∧ r' = r)) (hb : DS X q r N R) : D1 X (.If c p q pos) ρ N R := d1_if hc (fun _ h => nomatch h.1) fun _ h => h.2 ▸ hb
end
end K64

/-! ## K64Loop -/
/-! Loops; what is owned, made and changed. -/
namespace K64
open PySem PySem.Spec PyProof.Rows L2
/-! ### targets -/
def TgS (w : World) (K : PySem.W.Frag) (g : TG) (ρ : Sls) (d : PyData) (ρ' : Sls) : Prop := ∀ x σ F G H (Q : L2.St → Hp → Prop), StG w K F ρ σ G H → Dx w K G x d → (∀ σ2, StG w K F ρ' σ2 G H → Q σ2 H) → g x σ H Q
section
variable {w : World} {K : PySem.W.Frag} {ρ : Sls}
theorem tgs_name {i : Nat} {d : PyData} : TgS w K (gName i) ρ d (ρ.set i (.dat d)) := fun x σ F G H Q S dx q => q _ (S.set dx)
/-- what the names of a tuple target become -/
def setAll (ρ : Sls) : List Nat → List PyData → Sls
  | i :: is, d :: ds => setAll (ρ.set i (.dat d)) is ds
  | _, _ => ρ
def gNames : List Nat → TGs
  | [] => gNil
  | i :: is => gCons (gName i) (gNames is)
theorem tgs_names : ∀ (is : List Nat) (ds : List PyData) (ρ : Sls) (xs : List V) (σ : L2.St) (F : Fr) (G H : Hp) (Q : L2.St → Hp → Prop), is.length = ds.length → StG w K F ρ σ G H → DxAll w K G xs ds → (∀ σ2, StG w K F (setAll ρ is ds) σ2 G H → Q σ2 H) → gNames is xs σ H Q
  | [], [], ρ, _, σ, F, G, H, Q, _, S, .nil, q => ⟨rfl, q σ S⟩
  | i :: is, d :: ds, ρ, _, σ, F, G, H, Q, hl, S, .cons (v := v) (vs := vs) dx r, q => ⟨v, vs, rfl, tgs_names is ds (ρ.set i (.dat d)) vs _ F G H Q (by simpa using hl) (S.set dx) r q⟩
theorem tgs_tup {is : List Nat} {ds : List PyData} (hl : is.length = ds.length) : TgS w K (gTup K is.length (gNames is)) ρ (.tuple ds) (setAll ρ is ds) := fun x σ F G H Q S dx q => by
  cases dx with
  | tup h r => exact ⟨_, _, rfl, .inl (.inl (S.grow.s _ _ h)), by rw [r.length, hl], tgs_names is ds ρ _ σ F G H Q hl S r q⟩
end
/-! ### for, while -/
section
variable {X : Cx} {ρ : Sls} {N : Sls → Prop} {R : PyData → Sls → Prop} {tg iter c e : Expr} {body : List Stmt} {pos : Pos}
theorem d1_for {α : Type} (as : List α) (enc : α → PyData) {g : TG} (S : Nat → Sls → Prop) (hp : PassesOwn (model X.prog X.w) X.A X.env X.xe) (hc : X.calm = true) (hi : DI X tg iter (er ρ) (as.map enc)) (hg : PG X tg g) (h0 : S 0 ρ)
    (step : ∀ i a r, as[i]? = some a → S i r → ∃ r', TgS X.w X.K g r (enc a) r' ∧ DS X body r' (S (i + 1)) R) (hN : ∀ r, S as.length r → N r) (hs : ∀ x, foldedSetIterable iter X.env x = pure x := by intro _; rfl) : D1 X (.For tg iter body [] pos) ρ N R := by
  have hb : PSs X body (fun D σ H => ∃ i r', DS X body r' (S (i + 1)) R ∧ tS X.w X.K r' (S (i + 1)) R D σ H) := ⟨fun pins s σ H D I ⟨i, r', h, z⟩ => h.run pins s σ H D I z⟩
  refine ps_imp (ps_for hp hc hi hg hb hs) fun D σ H ⟨F, G, S0, qn, qr⟩ => ⟨G, S0.grow.s, S0.env, fun J G1 H1 g1 wk => ?_⟩
  refine ⟨fun i m σ2 H2 => i + m = as.length ∧ ∃ r G2, S i r ∧ StG X.w X.K F r σ2 G2 H2 ∧ Same G1 G2, ⟨as.length, by omega, ρ, G1, h0, S0.mono g1, Same.refl _⟩, ?_⟩
  rintro i m σ2 H2 ⟨him, r, G2, hS, S2, s2⟩
  by_cases hlt : i < as.length
  · refine .inr ⟨wk.go i H2 (s2.trans S2.grow.s) (by simpa using hlt), fun σ3 H3 => ∃ r3 G3, S (i + 1) r3 ∧ StG X.w X.K F r3 σ3 G3 H3 ∧ Same G1 G3, fun σ3 H3 ⟨r3, G3, a1, a2, a3⟩ => ⟨m - 1, by omega, by omega, r3, G3, a1, a2, a3⟩, fun x H3 y => ?_⟩
    obtain ⟨d, G3, ed, gr, dx⟩ := wk.yld i G2 H2 x H3 s2 S2.grow.s (by simpa using hlt) y
    obtain ⟨a, ea, ma, rfl⟩ := map_get ed
    obtain ⟨r', tgd, hbd⟩ := step i a r ea hS
    refine tgd x σ2 F G3 H3 _ (S2.mono gr) dx fun σ3 S3 => ⟨i, r', hbd, F, G3, S3, fun ρ4 σ4 G4 H4 n S4 s4 => ⟨ρ4, G4, n, S4, (s2.trans gr.g).trans s4⟩, fun v d4 ρ4 σ4 G4 H4 h4 S4 s4 dx4 => qr v d4 ρ4 σ4 G4 H4 h4 S4 (g1.g.trans ((s2.trans gr.g).trans s4)) dx4⟩
  · have ei : i = as.length := by omega
    subst ei
    refine .inl ⟨?_, qn r σ2 G2 H2 (hN r hS) S2 (g1.g.trans s2)⟩
    have := wk.stop H2 (s2.trans S2.grow.s)
    rwa [List.length_map] at this
theorem d1_while (S : Nat → Sls → Prop) (hp : PassesOwn (model X.prog X.w) X.A X.env X.xe) {m0 : Nat} (h0 : S m0 ρ)
    (step : ∀ m r, S m r → ∃ k, TX X c r (fun b r' => b = k ∧ r' = r) ∧ (k = true → DS X body r (fun r' => ∃ m', m' < m ∧ S m' r') R) ∧ (k = false → N r)) : D1 X (.While c body [] pos) ρ N R := by
  have hb : PSs X body (fun D σ H => ∃ m r, DS X body r (fun r' => ∃ m', m' < m ∧ S m' r') R ∧ tS X.w X.K r (fun r' => ∃ m', m' < m ∧ S m' r') R D σ H) := ⟨fun pins s σ H D I ⟨i, r', h, z⟩ => h.run pins s σ H D I z⟩
  have hc : PT X c (fun σ H Q => ∃ r k, TX X c r (fun b r' => b = k ∧ r' = r) ∧ tXT X.w X.K r (fun b r' => b = k ∧ r' = r) σ H Q) := ⟨fun pins s σ H Q I ⟨r, k, h, z⟩ => h.run pins s σ H Q I z⟩
  refine ps_imp (ps_while hp hc hb) fun D σ H ⟨F, G, S0, qn, qr⟩ => ?_
  refine ⟨fun m σ2 H2 => ∃ r G2, S m r ∧ StG X.w X.K F r σ2 G2 H2 ∧ Same G G2, ⟨m0, ρ, G, h0, S0, Same.refl _⟩, ?_⟩
  rintro m σ2 H2 ⟨r, G2, hS, S2, s2⟩
  obtain ⟨k, hk, ht, hf⟩ := step m r hS
  refine ⟨r, k, hk, F, G2, S2, ?_⟩
  rintro b r' G3 H3 ⟨rfl, rfl⟩ S3 s3
  cases b with
  | true => exact iteT ⟨fun σ3 H3 => ∃ r3 G3 m', m' < m ∧ S m' r3 ∧ StG X.w X.K F r3 σ3 G3 H3 ∧ Same G G3, fun σ3 H3 ⟨r3, G3, m', hm, a1, a2, a3⟩ => ⟨m', hm, r3, G3, a1, a2, a3⟩, m, r', ht rfl, F, G3, S3, fun ρ4 σ4 G4 H4 ⟨m', hm, n⟩ S4 s4 => ⟨ρ4, G4, m', hm, n, S4, (s2.trans s3).trans s4⟩, fun v d4 ρ4 σ4 G4 H4 h4 S4 s4 dx4 => qr v d4 ρ4 σ4 G4 H4 h4 S4 ((s2.trans s3).trans s4) dx4⟩
  | false => exact iteF (qn r' σ2 G3 H3 (hf rfl) S3 (s2.trans s3))
end
/-! ### what is made -/
section
variable {X : Cx} {ρ : Env} {e : Expr} {es : List Expr} {pos : Pos} {ds : List PyData} {x : Str} {p : Pos} {T : String}
theorem do_nilL : DO X (.List [] pos) ρ (.ownL []) := pe_imp (pe_lst pa_nil) fun σ H Q ⟨G, s, env, q⟩ => ⟨Nat.zero_le _, fun p hp => q p _ G _ (.own s hp) hp (s.free hp) upd_same ⟨[], rfl, .nil⟩⟩
theorem do_lst (h : DA X es ρ ds) (hz : ds.length ≤ sizeLine) : DO X (.List es pos) ρ (.ownL ds) := pe_imp (pe_lst h) fun σ H Q ⟨G, s, env, q⟩ => ⟨G, s, env, fun vs G1 H1 g1 dvs => ⟨by rw [dvs.length]; exact hz, fun p hp => q p _ G1 _ (g1.trans (.own g1.s hp)) (g1.h.free hp) (g1.s.free hp) upd_same ⟨vs, rfl, dvs⟩⟩⟩
theorem do_nilK : DO X (.Dict [] [] pos) ρ (.ownK []) := pe_imp pe_dnewK fun σ H Q ⟨G, s, env, q⟩ p hp => q p _ G _ (.own s hp) hp (s.free hp) upd_same ⟨[], rfl, .nil⟩
theorem do_nilN : DO X (.Dict [] [] pos) ρ (.ownN []) := pe_imp pe_dnewN fun σ H Q ⟨G, s, env, q⟩ p hp => q p _ G _ (.own s hp) hp (s.free hp) upd_same ⟨[], rfl, .nil⟩
/-- what a built-in makes -/
def RDO (w : World) (K : PySem.W.Frag) (r : List V → Hp → VK → Prop) (ds : List PyData) (sl : Sl) : Prop := ∀ xs G H Q, Same G H → DxAll w K G xs ds → (∀ p b G' H', Grow G H G' H' → H p = none → G' p = none → H' p = some b → Hold w K G' p sl b → Q (.ref p) H') → r xs H Q
theorem do_callTy {r : List V → Hp → VK → Prop} {sl : Sl} (hc : CallR X (.type T) r) (hr : RDO X.w X.K r ds sl) (hg : Gl X x) (hm : X.mg x = none) (hv : bootBuiltins x = some (.type T))
    (ha : DA X (e :: es) ρ ds) (hn : x ≠ "__name__" := by decide) (hdb : (x == ("__debug__" : Str)) = false := by decide) (he : starEach (e :: es) X.env = (false, eval e X.env) :: starEach es X.env := by rfl) (hpl : (backTo pos (starEach es X.env)).any (·.1) = false := by rfl) : DO X (.Call (.Name x p) (e :: es) [] pos) ρ sl :=
  pe_imp (pe_callTy hc hg hm hv ha hn hdb he hpl) fun σ H Q ⟨G, s, env, q⟩ => ⟨G, s, env, fun vs G1 H1 g1 dvs => hr vs G1 H1 Q g1.s dvs fun p b G' H' g h1 h2 h3 h4 => q p b G' H' (g1.trans g) (g1.h.free h1) h2 h3 h4⟩
theorem rdo_listL {w : World} {K : PySem.W.Frag} : RDO w K (fun xs H Q => ∃ p ys, xs = [.ref p] ∧ (SqL K H p ys ∨ SqT K H p ys) ∧ ∀ l, H l = none → Q (.ref l) (upd H l (.lst ys))) [.list ds] (.ownL ds) := fun xs G H Q s dx q => by
  cases dx with
  | cons d1 dr =>
    cases dr
    cases d1 with
    | lst h r => exact ⟨_, _, rfl, .inl (.inl (.inl (s _ _ h))), fun l hl => q l _ G _ (.own s hl) hl (s.free hl) upd_same ⟨_, rfl, r⟩⟩
theorem rdo_listT {w : World} {K : PySem.W.Frag} : RDO w K (fun xs H Q => ∃ p ys, xs = [.ref p] ∧ (SqL K H p ys ∨ SqT K H p ys) ∧ ∀ l, H l = none → Q (.ref l) (upd H l (.lst ys))) [.tuple ds] (.ownL ds) := fun xs G H Q s dx q => by
  cases dx with
  | cons d1 dr =>
    cases dr
    cases d1 with
    | tup h r => exact ⟨_, _, rfl, .inr (.inl (.inl (s _ _ h))), fun l hl => q l _ G _ (.own s hl) hl (s.free hl) upd_same ⟨_, rfl, r⟩⟩
/-- .. frozen at once -/
theorem de_do {sl : Sl} {d : PyData} (h : DO X e ρ sl) (hd : sl.all = some d) : DE X e ρ d := pe_imp h fun σ H Q ⟨G, s, env, q⟩ => ⟨G, s, env, fun p b G' H' g h1 h2 h3 h4 => by
  have sG : Same G' (upd G' p b) := same_new h2
  have dx := (h4.mono sG).dx upd_same hd
  exact q (.ref p) (upd G' p b) H' ⟨g.g.trans sG, g.h, same_frz g.s h3, fun a e1 e2 => by
    rw [upd_ne fun z => e2 (by rw [z]; exact h1)]
    exact g.n a e1 e2⟩ dx⟩
end
/-! ### dicts as data -/
/-- in its place, or at the end -/
def putD (ds : List (PyData × PyData)) (k d : PyData) : List (PyData × PyData) := if (ds.any fun e => decide (keyOf e.1 = keyOf k)) = true then ds.map (fun e => if keyOf e.1 = keyOf k then (e.1, d) else e) else ds ++ [(k, d)]
theorem putD_len (ds : List (PyData × PyData)) (k d : PyData) : (putD ds k d).length ≤ ds.length + 1 := by
  unfold putD
  split
  · rw [List.length_map]; omega
  · rw [List.length_append]; exact Nat.le_refl _
theorem keyOf_inj {k l : Key} (h : keyOf (keyD k) = keyOf (keyD l)) : k = l := by
  cases k <;> cases l <;> simp [keyD, keyOf] at h <;> rw [h]
section
variable {w : World} {K : PySem.W.Frag} {G : Hp}
theorem dxk_any {k : Key} : ∀ {kvs : List (Key × V)} {ds : List (PyData × PyData)}, DxK w K G kvs ds → (kvs.any fun e => decide (e.1 = k)) = ds.any fun e => decide (keyOf e.1 = keyOf (keyD k))
  | _, _, .nil => rfl
  | _, _, .cons (k := k') h r => by
    rw [List.any_cons, List.any_cons, dxk_any r]
    congr 1
    exact decide_eq_decide.mpr ⟨fun e : k' = k => by subst e; rfl, keyOf_inj⟩
theorem dxk_map {k : Key} {v : V} {d : PyData} (dx : Dx w K G v d) : ∀ {kvs : List (Key × V)} {ds : List (PyData × PyData)}, DxK w K G kvs ds → DxK w K G (kvs.map fun kv => if kv.1 = k then (kv.1, v) else kv) (ds.map fun e => if keyOf e.1 = keyOf (keyD k) then (e.1, d) else e)
  | _, _, .nil => .nil
  | _, _, .cons (k := k') h r => by
    rw [List.map_cons, List.map_cons]
    by_cases e : k' = k
    · rw [if_pos e, if_pos (by rw [e])]
      exact .cons dx (dxk_map dx r)
    · rw [if_neg e, if_neg fun z => e (keyOf_inj z)]
      exact .cons h (dxk_map dx r)
theorem dxk_snoc {k : Key} {v : V} {d : PyData} (dx : Dx w K G v d) : ∀ {kvs : List (Key × V)} {ds : List (PyData × PyData)}, DxK w K G kvs ds → DxK w K G (kvs ++ [(k, v)]) (ds ++ [(keyD k, d)])
  | _, _, .nil => .cons dx .nil
  | _, _, .cons h r => .cons h (dxk_snoc dx r)
theorem dxk_put {k : Key} {v : V} {d : PyData} {kvs : List (Key × V)} {ds : List (PyData × PyData)} (r : DxK w K G kvs ds) (dx : Dx w K G v d) : DxK w K G (putK kvs k v) (putD ds (keyD k) d) := by
  unfold putK putD
  rw [dxk_any r]
  split
  · exact dxk_map dx r
  · exact dxk_snoc dx r
theorem dxk_len : ∀ {kvs : List (Key × V)} {ds : List (PyData × PyData)}, DxK w K G kvs ds → kvs.length = ds.length
  | _, _, .nil => rfl
  | _, _, .cons h r => by rw [List.length_cons, List.length_cons, dxk_len r]
theorem dxn_any {k : NestedKey} {kd : PyData} (hk : keyOf kd = some k) : ∀ {es : NEs} {ds : List (PyData × PyData)}, DxN w K G es ds → (lookN es k).isSome = ds.any fun e => decide (keyOf e.1 = keyOf kd)
  | _, _, .nil => rfl
  | (k', b', v') :: es, _, .cons (kd := kd') (ds := ds) h1 h2 h3 h4 r => by
    rw [List.any_cons, ← dxn_any hk r]
    by_cases e : k' = k
    · have : decide (keyOf kd' = keyOf kd) = true := decide_eq_true (by rw [h2, hk, e])
      show _ = (decide (keyOf kd' = keyOf kd) || _)
      rw [this, Bool.true_or]
      unfold lookN
      rw [List.find?_cons_of_pos (by simpa using e)]
      rfl
    · have : decide (keyOf kd' = keyOf kd) = false := decide_eq_false (by rw [h2, hk]; simpa using e)
      show _ = (decide (keyOf kd' = keyOf kd) || _)
      rw [this, Bool.false_or]
      unfold lookN
      rw [List.find?_cons_of_neg (by simpa using e)]
theorem dxn_map {k : NestedKey} {kd d : PyData} {v : V} (hk : keyOf kd = some k) (dx : Dx w K G v d) : ∀ {es : NEs} {ds : List (PyData × PyData)}, DxN w K G es ds → DxN w K G (es.map (setN k v)) (ds.map fun e => if keyOf e.1 = keyOf kd then (e.1, d) else e)
  | _, _, .nil => .nil
  | (k', b', v') :: es, _, .cons (kd := kd') (ds := ds) h1 h2 h3 h4 r => by
    rw [List.map_cons, List.map_cons]
    by_cases e : k' = k
    · have e1 : setN k v (k', b', v') = (k', b', v) := by unfold setN; rw [if_pos e]
      rw [e1, if_pos (by rw [h2, hk, e])]
      exact .cons h1 h2 h3 dx (dxn_map hk dx r)
    · have e1 : setN k v (k', b', v') = (k', b', v') := by unfold setN; rw [if_neg e]
      rw [e1, if_neg (by rw [h2, hk]; simpa using e)]
      exact .cons h1 h2 h3 h4 (dxn_map hk dx r)
theorem dxn_snoc {k : NestedKey} {b : Addr} {kd d : PyData} {v : V} (hb : Dx w K G (.ref b) kd) (hk : keyOf kd = some k) (h8 : k.depth ≤ 8) (dx : Dx w K G v d) : ∀ {es : NEs} {ds : List (PyData × PyData)}, DxN w K G es ds → DxN w K G (es ++ [(k, b, v)]) (ds ++ [(kd, d)])
  | _, _, .nil => .cons hb hk h8 dx .nil
  | _, _, .cons h1 h2 h3 h4 r => .cons h1 h2 h3 h4 (dxn_snoc hb hk h8 dx r)
theorem dxn_put {k : NestedKey} {b : Addr} {kd d : PyData} {v : V} (hb : Dx w K G (.ref b) kd) (hk : keyOf kd = some k) (h8 : k.depth ≤ 8) (dx : Dx w K G v d) {es : NEs} {ds : List (PyData × PyData)} (r : DxN w K G es ds) : DxN w K G (putN es k b v) (putD ds kd d) := by
  unfold putN putD
  rw [dxn_any hk r]
  split
  · exact dxn_map hk dx r
  · exact dxn_snoc hb hk h8 dx r
theorem dxn_len : ∀ {es : NEs} {ds : List (PyData × PyData)}, DxN w K G es ds → es.length = ds.length
  | _, _, .nil => rfl
  | _, _, .cons _ _ _ _ r => by rw [List.length_cons, List.length_cons, dxn_len r]
end
/-! ### what is changed -/
section
variable {X : Cx} {ρ : Sls} {N : Sls → Prop} {R : PyData → Sls → Prop} {tg e i : Expr} {pos p1 p2 p3 : Pos} {x : Str} {j : Nat} {P : PyData → Sls → Prop}
theorem ownL_at {w : World} {K : PySem.W.Frag} {F : Fr} {σ : L2.St} {G H : Hp} {ds : List PyData} (S : StG w K F ρ σ G H) (h : ρ[j]? = some (.ownL ds)) : ∃ p xs, σ[j]? = some (some (.ref p)) ∧ H p = some (.lst xs) ∧ DxAll w K G xs ds ∧ G p = none := by
  obtain ⟨p, b, e1, e2, e3, e4, e5, xs, rfl, r⟩ := S.at_ j _ h
  exact ⟨p, xs, e1, e2, r, e3⟩
theorem ownK_at {w : World} {K : PySem.W.Frag} {F : Fr} {σ : L2.St} {G H : Hp} {ds : List (PyData × PyData)} (S : StG w K F ρ σ G H) (h : ρ[j]? = some (.ownK ds)) : ∃ p xs, σ[j]? = some (some (.ref p)) ∧ H p = some (.dK xs) ∧ DxK w K G xs ds ∧ G p = none := by
  obtain ⟨p, b, e1, e2, e3, e4, e5, xs, rfl, r⟩ := S.at_ j _ h
  exact ⟨p, xs, e1, e2, r, e3⟩
theorem ownN_at {w : World} {K : PySem.W.Frag} {F : Fr} {σ : L2.St} {G H : Hp} {ds : List (PyData × PyData)} (S : StG w K F ρ σ G H) (h : ρ[j]? = some (.ownN ds)) : ∃ p xs, σ[j]? = some (some (.ref p)) ∧ H p = some (NDO w p xs) ∧ DxN w K G xs ds ∧ G p = none := by
  obtain ⟨p, b, e1, e2, e3, e4, e5, xs, rfl, r⟩ := S.at_ j _ h
  exact ⟨p, xs, e1, e2, r, e3⟩
/-- x.append(e) -/
theorem d1_app {ds0 : List PyData} (hv : PE X (.Name x p1) (tVar j)) (h0 : ρ[j]? = some (.ownL ds0)) (he : EX X e ρ P) (hn : ∀ d r, P d r → ∃ ds, r[j]? = some (.ownL ds) ∧ ds.length < sizeLine ∧ N (r.set j (.ownL (ds ++ [d]))))
    (hbase : attributeBase (.Name x p1) "append" X.env (eval (.Name x p1) X.env) = eval (.Name x p1) X.env := by rfl)
    (hfew : ((backTo p3 (starEach [e] X.env)).all (fun x => !x.1) && (backToKw p3 (keywordEach [] X.env)).all (fun x => x.1.isSome)
      && decide (([e] : List Expr).length + ([] : List Keyword).length + (if ([] : List Keyword).isEmpty then 0 else 1) < 30)) = true := by rfl)
    (hline : (p2.endLine == p3.line) = true := by rfl) (hst : starEach [e] X.env = (false, eval e X.env) :: starEach [] X.env := by rfl) (hplain : (backTo p3 (starEach [] X.env)).any (·.1) = false := by rfl)
    (hs : swapsWith (.Call (.Attribute (.Name x p1) "append" p2) [e] [] p3) none pos.line X.env = pure false := by rfl) : D1 X (.Expr (.Call (.Attribute (.Name x p1) "append" p2) [e] [] p3) pos) ρ N R :=
  ps_imp (ps_expr (pe_bm F.plainAttrs_list F.slot_list_append F.type_list_append mt_append hv (pa_cons he pa_nil hst) hbase hfew hline hst hplain) hs) fun D σ H ⟨F, G, S, qn, qr⟩ => by
    obtain ⟨p, xs, e1, e2, e3, _⟩ := ownL_at S h0
    refine ⟨_, e1, .inl ⟨rfl, xs, .inl (.inl e2)⟩, F, G, S, fun v d r G1 H1 p1 S1 s1 dx => ?_⟩
    obtain ⟨ds, f1, f2, f3⟩ := hn d r p1
    obtain ⟨p', ys, g1, g2, g3, _⟩ := ownL_at S1 f1
    rw [e1] at g1
    cases g1
    refine ⟨p, ys, v, rfl, rfl, g2, by rw [g3.length]; exact f2, ?_⟩
    exact qn _ σ G1 _ f3 (S1.put f1 rfl e1 ⟨_, rfl, g3.append (.cons dx .nil)⟩) s1
/-- x.extend(e) -/
theorem d1_ext {ds0 : List PyData} (hv : PE X (.Name x p1) (tVar j)) (h0 : ρ[j]? = some (.ownL ds0)) (he : EX X e ρ P) (hn : ∀ d r, P d r → ∃ ds es, d = .list es ∧ r[j]? = some (.ownL ds) ∧ ds.length + es.length ≤ sizeLine ∧ N (r.set j (.ownL (ds ++ es))))
    (hbase : attributeBase (.Name x p1) "extend" X.env (eval (.Name x p1) X.env) = eval (.Name x p1) X.env := by rfl)
    (hfew : ((backTo p3 (starEach [e] X.env)).all (fun x => !x.1) && (backToKw p3 (keywordEach [] X.env)).all (fun x => x.1.isSome)
      && decide (([e] : List Expr).length + ([] : List Keyword).length + (if ([] : List Keyword).isEmpty then 0 else 1) < 30)) = true := by rfl)
    (hline : (p2.endLine == p3.line) = true := by rfl) (hst : starEach [e] X.env = (false, eval e X.env) :: starEach [] X.env := by rfl) (hplain : (backTo p3 (starEach [] X.env)).any (·.1) = false := by rfl)
    (hs : swapsWith (.Call (.Attribute (.Name x p1) "extend" p2) [e] [] p3) none pos.line X.env = pure false := by rfl) : D1 X (.Expr (.Call (.Attribute (.Name x p1) "extend" p2) [e] [] p3) pos) ρ N R :=
  ps_imp (ps_expr (pe_bm F.plainAttrs_list F.slot_list_extend F.type_list_extend mt_extend hv (pa_cons he pa_nil hst) hbase hfew hline hst hplain) hs) fun D σ H ⟨F, G, S, qn, qr⟩ => by
    obtain ⟨p, xs, e1, e2, e3, _⟩ := ownL_at S h0
    refine ⟨_, e1, .inl ⟨rfl, xs, .inl (.inl e2)⟩, F, G, S, fun v d r G1 H1 p1 S1 s1 dx => ?_⟩
    obtain ⟨ds, es, rfl, f1, f2, f3⟩ := hn d r p1
    obtain ⟨p', ys, g1, g2, g3, _⟩ := ownL_at S1 f1
    rw [e1] at g1
    cases g1
    cases dx with
    | lst hb rb =>
      refine ⟨p, _, ys, _, rfl, rfl, g2, S1.grow.s _ _ hb, by rw [g3.length, rb.length]; exact f2, ?_⟩
      exact qn _ σ G1 _ f3 (S1.put f1 rfl e1 ⟨_, rfl, g3.append rb⟩) s1
/-- x.pop() -/
theorem ex_pop {ds : List PyData} {d : PyData} (hv : PE X (.Name x p1) (tVar j)) (h0 : ρ[j]? = some (.ownL (ds ++ [d])))
    (hbase : attributeBase (.Name x p1) "pop" X.env (eval (.Name x p1) X.env) = eval (.Name x p1) X.env := by rfl) (hline : (p2.endLine == p3.line) = true := by rfl) :
    EX X (.Call (.Attribute (.Name x p1) "pop" p2) [] [] p3) ρ (Is d (ρ.set j (.ownL ds))) :=
  pe_imp (pe_bm0 F.plainAttrs_list F.slot_list_pop F.type_list_pop mt_pop hv hbase hline) fun σ H Q ⟨F, G, S, q⟩ => by
    obtain ⟨p, xs, e1, e2, e3, _⟩ := ownL_at S h0
    have hl : xs.length = ds.length + 1 := by rw [e3.length, List.length_append, List.length_singleton]
    obtain ⟨v, h1, h2⟩ := e3.get (i := ds.length) (d := d) (by simp)
    refine ⟨_, e1, .inl ⟨rfl, xs, .inl (.inl e2)⟩, p, xs, v, rfl, rfl, e2, by rw [hl]; exact h1, ?_⟩
    refine q v d _ G _ ⟨rfl, rfl⟩ (S.put h0 rfl e1 ⟨_, rfl, ?_⟩) (Same.refl _) h2
    have := e3.take ds.length
    rw [List.take_left'  rfl] at this
    rw [List.dropLast_eq_take, hl]
    exact this
/-- x.pop(e) -/
theorem ex_popAt {ds0 : List PyData} (hv : PE X (.Name x p1) (tVar j)) (h0 : ρ[j]? = some (.ownL ds0)) (he : EX X e ρ P) (hP : ∀ d r, P d r → ∃ (n : Nat) (ds : List PyData), d = .int (n : Nat) ∧ r[j]? = some (.ownL ds) ∧ n < ds.length ∧ ds.length ≤ sizeLine)
    (hbase : attributeBase (.Name x p1) "pop" X.env (eval (.Name x p1) X.env) = eval (.Name x p1) X.env := by rfl)
    (hfew : ((backTo p3 (starEach [e] X.env)).all (fun x => !x.1) && (backToKw p3 (keywordEach [] X.env)).all (fun x => x.1.isSome)
      && decide (([e] : List Expr).length + ([] : List Keyword).length + (if ([] : List Keyword).isEmpty then 0 else 1) < 30)) = true := by rfl)
    (hline : (p2.endLine == p3.line) = true := by rfl) (hst : starEach [e] X.env = (false, eval e X.env) :: starEach [] X.env := by rfl) (hplain : (backTo p3 (starEach [] X.env)).any (·.1) = false := by rfl) :
    EX X (.Call (.Attribute (.Name x p1) "pop" p2) [e] [] p3) ρ (fun d r' => ∃ (n : Nat) (ds : List PyData) (r : Sls), P (.int (n : Nat)) r ∧ r[j]? = some (.ownL ds) ∧ ds[n]? = some d ∧ r' = r.set j (.ownL (ds.eraseIdx n))) :=
  pe_imp (pe_bm F.plainAttrs_list F.slot_list_pop F.type_list_pop mt_popAt hv (pa_cons he pa_nil hst) hbase hfew hline hst hplain) fun σ H Q ⟨F, G, S, q⟩ => by
    obtain ⟨p, xs, e1, e2, e3, _⟩ := ownL_at S h0
    refine ⟨_, e1, .inl ⟨rfl, xs, .inl (.inl e2)⟩, F, G, S, fun v d r G1 H1 p1 S1 s1 dx => ?_⟩
    obtain ⟨n, ds, rfl, f1, f2, f3⟩ := hP d r p1
    cases dx
    obtain ⟨p', ys, g1, g2, g3, _⟩ := ownL_at S1 f1
    rw [e1] at g1
    cases g1
    have hd : ds[n]? = some ds[n] := List.getElem?_eq_getElem f2
    obtain ⟨y, h1, h2⟩ := g3.get hd
    have hn : n < ys.length := by rw [g3.length]; exact f2
    refine ⟨p, ys, (n : Int), n, y, rfl, rfl, g2, by omega, ?_, ?_, h1, ?_⟩
    · have : (sizeLine : Int) < 2 ^ 63 := by decide
      omega
    · unfold seqIndex?
      simp
      omega
    · refine q y ds[n] _ G1 _ ⟨n, ds, r, p1, f1, hd, rfl⟩ (S1.put f1 rfl e1 ⟨_, rfl, ?_⟩) s1 h2
      have er : ∀ {vs : List V} {es : List PyData} (n : Nat), DxAll X.w X.K G1 vs es → DxAll X.w X.K G1 (vs.eraseIdx n) (es.eraseIdx n) := by
        intro vs es n
        induction n generalizing vs es with
        | zero => intro h; cases h with
          | nil => exact .nil
          | cons a b => exact b
        | succ n ih => intro h; cases h with
          | nil => exact .nil
          | cons a b => exact .cons a (ih b)
      exact er n g3
/-- x[i] = e, keys nested -/
theorem d1_putN {Pk : PyData → Sls → Prop} {ds0 : List (PyData × PyData)} (hu : X.A.units + 9 < cLine) (hv : PE X (.Name x p1) (tVar j)) (h0 : ρ[j]? = some (.ownN ds0)) (hl : ds0.length < sizeLine) (he : EX X e ρ P) (hP : ∀ d r, P d r → r = ρ) (hk : EX X i ρ Pk) (hPk : ∀ d r, Pk d r → r = ρ)
    (hn : ∀ d kd, P d ρ → Pk kd ρ → ∃ ks k, kd = .tuple ks ∧ keyOf kd = some k ∧ k.depth ≤ 8 ∧ N (ρ.set j (.ownN (putD ds0 kd d))))
    (hsw : swapsWithSole [.Subscript (.Name x p1) i p2] e pos.line X.env = pure false := by rfl) (hw : swappedStores [.Subscript (.Name x p1) i p2] e X.env = pure none := by rfl)
    (h1 : (assignEach [.Subscript (.Name x p1) i p2] X.env).map (·.2) = [assign (.Subscript (.Name x p1) i p2) X.env] := by rfl)
    (ha : ∀ v, assign (.Subscript (.Name x p1) i p2) X.env v = (do
      let ov ← holding [v] (eval (.Name x p1) X.env)
      let iv ← holding [v, ov] (eval i X.env)
      standAt p2
      holding [v, ov, iv] (setItem ov iv v)
      release [v, ov, iv] []) := by intro _; rfl) : D1 X (.Assign [.Subscript (.Name x p1) i p2] e pos) ρ N R :=
  ps_imp (ps_asg he (pg_sub hv hk (set_dn hu) ha) hsw hw h1) fun D σ H ⟨F, G, S, qn, qr⟩ => ⟨F, G, S, fun v d r G1 H1 pd S1 s1 dx => by
    have er := hP d r pd
    subst er
    obtain ⟨p, es, e1, e2, e3, _⟩ := ownN_at S1 h0
    refine ⟨_, e1, F, G1, S1, fun y kd r2 G2 H2 pk S2 s2 dy => ?_⟩
    have er := hPk kd r2 pk
    subst er
    obtain ⟨p', es', g1, g2, g3, _⟩ := ownN_at S2 h0
    rw [e1] at g1
    cases g1
    obtain ⟨ks, k, rfl, k1, k2, n⟩ := hn d kd pd pk
    obtain ⟨b, rfl⟩ := ref_of_key dy
    refine ⟨p, es', b, .tuple ks, k, rfl, rfl, g2, dxn_keys S2.grow.s g3, dy.mono S2.grow.s, k1, k2, by rw [dxn_len g3]; exact hl, ?_⟩
    exact qn _ σ G2 _ n (S2.put h0 rfl e1 ⟨_, rfl, dxn_put dy k1 k2 (dx.mono s2) g3⟩) (s1.trans s2)⟩
/-- x[i] = e, keys texts and numbers -/
theorem d1_putK {Pk : PyData → Sls → Prop} {ds0 : List (PyData × PyData)} (hu : X.A.units + 1 < cLine) (hv : PE X (.Name x p1) (tVar j)) (h0 : ρ[j]? = some (.ownK ds0)) (hl : ds0.length < sizeLine) (he : EX X e ρ P) (hP : ∀ d r, P d r → r = ρ) (hk : EX X i ρ Pk) (hPk : ∀ d r, Pk d r → r = ρ)
    (hn : ∀ d kd, P d ρ → Pk kd ρ → ∃ k : Key, kd = keyD k ∧ N (ρ.set j (.ownK (putD ds0 kd d))))
    (hsw : swapsWith e (some (.Subscript (.Name x p1) i p2)) pos.line X.env = pure false := by rfl) : D1 X (.Assign [.Subscript (.Name x p1) i p2] e pos) ρ N R :=
  ps_imp (ps_dput hu hv hk he hsw) fun D σ H ⟨F, G, S, qn, qr⟩ => ⟨F, G, S, fun v d r G1 H1 pd S1 s1 dx => by
    have er := hP d r pd
    subst er
    obtain ⟨p, es, e1, e2, e3, _⟩ := ownK_at S1 h0
    refine ⟨_, e1, F, G1, S1, fun y kd r2 G2 H2 pk S2 s2 dy => ?_⟩
    have er := hPk kd r2 pk
    subst er
    obtain ⟨p', es', g1, g2, g3, _⟩ := ownK_at S2 h0
    rw [e1] at g1
    cases g1
    obtain ⟨k, rfl, n⟩ := hn d kd pd pk
    have ey : y = kV k := by
      cases k with
      | inl i => cases dy; rfl
      | inr z => cases dy; rfl
    subst ey
    refine ⟨p, _, rfl, .k g2 (by rw [dxk_len g3]; exact hl), ?_⟩
    exact qn _ σ G2 _ n (S2.put h0 rfl e1 ⟨_, rfl, dxk_put g3 (dx.mono s2)⟩) (s1.trans s2)⟩
end
end K64

/-! ## K64Fn -/
/-! A def by its walk over data. -/
namespace K64
open PySem PySem.Spec PyProof.Rows L2
/-- the slots at entry -/
def ini (N : List Str) (ds : List PyData) : Sls := ds.map Sl.dat ++ List.replicate (N.length - ds.length) .non
theorem start_at {N : List Str} {vs : List V} {i : Nat} {v : V} (h : vs[i]? = some v) : (L2.start N vs)[i]? = some (some v) := by
  have hl : i < vs.length := by
    rcases Nat.lt_or_ge i vs.length with h' | h'
    · exact h'
    · rw [List.getElem?_eq_none h'] at h; cases h
  unfold L2.start
  rw [List.getElem?_append_left (by rw [List.length_map]; exact hl), List.getElem?_map, h]
  rfl
theorem ini_at {N : List Str} {ds : List PyData} {i : Nat} {sl : Sl} (h : (ini N ds)[i]? = some sl) : sl = .non ∨ ∃ d, ds[i]? = some d ∧ sl = .dat d := by
  unfold ini at h
  by_cases hl : i < ds.length
  · rw [List.getElem?_append_left (by rw [List.length_map]; exact hl), List.getElem?_map] at h
    obtain ⟨d, h1, rfl⟩ := Option.map_eq_some_iff.mp h
    exact .inr ⟨d, h1, rfl⟩
  · rw [List.getElem?_append_right (by rw [List.length_map]; omega)] at h
    exact .inl (List.eq_of_mem_replicate (List.mem_of_getElem? h))
theorem st_ini {w : World} {K : PySem.W.Frag} {N : List Str} {vs : List V} {ds : List PyData} {G H : Hp} (s : Same G H) (r : DxAll w K G vs ds) : StG w K ⟨G, H, none⟩ (ini N ds) (L2.start N vs) G H where
  grow := .refl s
  len := by
    unfold ini L2.start
    simp only [List.length_append, List.length_map, List.length_replicate]
    rw [r.length]
    exact Nat.le_refl _
  at_ := fun i sl h => by
    rcases ini_at h with rfl | ⟨d, h1, rfl⟩
    · exact trivial
    · obtain ⟨v, h2, dx⟩ := r.get h1
      exact ⟨v, start_at h2, dx⟩
  dist := fun i j a b h1 h2 e1 e2 => by
    rcases ini_at h1 with rfl | ⟨d, _, rfl⟩ <;> cases e1
  sack := fun k h => nomatch h
/-- the slots of a def that draws -/
def iniK (N : List Str) (ds : List PyData) : Sls := .sck :: (ds.map Sl.dat ++ List.replicate (N.length - (ds.length + 1)) .non)
theorem st_iniK {w : World} {K : PySem.W.Frag} {N : List Str} {vs : List V} {ds : List PyData} {G H : Hp} {k : Addr} (s : Same G H) (hG : G k = none) (hk : Sk H k) (r : DxAll w K G vs ds) : StG w K ⟨G, del H k, some k⟩ (iniK N ds) (L2.start N (.ref k :: vs)) G H where
  grow := ⟨Same.refl _, del_same, s, fun _ e _ => e⟩
  len := by
    unfold iniK L2.start
    simp only [List.length_append, List.length_map, List.length_replicate, List.length_cons]
    rw [r.length]
    omega
  at_ := fun i sl h => by
    cases i with
    | zero =>
      cases h
      exact ⟨k, rfl, start_at rfl⟩
    | succ i =>
      have h' : (ds.map Sl.dat ++ List.replicate (N.length - (ds.length + 1)) Sl.non)[i]? = some sl := h
      by_cases hl : i < ds.length
      · rw [List.getElem?_append_left (by rw [List.length_map]; exact hl), List.getElem?_map] at h'
        obtain ⟨d, h1, rfl⟩ := Option.map_eq_some_iff.mp h'
        obtain ⟨v, h2, dx⟩ := r.get h1
        exact ⟨v, start_at (vs := .ref k :: vs) (i := i + 1) h2, dx⟩
      · rw [List.getElem?_append_right (by rw [List.length_map]; omega)] at h'
        have e := List.eq_of_mem_replicate (List.mem_of_getElem? h')
        subst e
        exact trivial
  dist := fun i j a b h1 h2 e1 e2 => by
    have hno : ∀ (i : Nat) (a : Sl), (iniK N ds)[i]? = some a → a.isOwn = true → False := fun i a h e => by
      cases i with
      | zero => cases h; cases e
      | succ i =>
        have h' : (ds.map Sl.dat ++ List.replicate (N.length - (ds.length + 1)) Sl.non)[i]? = some a := h
        rcases List.mem_append.mp (List.mem_of_getElem? h') with hm | hm
        · obtain ⟨d, _, rfl⟩ := List.mem_map.mp hm
          cases e
        · have e' := List.eq_of_mem_replicate hm
          subst e'
          cases e
    exact (hno i a h1 e1).elim
  sack := fun k' h => by
    cases h
    exact ⟨del_none, hG, hk⟩
abbrev cxN (P : Program) (w : World) (K : PySem.W.Frag) (mg : Str → Option Value) (base : Heap) (N : List Str) (qual : Str) (st : Stmt) (f : Addr) (cdv : Value) (A : Around) (outer : List PySem.Env) (s : Shared) (H : Hp) (E : XK) : Cx := (cxOf CX0 P w K mg base N qual (defScope st) f cdv A outer s H E).nox
section
variable {P : Program} {w : World} {K : PySem.W.Frag} {mg : Str → Option Value} {base : Heap} {x qual : Str} {st : Stmt} {f : Addr} {fd : FuncData} {N ps : List Str} {k : Nat}
/-- a def that only reads -/
theorem fnD {R : List PyData → PyData → Prop} (F : Fun K x qual st f fd) (S : FnScope N ps (defScope st)) (hl : ∀ ds d, R ds d → ds.length = ps.length)
    (hb : ∀ (cdv : Value) (A : Around) (outer : List PySem.Env) (s : Shared) (H : Hp) (E : XK), Room k (A.deeper (envOfC qual (defScope st) s.heap.objs.size f cdv)) → ∀ ds d, R ds d →
      DS (cxN P w K mg base N qual st f cdv A outer s H E) (defBody st) (ini N ds) (fun _ => d = .none) (fun y _ => y = d)) : FnOk P w K mg base CX0 (k + 1) f fd ps (spD w K R) := by
  refine F.ok S (fun vs H Q E ⟨G, ds, d, _, r, h, _⟩ => by rw [r.length]; exact hl ds d h) fun cdv A outer s H vs Q E hr ⟨G, ds, d, sg, r, h, q⟩ => ⟨_, hb cdv A outer s H E hr ds d h, ?_⟩
  refine ⟨⟨G, H, none⟩, G, st_ini sg r, fun ρ' σ' G' H' e S' s' => ?_, fun v y ρ' σ' G' H' e S' s' dx => ?_⟩
  · subst e
    exact q .non G' H' S'.grow .non
  · subst e
    exact q v G' H' S'.grow dx
/-- a def that draws -/
theorem fnK {Pre : List PyData → Prop} {R : List PyData → PyData → Prop} (F : Fun K x qual st f fd) (S : FnScope N ps (defScope st)) (hl : ∀ ds, Pre ds → ds.length + 1 = ps.length)
    (hb : ∀ (cdv : Value) (A : Around) (outer : List PySem.Env) (s : Shared) (H : Hp) (E : XK), Room k (A.deeper (envOfC qual (defScope st) s.heap.objs.size f cdv)) → ∀ ds, Pre ds →
      DS (cxN P w K mg base N qual st f cdv A outer s H E) (defBody st) (iniK N ds) (fun _ => R ds .none) (fun y _ => R ds y)) : FnOk P w K mg base CX0 (k + 1) f fd ps (spK w K Pre R) := by
  refine F.ok S (fun vs H Q E ⟨G, k', ws, ds, e, _, _, _, r, h, _⟩ => by rw [e, List.length_cons, r.length]; exact hl ds h) fun cdv A outer s H vs Q E hr ⟨G, k', ws, ds, e, sg, hG, hk, r, h, q⟩ => ⟨_, hb cdv A outer s H E hr ds h, ?_⟩
  subst e
  refine ⟨⟨G, del H k', some k'⟩, G, st_iniK sg hG hk r, fun ρ' σ' G' H' e S' s' => ?_, fun v y ρ' σ' G' H' e S' s' dx => ?_⟩
  · obtain ⟨_, a, b⟩ := S'.sack k' rfl
    exact q .non .none G' H' e S'.grow a b .non
  · obtain ⟨_, a, b⟩ := S'.sack k' rfl
    exact q v y G' H' e S'.grow a b dx
end
/-! ### in short -/
theorem szl {n : Nat} (h : n ≤ 100000) : n ≤ sizeLine := Nat.le_trans h (by decide)
theorem szl' {n : Nat} (h : n ≤ 100000) : n < sizeLine := Nat.lt_of_le_of_lt h (by decide)
section
variable {X : Cx} {ρ : Sls} {N : Sls → Prop} {R : PyData → Sls → Prop} {e : Expr} {pos pos' : Pos} {x : Str} {P : PyData → Sls → Prop} {d : PyData}
/-- x = e -/
theorem d_set (i : Nat) (hN : X.N.Nodup) (he : EX X e ρ P) (hn : ∀ d r, P d r → N (r.set i (.dat d))) (hi : X.N[i]? = some x := by rfl) (hx : Loc X.env.scope x := by first | exact Or.inl rfl | exact Or.inr rfl)
    (hs : swapsWith e (some (.Name x pos')) pos.line X.env = pure false := by rfl) (hf : X.fn x = true ∨ X.env.scope.names.lookup x = some .local := by first | exact .inl rfl | exact .inr rfl) : D1 X (.Assign [.Name x pos'] e pos) ρ N R := d1_set he (ps_set hN hi hx he hs hf) hn
/-- x = e, e reads -/
theorem d_let (i : Nat) (hN : X.N.Nodup) (he : DE X e (er ρ) d) (hi : X.N[i]? = some x := by rfl) (hx : Loc X.env.scope x := by first | exact Or.inl rfl | exact Or.inr rfl)
    (hs : swapsWith e (some (.Name x pos')) pos.line X.env = pure false := by rfl) (hf : X.fn x = true ∨ X.env.scope.names.lookup x = some .local := by first | exact .inl rfl | exact .inr rfl) : D1 X (.Assign [.Name x pos'] e pos) ρ (· = ρ.set i (.dat d)) R :=
  d_set i hN (ex_of he) (fun d' r ⟨h1, h2⟩ => by rw [h1, h2]) hi hx hs hf
/-- x = e, e makes -/
theorem d_own (i : Nat) {sl : Sl} (hN : X.N.Nodup) (he : DO X e (er ρ) sl) (hi : X.N[i]? = some x := by rfl) (hx : Loc X.env.scope x := by first | exact Or.inl rfl | exact Or.inr rfl)
    (hs : swapsWith e (some (.Name x pos')) pos.line X.env = pure false := by rfl) (hf : X.fn x = true ∨ X.env.scope.names.lookup x = some .local := by first | exact .inl rfl | exact .inr rfl) : D1 X (.Assign [.Name x pos'] e pos) ρ (· = ρ.set i sl) R :=
  d1_setO (ps_set hN hi hx he hs hf) rfl
theorem d_ret (he : DE X e (er ρ) d) (hr : R d ρ) : D1 X (.Return (some e) pos) ρ N R := d1_ret (ex_of he) fun d' r ⟨h1, h2⟩ => by rw [h1, h2]; exact hr
/-- the name in the i-th slot -/
theorem dv {ρ : Env} (i : Nat) (he : ρ[i]? = some (some d) := by rfl) (hN : X.N[i]? = some x := by rfl) (hv : Vis X.env.scope x := by first | exact Or.inl rfl | exact Or.inr (Or.inl rfl) | exact Or.inr (Or.inr rfl)) (hd : (x == ("__debug__" : Str)) = false := by decide)
    (hcd : (x == ("__classdict__" : Str)) = false := by decide) : DE X (.Name x pos) ρ d := de_var i he (pv i hN hv hd hcd)
end
theorem de_eq {X : Cx} {e : Expr} {ρ : Env} {d d' : PyData} (h : DE X e ρ d') (q : d' = d) : DE X e ρ d := q ▸ h
theorem dt_eq {X : Cx} {e : Expr} {ρ : Env} {d d' : Bool} (h : DT X e ρ d') (q : d' = d) : DT X e ρ d := q ▸ h
/-- the target in the i-th slot -/
theorem pn {X : Cx} {x : Str} {pos : Pos} (i : Nat) (hN : X.N.Nodup) (hi : X.N[i]? = some x := by rfl) (hx : Loc X.env.scope x := by first | exact Or.inl rfl | exact Or.inr rfl) (hf : X.fn x = true ∨ X.env.scope.names.lookup x = some .local := by first | exact .inl rfl | exact .inr rfl) : PG X (.Name x pos) (gName i) := pg_name hN hi hx hf
/-! ### what is forgotten -/
inductive WeakL : Sls → Sls → Prop
  | nil {ρ : Sls} : WeakL ρ []
  | same {a : Sl} {ρ ρ' : Sls} : WeakL ρ ρ' → WeakL (a :: ρ) (a :: ρ')
  | non {a : Sl} {ρ ρ' : Sls} : WeakL ρ ρ' → WeakL (a :: ρ) (.non :: ρ')
theorem WeakL.weak {ρ ρ' : Sls} (h : WeakL ρ ρ') : Weak ρ ρ' := by
  induction h with
  | nil => exact ⟨Nat.zero_le _, fun i sl e => by simp at e⟩
  | same _ ih =>
    refine ⟨Nat.succ_le_succ ih.1, fun i sl e => ?_⟩
    cases i with
    | zero => exact .inr e
    | succ i => exact ih.2 i sl e
  | non _ ih =>
    refine ⟨Nat.succ_le_succ ih.1, fun i sl e => ?_⟩
    cases i with
    | zero => exact .inl (Option.some.inj e).symm
    | succ i => exact ih.2 i sl e
theorem WeakL.refl : ∀ ρ : Sls, WeakL ρ ρ
  | [] => .nil
  | _ :: ρ => .same (WeakL.refl ρ)
section
variable {X : Cx} {ρ ρ0 : Sls} {N : Sls → Prop} {R : PyData → Sls → Prop} {e c tg iter : Expr} {body rest sts : List Stmt} {st : Stmt} {pos pos' : Pos}
theorem ds_wk {ρ' : Sls} (hw : WeakL ρ ρ') (h : DS X sts ρ' N R) : DS X sts ρ N R := ds_weak h hw.weak
/-- a loop from state to state, then the rest -/
theorem ds_for {α : Type} (as : List α) (enc : α → PyData) {g : TG} (st : Nat → Sls) (hp : PassesOwn (model X.prog X.w) X.A X.env X.xe) (hc : X.calm = true) (hi : DI X tg iter (er ρ) (as.map enc)) (hg : PG X tg g) 
    (step : ∀ i a, as[i]? = some a → ∃ r', TgS X.w X.K g (st i) (enc a) r' ∧ DS X body r' (fun r => WeakL r (st (i + 1))) R) (hr : DS X rest (st as.length) N R) (h0 : WeakL ρ (st 0) := by repeat (first | exact WeakL.refl _ | apply WeakL.same | apply WeakL.non)) (hs : ∀ x, foldedSetIterable iter X.env x = pure x := by intro _; rfl) : DS X (.For tg iter body [] pos :: rest) ρ N R := by
  refine ds_cons (M := fun r => WeakL r (st as.length)) (d1_for as enc (fun i r => WeakL r (st i)) hp hc hi hg h0 (fun i a r ha hr => ?_) (fun r h => h) hs) fun r h => ds_wk h hr
  obtain ⟨r', h1, h2⟩ := step i a ha
  refine ⟨r', fun x σ F G H Q S dx q => h1 x σ F G H Q (S.weak hr.weak.1 hr.weak.2) dx q, h2⟩
end
/-! ### a comprehension's block -/
def blkB (N : List Str) (sc scope : Scope) (own : List (Str × Nat)) : Bool := (match scope.kind with | .function => true | _ => false) && ((scope.names.all fun y => scope.names.lookup y.1 == some y.2) && ((own.all fun p => N[p.2]? == some p.1) &&
  ((scope.names.all fun y => y.2 != .free || (sc.names.lookup y.1 == some .cell || sc.names.lookup y.1 == some .free)) && scope.names.all fun y => !(y.2 == .local || y.2 == .cell) || ((own.map (·.1)).contains y.1 || !N.contains y.1))))
theorem blk_of {N : List Str} {sc scope : Scope} {own : List (Str × Nat)} (h : blkB N sc scope own = true) : BlkOk N sc scope own := by
  unfold blkB at h
  simp only [Bool.and_eq_true, List.all_eq_true, Bool.or_eq_true, beq_iff_eq, bne_iff_ne, Bool.not_eq_true', List.contains_iff_mem, decide_eq_true_eq] at h
  obtain ⟨a, b, c, d, e⟩ := h
  refine ⟨?_, b, c, fun y hy h => ?_, fun y hy h => ?_⟩
  · revert a
    cases scope.kind <;> intro a <;> first | rfl | cases a
  · rcases d y hy with q | q
    · exact absurd h q
    · exact q
  · rcases e y hy with q | q
    · rcases h with h | h <;> rw [h] at q <;> cases q
    · rcases q with q | q
      · exact .inl q
      · refine .inr fun z => ?_
        rw [List.contains_iff_mem.mpr z] at q
        cases q
/-! ### list comprehensions without tests -/
section
variable {X : Cx} {ρ : Env} {pos : Pos} {elt tg iter : Expr} {scope : Scope} {own : List (Str × Nat)}
theorem de_map {α : Type} (as : List α) (enc : α → PyData) (f : α → PyData) (ρ' : α → Env) {g : TG} (hc : X.calm = true) (hN : X.N.Nodup) (hi : DI X tg iter ρ (as.map enc)) (ok : BlkOk X.N X.env.scope scope own)
    (hg : ∀ (s : Shared) (H : Hp) (C : Addr) (cl : List (Str × Addr)) (fp : List Addr), PG (X.blk s H scope (compEnvC scope cl C X.env) fp) tg g) (hz : as.length ≤ sizeLine)
    (hgd : ∀ a ∈ as, TgD X.w X.K (own.map (·.2)) g (wipeR ρ (own.map (·.2))) (enc a) (ρ' a))
    (he : ∀ (s : Shared) (H : Hp) (C : Addr) (cl : List (Str × Addr)) (fp : List Addr), ∀ a ∈ as, DE (X.blk s H scope (compEnvC scope cl C X.env) fp) elt (ρ' a) (f a))
    (hs : ∀ x, foldedSetIterable iter X.env x = pure x := by intro _; rfl) : DE X (.ListComp elt [⟨tg, iter, [], 0⟩] scope pos) ρ (.list (as.map f)) := by
  have h := de_lc as enc (fun _ => true) f ρ' (pos := pos) hc hN hi ok hg hz hgd (fun _ _ _ _ _ a _ => pts_yes) (fun s H C cl fp a ha _ => he s H C cl fp a ha) hs
  rwa [List.filter_eq_self.mpr fun _ _ => rfl] at h
end
end K64

/-! ## K64Sort -/
/-! sorted over data; list.index. -/
namespace K64
open PySem PySem.Spec PyProof.Rows L2 PySem.W PySem.SeqAt
section
variable {prog : Program} {w : World} {A : Around} {s : Shared}
theorem tup_lt {E Q : Value → Shared → Prop} {l b : Addr} {items items2 : Array Value} {e r : Nat → Bool} (hl : s.heap.IsTuple l items) (hb : s.heap.IsTuple b items2)
    (he : ∀ j (h1 : j < items.size) (h2 : j < items2.size), EqAt A.in1 s items[j] items2[j] (e j)) (hr : ∀ j (h1 : j < items.size) (h2 : j < items2.size), e j = false → RcLt A.in1 s items[j] items2[j] (r j))
    (h : Q (.bool (firstLt e r (decide (items.size < items2.size)) (List.range (min items.size items2.size)))) s) : wpAny (model prog w) A (call (.builtin "tuple.__lt__") [.ref l, .ref b]) Q E s := by
  obtain ⟨⟨c1, d1, t1, s1⟩, h1, rfl, n1, rfl⟩ := id hl
  obtain ⟨⟨c2, d2, t2, s2⟩, h2, rfl, n2, rfl⟩ := id hb
  exact call_meets F.slot_tuple_lt ⟨_, h1, rfl⟩ F.entry_tuple_lt (F.args_tuple_lt_2 _ _) (tuple_ltAt l b items items2 n1 n2 d1 d2 s1 s2 e r) ⟨h1, h2, he, hr, h⟩
theorem oneLt_tup {xs ys : List PyData} {a b : Value} {as bs : List Addr} {Q : Bool → Shared → Prop} {E : Value → Shared → Prop} (ra : Reads s.heap a (.tuple xs) as) (rb : Reads s.heap b (.tuple ys) bs) (h : alike (.tuple xs) (.tuple ys) = true)
    (hu : A.units + min (PyData.tuple xs).depth (PyData.tuple ys).depth < cLine) (hq : Q (dataLt (.tuple xs) (.tuple ys)) s) : wpAny (model prog w) A (oneLt' true a b) Q E s := by
  have hal : alikeAll xs ys = true := by simpa [alike] using h
  cases ra with
  | @tuple l o vs n _ as₁ h1 h2 h3 h4 =>
    cases rb with
    | @tuple l' o' vs' n' _ bs₁ k1 k2 k3 k4 =>
      have n1 : vs.size = xs.length := by simpa using ReadsAll.length _ _ _ h4
      have n2 : vs'.size = ys.length := by simpa using ReadsAll.length _ _ _ k4
      rw [dataLt_tuple, ← firstLt_toks xs ys hal, ← n1, ← n2] at hq
      rw [oneLt'_eq, if_pos rfl]
      refine wpAny_bind (wpAny_cRoomFor (room_here hu) ?_)
      refine wpAny_bind (wpAny_callSpecialIfBound?_slot (T := "tuple") ⟨_, h1, h2⟩ F.slot_tuple_lt (tup_lt (e := pairEq xs ys) (r := fun j => dataLt (xs.getD j .none) (ys.getD j .none)) ⟨_, h1, h2, _, h3⟩ ⟨_, k1, k2, _, k3⟩ (fun j j1 j2 => ?_) (fun j j1 j2 hj => ?_) (wpAny_truthy_bool hq)))
      · have z := eqAt_alikeAll xs ys A.in1 s vs.toList vs'.toList _ _ h4 k4 hal (room_in hu) j (by simpa using j1) (by simpa using j2)
        simp only [Array.getElem_toList] at z
        exact z
      · have z := rcLt_alikeAll xs ys A.in1 s vs.toList vs'.toList _ _ h4 k4 hal (room_in hu) j (by simpa using j1) (by simpa using j2) hj
        simp only [Array.getElem_toList] at z
        exact z
/-- reading the first item of a tuple -/
theorem first_tup {M : Model} {v : Value} {xs : List PyData} {as : List Addr} {Q : Option Value → Shared → Prop} {E : Value → Shared → Prop} (r : Reads s.heap v (.tuple xs) as) (h : ∀ o, o.isSome = !xs.isEmpty → Q o s) : wpAny M A (firstOfTuple' v) Q E s := by
  rw [kas_first_eq]
  refine wpAny_bind ((looks_reads r).here ?_)
  rw [if_neg (by show ¬ ((Value.type "tuple" != Value.type "tuple") = true); decide)]
  cases r with
  | @tuple l o vs n _ as₁ h1 h2 h3 h4 =>
    refine wpAny_bind (listItems_at h1 h3 (wpAny_pure (h _ ?_)))
    have n1 : vs.size = xs.length := by simpa using ReadsAll.length _ _ _ h4
    cases xs with
    | nil =>
      rw [Array.getElem?_eq_none (by rw [n1]; exact Nat.le_refl _)]
      rfl
    | cons x r =>
      rw [Array.getElem?_eq_getElem (by rw [n1]; exact Nat.succ_pos _)]
      rfl
theorem firsts_tup {M : Model} {E : Value → Shared → Prop} : ∀ {vs : List Value} {ds : List PyData} {Q : List (Option Value) → Shared → Prop}, EachIs (fun v d => ∃ xs as, d = .tuple xs ∧ Reads s.heap v d as) vs ds → (∀ os, os.length = vs.length → (∀ v d vs' ds', vs = v :: vs' → ds = d :: ds' → ∃ o os', os = o :: os' ∧ (d = .tuple [] → o = none)) → Q os s) → wpAny M A (vs.mapM firstOfTuple') Q E s
  | _, _, Q, .nil, h => by rw [List.mapM_nil]; exact wpAny_pure (h [] rfl fun _ _ _ _ z => nomatch z)
  | v :: vs, d :: ds, Q, .cons ⟨xs, as, e, r⟩ t, h => by
    subst e
    rw [List.mapM_cons]
    refine wpAny_bind (first_tup r fun o ho => wpAny_bind (firsts_tup t fun os hl _ => wpAny_pure (h (o :: os) (by rw [List.length_cons, List.length_cons, hl]) fun v' d' vs' ds' e1 e2 => ?_)))
    cases e2
    refine ⟨o, os, rfl, fun z => ?_⟩
    cases z
    cases o with
    | none => rfl
    | some _ => cases ho
/-- a list of tuples whose first is empty: one type -/
theorem kind_first0 {M : Model} {E : Value → Shared → Prop} {vs : List Value} {ds : List PyData} {Q : SortKind → Shared → Prop} (e : EachIs (fun v d => ∃ xs as, d = .tuple xs ∧ Reads s.heap v d as) vs (.tuple [] :: ds)) (h : Q oneType' s) : wpAny M A (keyKind' vs.toArray) Q E s := by
  rw [keyKind'_eq, List.mapM_toArray, map_eq_pure_bind]
  refine wpAny_bind (wpAny_bind (firsts_tup e fun os hl ho => wpAny_pure ?_))
  cases e with
  | @cons v d vs' ds' h1 h2 =>
    obtain ⟨o, os', rfl, h0⟩ := ho v _ vs' _ rfl rfl
    have h0 := h0 rfl
    subst h0
    rw [if_neg (by simp), if_neg (by simp)]
    rw [oneTypeOnly'_eq, List.mapM_toArray, map_eq_pure_bind]
    have e' : EachIs (fun v d => ∃ xs as, d = .tuple xs ∧ Reads s.heap v d as) (v :: vs') (.tuple [] :: ds) := .cons h1 h2
    refine wpAny_bind (wpAny_bind (wpAny_bind (kas_mapM (r := Value.type "tuple") _ (fun u hu Q' hq => ?_) (wpAny_pure ?_))))
    · obtain ⟨d, hd, xs, as, rfl, r⟩ := e'.left u hu
      exact (looks_reads r).here hq
    · have hall : ((List.map (fun _ => Value.type "tuple") (v :: vs')).toArray.all fun x => x == Value.type "tuple") = true := by
        simp only [List.all_toArray, List.all_map, List.all_eq_true]
        intro _ _
        exact beq_self_eq_true _
      have h0 : (List.map (fun _ => Value.type "tuple") (v :: vs')).toArray[0]? = some (Value.type "tuple") := by simp
      rw [h0]
      simp only [hall, if_true]
      exact wpAny_pure (wpAny_pure h)
/-- .. sorted -/
theorem sortsAt0 {vs : List Value} {ds : List PyData} (e : EachIs (fun v d => ∃ as, Reads s.heap v d as) vs (.tuple [] :: ds)) (ht : ∀ d ∈ ds, ∃ xs, d = .tuple xs) (hal : AllAlike (.tuple [] :: ds)) (hu : ∀ d, d ∈ (.tuple [] :: ds : List PyData) → A.units + d.depth < cLine) : SortsAt prog w A s (dataKind s.heap (.tuple [] :: ds)) vs := by
  have ht' : ∀ d ∈ (.tuple [] :: ds : List PyData), ∃ xs, d = .tuple xs := fun d hd => by
    rcases List.mem_cons.mp hd with rfl | hd
    · exact ⟨[], rfl⟩
    · exact ht d hd
  refine ⟨fun v hv => ?_, oneType', ?_, fun _ E Q hq => ?_⟩
  · obtain ⟨d, hd, as, r⟩ := e.left v hv
    exact ⟨_, dataKind_some hal hd r⟩
  · intro E x y a b Q ha hb hq
    obtain ⟨d, as, hd, ra, rfl⟩ := dataKind_inv ha
    obtain ⟨d', as', hd', rb, rfl⟩ := dataKind_inv hb
    obtain ⟨xs, rfl⟩ := ht' d hd
    obtain ⟨ys, rfl⟩ := ht' d' hd'
    rw [keyLt'_oneType]
    exact oneLt_tup ra rb (hal _ hd _ hd') (Nat.lt_of_le_of_lt (Nat.add_le_add_left (Nat.min_le_left _ _) _) (hu _ hd)) hq
  · refine kind_first0 ((each_mem e).mono fun v d h => ?_) hq
    obtain ⟨⟨as, r⟩, hd⟩ := h
    obtain ⟨xs, rfl⟩ := ht' d hd
    exact ⟨xs, as, rfl, r⟩
end
/-- what may be sorted -/
def SortOk (ds : List PyData) : Prop := Sortable ds ∨ ∃ rest, ds = .tuple [] :: rest ∧ ∀ d ∈ rest, ∃ xs, d = .tuple xs
def srt {α : Type} [DecidableEq α] [DatumOrd α] (bs : List α) : List α := bs.mergeSort fun a b => !DatumOrd.lt b a
theorem srt_eq {α : Type} [DecidableEq α] [DatumOrd α] (bs : List α) : bs.mergeSort (dataLe false (Datum.toD : α → PyData)) = srt bs := by
  unfold srt
  congr 1
  funext a b
  rw [dataLe_eq]
  show (!dataLt (Datum.toD b) (Datum.toD a)) = _
  rw [DatumOrd.lt_eq]
def rSortD (w : World) (K : PySem.W.Frag) (α : Type) [DecidableEq α] [DatumOrd α] : List V → Hp → VK → Prop := fun xs H Q => ∃ (a : Addr) (G : Hp) (bs : List α), xs = [.ref a] ∧ Same G H ∧ Dx w K G (.ref a) (.list (bs.map Datum.toD)) ∧ SortOk (bs.map Datum.toD) ∧ bs.length ≤ sizeLine ∧
  ∀ p ys, H p = none → DxAll w K G ys ((srt bs).map Datum.toD) → Q (.ref p) (upd H p (.lst ys))
theorem each_reads {β : Type} {h : Heap} {enc : β → PyData} : ∀ {vs : List Value} {bs : List β} {as : List Addr}, ReadsAll h vs (bs.map enc) as → EachIs (fun v b => ∃ as, Reads h v (enc b) as) vs bs := fun r => readsAll_each _ r
theorem vals_dx {w : World} {K : PySem.W.Frag} {G : Hp} {β : Type} {enc : β → PyData} : ∀ {us : List Value} {bs : List β}, EachIs (fun u b => ∃ x, RelV x u ∧ Dx w K G x (enc b)) us bs → ∃ ys, Vals ys us ∧ DxAll w K G ys (bs.map enc)
  | _, _, .nil => ⟨[], .nil, .nil⟩
  | _, _, .cons ⟨x, r, d⟩ t => by
    obtain ⟨ys, a, b⟩ := vals_dx t
    exact ⟨x :: ys, .cons r a, .cons d b⟩
theorem dx_vals {w : World} {K : PySem.W.Frag} {G : Hp} {β : Type} {enc : β → PyData} : ∀ {xs : List V} {us : List Value} {bs : List β}, Vals xs us → DxAll w K G xs (bs.map enc) → EachIs (fun u b => ∃ x, RelV x u ∧ Dx w K G x (enc b)) us bs
  | _, _, [], .nil, h => .nil
  | _, _, [], .cons _ _, h => by cases h
  | _, _, b :: bs, .cons r t, h => by
    rw [List.map_cons] at h
    cases h with
    | cons d e => exact .cons ⟨_, r, d⟩ (dx_vals t e)
  | _, _, b :: bs, .nil, h => by cases h
section
variable {X : Cx} {α : Type} [DecidableEq α] [DatumOrd α]
theorem alike_all (bs : List α) : AllAlike (bs.map Datum.toD) := .of fun a b => DatumOrd.alike a b
theorem crD_sorted (hu : X.A.units + 64 < cLine) (hd : Datum.depth α ≤ 60) : CallR X (.builtin "sorted") (rSortD X.w X.K α) := by
  intro pins s σ H vs us Q I r h
  obtain ⟨a, G, bs, rfl, sg, dx, ok, hz, q⟩ := h
  cases dx with
  | lst hx rx =>
    obtain ⟨its, rv, hl, _⟩ := I.list (.inl (.inl (sg _ _ hx)))
    rw [Vals.ref1 r]
    obtain ⟨as, ra⟩ := dx_readsAll I sg rx (plainAll_map bs) rv
    have er := each_reads ra
    have e := dx_vals rv rx
    have hdep : ∀ b, b ∈ bs → X.A.units + 2 + (Datum.toD b).depth < cLine := fun b _ => by have := Datum.depth_le b; omega
    have fin : ∀ out : List Value, EachIs (fun u b => ∃ x, RelV x u ∧ Dx X.w X.K G x (Datum.toD b)) out (bs.mergeSort (dataLe false Datum.toD)) → EP X pins σ Q (.ref (s.heap.objs.size + 1)) { s with heap := sortedAll s.heap its (List.toArray out) } := fun out ho => by
      rw [srt_eq] at ho
      obtain ⟨ys, v1, v2⟩ := vals_dx ho
      obtain ⟨ep, he'⟩ := PyProof.Rows.sortedAll_at s.heap its out.toArray
      have hlen : ys.length ≤ sizeLine := by
        rw [v2.length, List.length_map, srt, List.length_mergeSort]
        exact hz
      have hn : H (s.heap.objs.size + 1) = none := I.hok.fresh (Nat.le_succ _)
      exact ⟨.ref _, upd H (s.heap.objs.size + 1) (.lst ys), I.laid (t' := s.toks) (fun _ _ => PyProof.Rows.sortedAll_old) (Nat.le_succ _) ⟨hlen, out, ep, v1, he'⟩, rfl, q _ _ hn v2⟩
    rcases ok with ok | ⟨rest, er0, ht⟩
    · exact sorted_data hl.isList e er (alike_all bs) ok hz hdep fun out _ ho => fin out ho
    · have er' : EachIs (fun v b => ∃ as, Reads (sortingHeap (copyHeap s.heap its) (s.heap.objs.size + 1) its) v (Datum.toD b) as) its bs := er.mono fun _ _ ⟨as, r⟩ => ⟨as, PyProof.Rows.Reads.keeps (fun _ _ => sorting_copy_old) r⟩
      have S0 : SortsAt X.prog X.w X.A.in1.in1 { s with heap := sortingHeap (copyHeap s.heap its) (s.heap.objs.size + 1) its } (dataKind (sortingHeap (copyHeap s.heap its) (s.heap.objs.size + 1) its) (bs.map Datum.toD)) its := by
        have em := each_map (R := fun v d => ∃ as, Reads (sortingHeap (copyHeap s.heap its) (s.heap.objs.size + 1) its) v d as) Datum.toD er'
        have hb : ∀ d, d ∈ bs.map Datum.toD → X.A.in1.in1.units + d.depth < cLine := fun d hd => by
          obtain ⟨b, hb, rfl⟩ := List.mem_map.mp hd
          exact hdep b hb
        have al := alike_all bs
        rw [er0] at em hb al ⊢
        exact sortsAt0 (s := { s with heap := sortingHeap (copyHeap s.heap its) (s.heap.objs.size + 1) its }) em ht al hb
      exact sorted_vals hl.isList S0 (by rw [e.length]; exact hz) (fin _ (sortVals_data false e er' (alike_all bs)))
end
section
variable {w : World} {K : PySem.W.Frag} {α : Type} [DecidableEq α] [DatumOrd α]
theorem rdc_sorted {bs : List α} (ok : SortOk (bs.map Datum.toD)) (hz : bs.length ≤ sizeLine) : RDC w K (rSortD w K α) [.list (bs.map Datum.toD)] (.list ((srt bs).map Datum.toD)) := fun xs G H Q s dx q => by
  cases dx with
  | cons d1 dr =>
    cases dr
    cases d1 with
    | lst h r => exact ⟨_, G, bs, rfl, s, .lst h r, ok, hz, fun p ys hp hy => q _ (upd G p _) _ (.new s hp) (.lst upd_same (hy.mono (same_new (s.free hp))))⟩
end
end K64

/-! ## K64Ord -/
/-! The order of data is a total order; sorted lists without equals are told by their members. -/
namespace K64
open PySem PySem.W
class OrdLaw (α : Type) [DecidableEq α] [DatumOrd α] : Prop where
  irr : ∀ a : α, DatumOrd.lt a a = false
  tra : ∀ a b c : α, DatumOrd.lt a b = true → DatumOrd.lt b c = true → DatumOrd.lt a c = true
  tot : ∀ a b : α, DatumOrd.lt a b = false → DatumOrd.lt b a = false → a = b
instance : OrdLaw Nat where
  irr a := by show decide (a < a) = false; simp
  tra a b c h1 h2 := by
    have h1 : a < b := of_decide_eq_true h1
    have h2 : b < c := of_decide_eq_true h2
    show decide (a < c) = true
    exact decide_eq_true (by omega)
  tot a b h1 h2 := by
    have h1 : ¬ a < b := of_decide_eq_false h1
    have h2 : ¬ b < a := of_decide_eq_false h2
    omega
theorem llt_irr : ∀ l : List Nat, ¬ l < l := fun l => List.lt_irrefl l
instance : OrdLaw Str where
  irr a := decide_eq_false (List.lt_irrefl _)
  tra a b c h1 h2 := decide_eq_true (List.lt_trans (of_decide_eq_true h1) (of_decide_eq_true h2))
  tot a b h1 h2 := by
    have h1 : ¬ a.cps.toList < b.cps.toList := of_decide_eq_false h1
    have h2 : ¬ b.cps.toList < a.cps.toList := of_decide_eq_false h2
    have e : a.cps.toList = b.cps.toList := List.le_antisymm (List.not_lt.mp h2) (List.not_lt.mp h1)
    cases a
    cases b
    simp only at e
    rw [Array.toList_inj.mp e]
section
variable {α β : Type} [DecidableEq α] [DatumOrd α] [OrdLaw α] [DecidableEq β] [DatumOrd β] [OrdLaw β]
theorem listLt_irr : ∀ l : List α, listLt l l = false
  | [] => rfl
  | x :: xs => by rw [listLt, if_pos rfl, listLt_irr xs]
theorem listLt_tra : ∀ a b c : List α, listLt a b = true → listLt b c = true → listLt a c = true
  | [], [], _, h, _ => by cases h
  | [], _ :: _, [], _, h => by cases h
  | [], _ :: _, _ :: _, _, _ => rfl
  | _ :: _, [], _, h, _ => by cases h
  | _ :: _, _ :: _, [], _, h => by cases h
  | x :: xs, y :: ys, z :: zs, h1, h2 => by
    rw [listLt] at h1 h2 ⊢
    by_cases e1 : x = y
    · subst e1
      rw [if_pos rfl] at h1
      by_cases e2 : x = z
      · rw [if_pos e2] at h2 ⊢
        exact listLt_tra xs ys zs h1 h2
      · rw [if_neg e2] at h2 ⊢
        exact h2
    · rw [if_neg e1] at h1
      by_cases e2 : y = z
      · subst e2
        rw [if_neg e1]
        exact h1
      · rw [if_neg e2] at h2
        have h3 := OrdLaw.tra x y z h1 h2
        rw [if_neg fun e => by rw [e, OrdLaw.irr] at h3; cases h3]
        exact h3
theorem listLt_tot : ∀ a b : List α, listLt a b = false → listLt b a = false → a = b
  | [], [], _, _ => rfl
  | [], _ :: _, h, _ => by cases h
  | _ :: _, [], _, h => by cases h
  | x :: xs, y :: ys, h1, h2 => by
    rw [listLt] at h1 h2
    by_cases e1 : x = y
    · subst e1
      rw [if_pos rfl] at h1 h2
      rw [listLt_tot xs ys h1 h2]
    · rw [if_neg e1] at h1
      rw [if_neg (Ne.symm e1)] at h2
      exact absurd (OrdLaw.tot x y h1 h2) e1
instance : OrdLaw (Tup α) where
  irr a := listLt_irr a.items
  tra a b c := listLt_tra a.items b.items c.items
  tot a b h1 h2 := by
    have := listLt_tot a.items b.items h1 h2
    cases a
    cases b
    simp only at this
    rw [this]
instance : OrdLaw (α × β) where
  irr a := by
    show (if a.1 = a.1 then DatumOrd.lt a.2 a.2 else DatumOrd.lt a.1 a.1) = false
    rw [if_pos rfl, OrdLaw.irr]
  tra a b c h1 h2 := by
    have h1 : (if a.1 = b.1 then DatumOrd.lt a.2 b.2 else DatumOrd.lt a.1 b.1) = true := h1
    have h2 : (if b.1 = c.1 then DatumOrd.lt b.2 c.2 else DatumOrd.lt b.1 c.1) = true := h2
    show (if a.1 = c.1 then DatumOrd.lt a.2 c.2 else DatumOrd.lt a.1 c.1) = true
    by_cases e1 : a.1 = b.1
    · rw [if_pos e1] at h1
      by_cases e2 : b.1 = c.1
      · rw [if_pos e2] at h2
        rw [if_pos (e1.trans e2)]
        exact OrdLaw.tra _ _ _ h1 h2
      · rw [if_neg e2] at h2
        rw [e1, if_neg e2]
        exact h2
    · rw [if_neg e1] at h1
      by_cases e2 : b.1 = c.1
      · rw [← e2, if_neg e1]
        exact h1
      · rw [if_neg e2] at h2
        have h3 := OrdLaw.tra _ _ _ h1 h2
        rw [if_neg fun e => by rw [e, OrdLaw.irr] at h3; cases h3]
        exact h3
  tot a b h1 h2 := by
    have h1 : (if a.1 = b.1 then DatumOrd.lt a.2 b.2 else DatumOrd.lt a.1 b.1) = false := h1
    have h2 : (if b.1 = a.1 then DatumOrd.lt b.2 a.2 else DatumOrd.lt b.1 a.1) = false := h2
    by_cases e1 : a.1 = b.1
    · rw [if_pos e1] at h1
      rw [if_pos e1.symm] at h2
      exact Prod.ext e1 (OrdLaw.tot _ _ h1 h2)
    · rw [if_neg e1] at h1
      rw [if_neg (Ne.symm e1)] at h2
      exact absurd (OrdLaw.tot _ _ h1 h2) e1
/-! ### sorted lists -/
theorem le_tra (a b c : α) (h1 : (!DatumOrd.lt b a) = true) (h2 : (!DatumOrd.lt c b) = true) : (!DatumOrd.lt c a) = true := by
  simp only [Bool.not_eq_true'] at h1 h2 ⊢
  cases h3 : DatumOrd.lt c a with
  | false => rfl
  | true =>
    cases h4 : DatumOrd.lt a b with
    | true => rw [OrdLaw.tra c a b h3 h4] at h2; cases h2
    | false =>
      have e := OrdLaw.tot a b h4 h1
      subst e
      rw [h3] at h2; cases h2
theorem le_tot (a b : α) : (!DatumOrd.lt b a || !DatumOrd.lt a b) = true := by
  cases h1 : DatumOrd.lt b a with
  | false => rfl
  | true =>
    cases h2 : DatumOrd.lt a b with
    | false => rfl
    | true =>
      have := OrdLaw.tra a b a h2 h1
      rw [OrdLaw.irr] at this; cases this
theorem srt_perm (l : List α) : (srt l).Perm l := List.mergeSort_perm _ _
theorem srt_pw (l : List α) : (srt l).Pairwise fun a b => (!DatumOrd.lt b a) = true := List.pairwise_mergeSort (fun a b c => le_tra a b c) (fun a b => le_tot a b) l
theorem srt_mem {l : List α} {a : α} : a ∈ srt l ↔ a ∈ l := (srt_perm l).mem_iff
/-- ascending -/
def Asc (l : List α) : Prop := l.Pairwise fun a b => DatumOrd.lt a b = true
theorem Asc.nodup {l : List α} (h : Asc l) : l.Nodup := h.imp fun {a b} h e => by
  subst e
  rw [OrdLaw.irr] at h; cases h
theorem srt_asc {l : List α} (h : l.Nodup) : Asc (srt l) := by
  have h1 := srt_pw l
  have h2 : (srt l).Nodup := (srt_perm l).nodup_iff.mpr h
  have h3 := List.Pairwise.and h1 h2
  refine h3.imp fun {a b} q => ?_
  obtain ⟨q1, q2⟩ := q
  cases h4 : DatumOrd.lt a b with
  | true => rfl
  | false => exact absurd (OrdLaw.tot a b h4 (by simpa using q1)) q2
/-- two ascending lists of the same members are one -/
theorem asc_ext {l m : List α} (hl : Asc l) (hm : Asc m) (h : ∀ a, a ∈ l ↔ a ∈ m) : l = m := by
  have p : l.Perm m := (List.perm_ext_iff_of_nodup hl.nodup hm.nodup).mpr h
  refine p.eq_of_pairwise (le := fun a b => DatumOrd.lt a b = true) (fun a b _ _ h1 h2 => ?_) hl hm
  have := OrdLaw.tra a b a h1 h2
  rw [OrdLaw.irr] at this; cases this
theorem srt_of_asc {l : List α} (h : Asc l) : srt l = l := asc_ext (srt_asc h.nodup) h fun a => srt_mem
/-- without equals -/
def dd : List α → List α
  | [] => []
  | a :: l => if a ∈ dd l then dd l else a :: dd l
theorem dd_mem : ∀ {l : List α} {a : α}, a ∈ dd l ↔ a ∈ l
  | [], a => Iff.rfl
  | b :: l, a => by
    rw [dd]
    split
    · rename_i h
      rw [dd_mem, List.mem_cons]
      refine ⟨.inr, fun z => ?_⟩
      rcases z with rfl | z
      · exact dd_mem.mp h
      · exact z
    · rw [List.mem_cons, List.mem_cons, dd_mem]
theorem dd_nodup : ∀ l : List α, (dd l).Nodup
  | [] => List.nodup_nil
  | b :: l => by
    rw [dd]
    split
    · exact dd_nodup l
    · rename_i h
      exact List.nodup_cons.mpr ⟨h, dd_nodup l⟩
/-- what sorted(set(l)) is -/
def sset (l : List α) : List α := srt (dd l)
theorem sset_mem {l : List α} {a : α} : a ∈ sset l ↔ a ∈ l := by rw [sset, srt_mem, dd_mem]
theorem sset_asc (l : List α) : Asc (sset l) := srt_asc (dd_nodup l)
theorem sset_eq {l m : List α} (hm : m.Nodup) (h : ∀ a, a ∈ m ↔ a ∈ l) : srt m = sset l := asc_ext (srt_asc hm) (sset_asc l) fun a => by rw [srt_mem, sset_mem, h]
end
end K64

/-! ## K64DComp -/
/-! Dict comprehensions with nested keys. -/
namespace K64
open PySem PySem.Spec PyProof.Rows L2
section
variable {X : Cx} {pins : List (Addr × Obj)} {σ : L2.St} {H : Hp} {s : Shared}
/-- a comprehension's d[k] = v -/
theorem nd_dictSet {a b : Addr} {es : NEs} {d : PyData} {k : NestedKey} {v : V} {r : Value} {Q : Unit → Shared → Prop} {E : Value → Shared → Prop} (hu : X.A.units + 9 < cLine) (I : Inv X pins σ H s) (h : H a = some (NDO X.w a es)) (hks : KeysIn X.w X.K H es)
    (hd : Dx X.w X.K H (.ref b) d) (hk : keyOf d = some k) (h8 : k.depth ≤ 8) (hl : es.length < sizeLine) (rv : RelV v r) (q : ∀ s', Inv X pins σ (upd H a (NDO X.w a (putN es k b v))) s' → Q () s') : wpAny (model X.prog X.w) X.A (dictSet a (.ref b) r) Q E s := by
  obtain ⟨z, hdm, xs, rel, dd⟩ := nd_dict I (.inl h) hks
  have hz : xs.length ≤ sizeLine := by rw [← ent_len rel]; exact z
  refine wpAny_dictSet_heap (hsz := hz) (by show X.A.units + 8 < cLine; omega) (nk_of I hd hk h8) dd fun h' dd' hs => q _ ?_
  have he : ∃ q, h'.get? a = some q := let ⟨o, _, _, hq, _⟩ := dd'; ⟨o, hq⟩
  have hl' : (putN es k b v).length ≤ sizeLine := by have := putN_len es k b v; omega
  have rel' := ent_put (k := k) (b := b) rv rel
  obtain ⟨o, ents, ep, ho, hx, hdt, hle, _, nd⟩ := dd'
  exact d_write I (by rw [h]; exact True.intro) hs he (ndo_ok ⟨hl', hdm, _, rel', nd, o, ents, ep, ho, hx, hdt, hle⟩)
end
section
variable {X : Cx}
/-- {k: v for target in iter}: D the new dict -/
def tDcN (w : World) (K : PySem.W.Frag) (wi : TI) (g : TG) (tk tv : TE) (vs : List Nat) : TE := fun σ H Q => wi σ H fun J H1 => ∀ D, H1 D = none → ∃ W : Nat → Nat → Hp → Prop, (∃ m, W 0 m (upd H1 D (NDO w D []))) ∧ ∀ i m H, W i m H →
  (J.stop i H ∧ Q (.ref D) H) ∨ (J.go i H ∧ ∃ Nx : Hp → Prop, (∀ H', Nx H' → ∃ m', m' < m ∧ W (i + 1) m' H') ∧ ∀ x H', J.yld i H x H' → g x (wipe σ vs) H' fun σ2 H2 => wipe σ2 vs = wipe σ vs ∧
    tk σ2 H2 fun y H4 => tv σ2 H4 fun z H5 => ∃ es b d k, y = .ref b ∧ H5 D = some (NDO w D es) ∧ KeysIn w K H5 es ∧ Dx w K H5 (.ref b) d ∧ keyOf d = some k ∧ k.depth ≤ 8 ∧ es.length < sizeLine ∧ Nx (upd H5 D (NDO w D (putN es k b z))))
theorem pe_dcN {kx vx tg iter : Expr} {scope : Scope} {own : List (Str × Nat)} {pos : Pos} {wi : TI} {g : TG} {tk tv : TE} (hc : X.calm = true) (hu : X.A.units + 9 < cLine) (hN : X.N.Nodup) (hi : PI X tg iter wi) (ok : BlkOk X.N X.env.scope scope own)
    (hg : ∀ (s : Shared) (H : Hp) (C : Addr) (cl : List (Str × Addr)) (fp : List Addr), PG (X.blk s H scope (compEnvC scope cl C X.env) fp) tg g) (hk : ∀ (s : Shared) (H : Hp) (C : Addr) (cl : List (Str × Addr)) (fp : List Addr), PE (X.blk s H scope (compEnvC scope cl C X.env) fp) kx tk)
    (he : ∀ (s : Shared) (H : Hp) (C : Addr) (cl : List (Str × Addr)) (fp : List Addr), PE (X.blk s H scope (compEnvC scope cl C X.env) fp) vx tv) (hs : ∀ x, foldedSetIterable iter X.env x = pure x := by intro _; rfl) :
    PE X (.DictComp kx vx [⟨tg, iter, [], 0⟩] scope pos) (tDcN X.w X.K wi g tk tv (own.map (·.2))) := by
  refine ⟨fun pins s σ H Q I h => ?_⟩
  rw [arm_eval_DictComp]
  have shut : ∀ y ∈ scope.names, y.2 = .free → ∃ c, X.env.cells.lookup y.1 = some c := fun y hy e => (ok.free y hy e).elim (fun k => I.ok.has _ (.inl k)) fun k => I.ok.has _ (.inr k)
  refine wpAny_comprehension_free (use := none) rfl hs (closure_ok shut) ok.kind (fun y hy e => by rw [ok.uniq y hy, e]) (thn (hi.run pins s σ H _ I h) fun xv s1 hx => thn hx fun itv s2 h2 => ?_)
  obtain ⟨it, fp, tn, J, H2, rfl, I2, T, st2, f2, q⟩ := h2
  refine wpAny_newObj_type (newEnv_comp ?_)
  obtain ⟨D, hD⟩ : ∃ D, s2.heap.objs.size = D := ⟨_, rfl⟩
  rw [hD]
  have free0 : H2 D = none := I2.hok.fresh (Nat.le_of_eq hD)
  obtain ⟨W, ⟨m0, w0⟩, turn⟩ := q D free0
  -- the dict is laid
  generalize hs3 : ({ s2 with heap := s2.heap.push { cls := .type "dict", data := .dict #[] } } : Shared) = s3
  have push3 : s3.heap = s2.heap.push { cls := .type "dict", data := .dict #[] } := by rw [← hs3]
  have keep3 : ∀ b o, s2.heap.get? b = some o → s3.heap.get? b = some o := fun b o e => by rw [push3]; exact Heap.get?_push_of_some _ e
  have I3 : Inv X pins σ (upd H2 D (NDO X.w D [])) s3 := by
    rw [← hs3, ← hD]
    exact I2.laid (t' := s2.toks) (fun b o e => Heap.get?_push_of_some _ e) (Nat.le_refl _) (nd_new s2.heap I2.big)
  have below : ∀ b ∈ fp, b < s2.heap.objs.size := fun b hb => let ⟨o, e, _⟩ := T.obj _ _ st2 b hb; Heap.lt_size e
  have f3 : ∀ b ∈ fp, FpOk X pins (upd H2 D (NDO X.w D [])) b ∧ b < s3.heap.objs.size := fun b hb =>
    ⟨⟨by rw [upd_ne (by rw [← hD]; exact Nat.ne_of_lt (below b hb))]; exact (f2 b hb).1, (f2 b hb).2⟩, by rw [push3, Heap.size_push]; exact Nat.lt_succ_of_lt (below b hb)⟩
  have st3 : tn 0 s3.heap := T.keep _ _ _ st2 fun b _ o e => keep3 b o e
  have I4 := block_start I3 ok hN f3
  -- the block's environment
  generalize hcl : cellsFrom (s3.heap.objs.size + 1) scope.names (cloFrom X.env.cells scope.names []) = cl at I4
  have pg := hg s3 (upd H2 D (NDO X.w D [])) s3.heap.objs.size cl fp
  have pk := hk s3 (upd H2 D (NDO X.w D [])) s3.heap.objs.size cl fp
  have pe := he s3 (upd H2 D (NDO X.w D [])) s3.heap.objs.size cl fp
  show codeAny _ _ (.compStart (.DictComp kx vx [⟨tg, iter, [], 0⟩] scope pos) 0 (.ref it) (.ref D) (compEnvC scope cl s3.heap.objs.size X.env)) (compPost (model X.prog X.w) X.A X.xe none (EP X pins σ Q) (.ref D) s3.heap.objs.size) { s3 with heap := pushCells (s3.heap.push { cls := .type "dict", data := .dict #[] }) scope.names }
  have cL : (compEnvC scope cl s3.heap.objs.size X.env).locals = s3.heap.objs.size := rfl
  generalize hce : compEnvC scope cl s3.heap.objs.size X.env = ce at I4 pg pk pe cL ⊢
  have none3 : ∀ b ∈ fp, (upd H2 D (NDO X.w D [])) b = none := fun b hb => (f3 b hb).1.1
  generalize upd H2 D (NDO X.w D []) = H3 at I3 I4 pg pk pe w0 none3 f3
  generalize hs4 : ({ s3 with heap := pushCells (s3.heap.push { cls := .type "dict", data := .dict #[] }) scope.names } : Shared) = s4 at I4 ⊢
  have st4 : tn 0 s4.heap := T.keep _ _ _ st3 fun b _ o e => by rw [← hs4]; exact pushCells_keeps _ _ _ _ (Heap.get?_push_of_some _ e)
  let B := X.blk s3 H3 scope ce fp
  have stat : ∀ {τ : L2.St} {H' : Hp} {z : Shared}, Inv B [] τ H' z → (∀ b ∈ fp, H' b = none) → ∀ b ∈ fp, FpOk B [] H' b := fun {τ H' z} I' hn b hb =>
    ⟨hn b hb, (I'.ok.exf b hb).1, I'.ok.exfs b hb, .inl hb, fun x c e => (I'.ok.exf b hb).2 x c e, fun p hp => absurd (show p ∈ ([] : List (Addr × Obj)) ++ [] from hp) (by simp)⟩
  have loop : codeAny (model X.prog X.w) X.A (.compLoop (.DictComp kx vx [⟨tg, iter, [], 0⟩] scope pos) 0 (.ref it) (.ref D) ce) (compPost (model X.prog X.w) X.A X.xe none (EP X pins σ Q) (.ref D) s3.heap.objs.size) s4 := by
    refine compLoop_anyD (fun n z => ∃ i H', Inv B [] (wipe σ (own.map (·.2))) H' z ∧ tn i z.heap ∧ (∀ b ∈ fp, H' b = none) ∧ W i n H') ?_ m0 ⟨0, H3, I4, st4, none3, w0⟩
    rintro n s5 ⟨i, H5, I5, st5, n5, w5⟩
    rcases turn i n H5 w5 with ⟨stop, qq⟩ | ⟨go, Nx, hNx, step⟩
    · refine thnF (T.done B rfl rfl rfl hc i [] s5 _ H5 (fun _ _ => False) I5 (stat I5 n5) st5 stop) fun r s6 ⟨hr, I6⟩ => ?_
      subst hr
      have I7 : Inv X pins σ H5 s6 := I3.call' (ch := fp) I6.os I6.base I6.hok I6.bare fun b hb => let z := (f3 b hb).1.2; ⟨z.2.2.1, z.1, z.2.2.2.1, z.2.2.2.2⟩
      have nC : H5 s3.heap.objs.size = none := cL ▸ (show H5 ce.locals = none from I6.free)
      obtain ⟨m, hn, _⟩ := I6.loc
      have hn : s6.heap.Ns s3.heap.objs.size m := cL ▸ (show s6.heap.Ns ce.locals m from hn)
      obtain ⟨g0, g1, g2, g3, g4, g5⟩ := I3.fpOk (Nat.le_refl _) nC
      exact ⟨m, hn, fun h'' sb => ⟨.ref D, H5, I7.turned (t' := s6.toks) (fun b o hb e => (sb.2 b hb).trans e) g0 g1 g3 g4 g5, rfl, qq⟩⟩
    · refine thnF (T.item B rfl rfl rfl hc i [] s5 _ H5 (fun _ _ => False) I5 (stat I5 n5) st5 go) fun r s6 ⟨u, hr, h6⟩ => ?_
      subst hr
      refine thnF h6 fun _ s7 ⟨x, H7, I7, r7, y7, st7, n7⟩ => ?_
      refine thnF (pg.run _ s7 _ H7 x u _ (I7.pinned (stat I7 n7) (T.obj _ _ st7)) r7 (step x H7 y7)) fun _ s8 ⟨σ8, H8, I8, hw8, q8⟩ => ?_
      refine wpAny_pure ?_
      refine thnF (pk.run _ s8 σ8 H8 _ I8 q8) fun z s10 ⟨yk, H10, I10, r10, q10⟩ => ?_
      refine thnF (pe.run _ s10 σ8 H10 _ I10 q10) fun z2 s11 ⟨yv, H11, I11, r11, es, b0, d, k, ek, hD11, c1, c2, c3, c4, c5, nx⟩ => ?_
      subst ek
      cases r10
      refine nd_dictSet (X := B) hu I11 hD11 c1 c2 c3 c4 c5 r11 fun s12 I12 => ?_
      obtain ⟨m', hm, w'⟩ := hNx _ nx
      have held : ∀ b ∈ fp, ∀ o, s7.heap.get? b = some o → s12.heap.get? b = some o ∧ (upd H11 D (NDO X.w D (putN es k b0 yv))) b = none := fun b hb o e =>
        let z := I12.pin (b, o) (List.mem_append_right _ (List.mem_append_right _ (mem_pinsAt hb e)))
        ⟨z.1, z.2.1⟩
      have hl : (wipe σ (own.map (·.2))).length = σ8.length := by rw [← hw8, wipe_length]
      refine ⟨m', hm, i + 1, _, (I12.unpinned (pins := [])).weak hl (fun j v e => ?_), T.keep _ _ _ st7 fun b hb o e => (held b hb o e).1, fun b hb => ?_, w'⟩
      · rw [← hw8] at e
        exact (wipe_some e).1
      · obtain ⟨o, e, _⟩ := T.obj _ _ st7 b hb
        exact (held b hb o e).2
  exact codeAny_compStart_dict loop (T.self X.A 0 _ _ _ st4 loop)
/-- the fold of a dict comprehension over data -/
def dcD {α : Type} (kd vd : α → PyData) : List α → List (PyData × PyData) → List (PyData × PyData)
  | [], acc => acc
  | a :: as, acc => dcD kd vd as (putD acc (kd a) (vd a))
theorem dcD_snoc {α : Type} (kd vd : α → PyData) (a : α) : ∀ (as : List α) (acc : List (PyData × PyData)), dcD kd vd (as ++ [a]) acc = putD (dcD kd vd as acc) (kd a) (vd a)
  | [], _ => rfl
  | b :: as, acc => dcD_snoc kd vd a as (putD acc (kd b) (vd b))
theorem dcD_len {α : Type} (kd vd : α → PyData) : ∀ (as : List α) (acc : List (PyData × PyData)), (dcD kd vd as acc).length ≤ acc.length + as.length
  | [], _ => Nat.le_refl _
  | a :: as, acc => by
    have h1 := dcD_len kd vd as (putD acc (kd a) (vd a))
    have h2 := putD_len acc (kd a) (vd a)
    rw [dcD, List.length_cons]
    omega
theorem do_dcN {α : Type} (as : List α) (enc : α → PyData) (kd vd : α → PyData) (ρ' : α → Env) {ρ : Env} {kx vx tg iter : Expr} {scope : Scope} {own : List (Str × Nat)} {pos : Pos} {g : TG} (hc : X.calm = true) (hu : X.A.units + 9 < cLine) (hN : X.N.Nodup) (hi : DI X tg iter ρ (as.map enc)) (ok : BlkOk X.N X.env.scope scope own)
    (hg : ∀ (s : Shared) (H : Hp) (C : Addr) (cl : List (Str × Addr)) (fp : List Addr), PG (X.blk s H scope (compEnvC scope cl C X.env) fp) tg g) (hz : as.length < sizeLine) (hgd : ∀ a ∈ as, TgD X.w X.K (own.map (·.2)) g (wipeR ρ (own.map (·.2))) (enc a) (ρ' a))
    (hk : ∀ (s : Shared) (H : Hp) (C : Addr) (cl : List (Str × Addr)) (fp : List Addr), ∀ a ∈ as, DE (X.blk s H scope (compEnvC scope cl C X.env) fp) kx (ρ' a) (kd a)) (hv : ∀ (s : Shared) (H : Hp) (C : Addr) (cl : List (Str × Addr)) (fp : List Addr), ∀ a ∈ as, DE (X.blk s H scope (compEnvC scope cl C X.env) fp) vx (ρ' a) (vd a))
    (hkk : ∀ a ∈ as, ∃ ks k, kd a = .tuple ks ∧ keyOf (kd a) = some k ∧ k.depth ≤ 8) (hs : ∀ x, foldedSetIterable iter X.env x = pure x := by intro _; rfl) : DO X (.DictComp kx vx [⟨tg, iter, [], 0⟩] scope pos) ρ (.ownN (dcD kd vd as [])) := by
  refine pe_imp (pe_dcN hc hu hN hi ok hg (tk := tAnyE X.w X.K as ρ' kd) (tv := tAnyE X.w X.K as ρ' vd)
    (fun s H C cl fp => ⟨fun pins s1 σ H1 Q I ⟨a, ha, h⟩ => (hk s H C cl fp a ha).run pins s1 σ H1 Q I h⟩) (fun s H C cl fp => ⟨fun pins s1 σ H1 Q I ⟨a, ha, h⟩ => (hv s H C cl fp a ha).run pins s1 σ H1 Q I h⟩) hs) ?_
  rintro σ H Q ⟨G, s, env, q⟩
  refine ⟨G, s, env, fun J G1 H1 g1 wk D hD => ?_⟩
  have hGD : G1 D = none := g1.s.free hD
  refine ⟨fun i m H2 => i + m = as.length ∧ ∃ G2 es, Same G1 G2 ∧ Same G2 H2 ∧ Same H1 H2 ∧ G2 D = none ∧ (∀ a, G1 a = none → H1 a ≠ none → G2 a = none) ∧ H2 D = some (NDO X.w D es) ∧ DxN X.w X.K G2 es (dcD kd vd (as.take i) []),
    ⟨as.length, by omega, G1, [], Same.refl _, g1.s.trans (same_new hD), same_new hD, hGD, fun _ e _ => e, upd_same, .nil⟩, ?_⟩
  rintro i m H2 ⟨him, G2, es, s1, s2, s3, n1, n2, hes, hr⟩
  by_cases hi' : i < as.length
  · refine .inr ⟨wk.go i H2 (s1.trans s2) (by simpa using hi'), fun H3 => ∃ G3 es3, Same G1 G3 ∧ Same G3 H3 ∧ Same H1 H3 ∧ G3 D = none ∧ (∀ a, G1 a = none → H1 a ≠ none → G3 a = none) ∧ H3 D = some (NDO X.w D es3) ∧ DxN X.w X.K G3 es3 (dcD kd vd (as.take (i + 1)) []),
      fun H3 h => ⟨m - 1, by omega, by omega, h⟩, fun x H3 y => ?_⟩
    obtain ⟨d, G3, ed, gr3, dx⟩ := wk.yld i G2 H2 x H3 s1 s2 (by simpa using hi') y
    obtain ⟨a, ea, ma, rfl⟩ := map_get ed
    have env3 : EnvD X.w X.K G3 (wipe σ (own.map (·.2))) (wipeR ρ (own.map (·.2))) := ((env.mono (g1.g.trans (s1.trans gr3.g))).wipe _)
    refine hgd a ma x (wipe σ (own.map (·.2))) G3 H3 _ gr3.s env3 dx ?_
    intro σ2 e2 env2
    refine ⟨by rw [e2, wipe_idem], ?_⟩
    refine ⟨a, ma, G3, gr3.s, env2, ?_⟩
    intro y4 G4 H4 gr4 dk
    refine ⟨a, ma, G4, gr4.s, env2.mono gr4.g, ?_⟩
    intro z G5 H5 gr5 dv
    have nD3 : G3 D = none := gr3.n D n1 (by rw [hes]; exact fun z => nomatch z)
    have aD3 : H3 D = some (NDO X.w D es) := gr3.h _ _ hes
    have nD4 : G4 D = none := gr4.n D nD3 (by rw [aD3]; exact fun z => nomatch z)
    have aD4 : H4 D = some (NDO X.w D es) := gr4.h _ _ aD3
    have nD5 : G5 D = none := gr5.n D nD4 (by rw [aD4]; exact fun z => nomatch z)
    have aD5 : H5 D = some (NDO X.w D es) := gr5.h _ _ aD4
    obtain ⟨ks, k, ek, hk1, hk8⟩ := hkk a ma
    obtain ⟨b, rfl⟩ := ref_of_key (ek ▸ dk)
    have dk5 := dk.mono gr5.g
    have hr5 := hr.mono (gr3.g.trans (gr4.g.trans gr5.g))
    refine ⟨es, b, kd a, k, rfl, aD5, dxn_keys gr5.s hr5, dk5.mono gr5.s, hk1, hk8, ?_, G5, putN es k b z, s1.trans (gr3.g.trans (gr4.g.trans gr5.g)), same_mut gr5.s nD5, fun c o e => ?_, nD5, fun c e1 e2' => ?_, upd_same, ?_⟩
    · rw [dxn_len hr]
      refine Nat.lt_of_le_of_lt (dcD_len kd vd _ _) ?_
      rw [List.length_take, List.length_nil]
      omega
    · rw [upd_ne (ne_of_none e hD)]
      exact gr5.h _ _ (gr4.h _ _ (gr3.h _ _ (s3 _ _ e)))
    · have hc2 : H2 c ≠ none := fun z => e2' (s3.free z)
      have hc3 : H3 c ≠ none := fun z => hc2 (gr3.h.free z)
      have hc4 : H4 c ≠ none := fun z => hc3 (gr4.h.free z)
      exact gr5.n c (gr4.n c (gr3.n c (n2 c e1 e2') hc2) hc3) hc4
    · rw [List.take_add_one, ea]
      show DxN X.w X.K G5 _ (dcD kd vd (as.take i ++ [a]) [])
      rw [dcD_snoc]
      exact dxn_put dk5 hk1 hk8 dv hr5
  · have ei : i = as.length := by omega
    subst ei
    refine .inl ⟨by
      have := wk.stop H2 (s1.trans s2)
      rwa [List.length_map] at this, ?_⟩
    rw [List.take_length] at hr
    exact q D _ G2 H2 (g1.trans ⟨s1, s3, s2, n2⟩) (g1.h.free hD) n1 hes ⟨es, rfl, hr⟩
end
end K64

/-! ## K64DictL -/
/-! list, sorted, tuple of a dict with nested keys. -/
namespace K64
open PySem PySem.Spec PyProof.Rows L2 PySem.W
section
variable {X : Cx} {pins : List (Addr × Obj)} {σ : L2.St} {H : Hp} {s : Shared}
/-- gathered: whatever list() could be filled from -/
theorem collectK {P : Program} {w : World} {A : Around} {E : Value → Shared → Prop} {T : String} {r d : Addr} {n : Nat} {Pv : Nat → Value → Prop} {OK : Heap → Prop} {R : List Value → Shared → Prop} (K : KdlSrc P w T r d n Pv OK) (hh : A.handled = none) (hok : OK s.heap) (hn : n ≤ sizeLine)
    (h : ∀ (h' : Heap) (tk : Nat) (vs : List Value), (∀ b o, s.heap.get? b = some o → h'.get? b = some o) → s.heap.objs.size ≤ h'.objs.size → vs.length = n → (∀ (j : Nat) v, vs[j]? = some v → Pv j v) → R vs { s with heap := h', toks := tk }) : wpAny (model P w) A (collect (.ref r)) R E s := by
  have hlt := K.there _ hok
  unfold collect
  refine wpAny_bind (wpAny_runValue (codeAny_builtin F.entry_proto_collect ?_))
  rw [Around.under_plainId F.plain_proto_collect _]
  show wpAny _ A.in1 (newList [] >>= fun l => again (.builtin "list.__iadd__" ⟨[l, .ref r], []⟩)) _ _ s
  refine wpAny_bind (wpAny_newObj_type ?_)
  refine wpAny_pure ⟨plainId_quiet F.plain_list_iadd _, codeAny_builtin F.entry_list_iadd ?_⟩
  rw [Around.under_plainId F.plain_list_iadd _]
  have hS : (s.heap.push { cls := .type "list", data := .seq ([] : List Value).toArray }).get? s.heap.objs.size = some { cls := .type "list", data := .seq #[] 0 } := Heap.get?_push_size _ rfl
  show wpAny _ A.in1 (Builtin.List.listExtendWith (.ref s.heap.objs.size) (.ref r) (.ref s.heap.objs.size)) _ _ _
  refine wpAny_mono (kdl_extend (A := A) (R := fun rr z => rr = .ok (.ret (.ref s.heap.objs.size)) ∧ ∃ (h' : Heap) (tk : Nat) (acc : Array Value) (c' : Nat), z = { s with heap := h', toks := tk } ∧ (∀ b o, s.heap.get? b = some o → h'.get? b = some o) ∧
      h'.get? s.heap.objs.size = some { cls := .type "list", dict := none, data := .seq acc c', slots := #[] } ∧ ItemsOf Pv acc n) (s := { s with heap := s.heap.push { cls := .type "list", data := .seq ([] : List Value).toArray } }) K hh (K.keep _ _ hok fun b _ o e => Heap.get?_push_of_some _ e) _ (Nat.ne_of_gt hlt.1) (Nat.ne_of_gt hlt.2) (.ref s.heap.objs.size) 0 hS
    (fun h' tk acc c' hk e hi => ⟨rfl, h', tk, acc, c', rfl, fun b o q => hk b o (Nat.ne_of_lt (Heap.lt_size q)) (Heap.get?_push_of_some _ q), e, hi⟩) hn) (fun fin z x => ?_) (fun e z x => ?_)
  · have fin' : ∀ (h' : Heap) (tk : Nat) (acc : Array Value) (c' : Nat), (∀ b o, s.heap.get? b = some o → h'.get? b = some o) → h'.get? s.heap.objs.size = some { cls := .type "list", dict := none, data := .seq acc c', slots := #[] } → ItemsOf Pv acc n →
        wpAny (model P w) A (load s.heap.objs.size >>= fun o => match o.data with | .seq xs _ => pure xs.toList | _ => unsupported "internal:collect") R E { s with heap := h', toks := tk } := fun h' tk acc c' hk hS' hi =>
      wpAny_bind (wpAny_load hS' (wpAny_pure (h h' tk acc.toList hk (Nat.le_of_lt (Heap.lt_size hS')) (by rw [Array.length_toList]; exact hi.1) fun j v e => hi.2 j v (by rw [← Array.getElem?_toList]; exact e))))
    cases fin with
    | done f =>
      obtain ⟨e, h', tk, acc, c', rfl, hk, hS', hi⟩ := x
      cases e
      exact fin' h' tk acc c' hk hS' hi
    | again c' =>
      refine ⟨x.1, codeAny_mono x.2 fun rr z hr => ?_⟩
      obtain ⟨rfl, h', tk, acc, c', rfl, hk, hS', hi⟩ := hr
      exact fin' h' tk acc c' hk hS' hi
  · exact absurd x.1 (by simp)
theorem paired_get {α β : Type} {F : α → β → Prop} : ∀ {as : List α} {bs : List β} {i : Nat} {b : β}, Paired F as bs → bs[i]? = some b → ∃ a, as[i]? = some a ∧ F a b
  | _, _, _, _, .nil, h => by simp at h
  | _, _, 0, _, .cons r t, h => ⟨_, rfl, by cases h; exact r⟩
  | _, _, i + 1, _, .cons r t, h => paired_get (i := i) t h
/-- what the dict at d has, for list() and the like -/
theorem nd_src {es : NEs} {d : Addr} (I : Inv X pins σ H s) (h : Rd H d (NDO X.w d es)) : ∃ (o : Obj) (ents : Array DictEntry), es.length ≤ sizeLine ∧ s.heap.get? d = some o ∧ ents.size = es.length ∧
    KdlSrc X.prog X.w "dict" d d ents.size (fun i v => ∃ en : DictEntry, ents[i]? = some en ∧ v = en.key) (fun h => h.get? d = some o) ∧ ∀ (i : Nat) en, ents[i]? = some en → ∃ e, es[i]? = some e ∧ en.key = .ref e.2.1 := by
  obtain ⟨z, hdm, xs, rel, nd, o, ents, ep, ho, hx, hdt, hle⟩ := nd_of I h
  have hl : es.length = xs.length := ent_len rel
  have hs : ents.size = xs.length := by rw [← Array.length_toList, hle, List.length_map]
  refine ⟨o, ents, z, ho, by rw [hs, hl], kdl_raw hdm hx hdt, fun i en he => ?_⟩
  rw [← Array.getElem?_toList, hle, List.getElem?_map] at he
  obtain ⟨x, h1, rfl⟩ := Option.map_eq_some_iff.mp he
  obtain ⟨e, h2, h3⟩ := paired_get rel h1
  exact ⟨e, h2, by rw [h3.2.1]⟩
theorem keys_vals {es : NEs} {ents : Array DictEntry} (hs : ents.size = es.length) (hk : ∀ (i : Nat) en, ents[i]? = some en → ∃ e, es[i]? = some e ∧ en.key = .ref e.2.1) {vs : List Value} (hl : vs.length = ents.size) (hv : ∀ (j : Nat) v, vs[j]? = some v → ∃ en : DictEntry, ents[j]? = some en ∧ v = en.key) :
    vs = es.map fun e => Value.ref e.2.1 := by
  refine List.ext_getElem? fun j => ?_
  rw [List.getElem?_map]
  cases hj : vs[j]? with
  | none => rw [List.getElem?_eq_none (by have := List.getElem?_eq_none_iff.mp hj; omega)]; rfl
  | some v =>
    obtain ⟨en, h1, rfl⟩ := hv j v hj
    obtain ⟨e, h2, h3⟩ := hk j en h1
    rw [h2, h3]
    rfl
theorem refs_rel : ∀ es : NEs, Vals (es.map fun e => V.ref e.2.1) (es.map fun e => Value.ref e.2.1)
  | [] => .nil
  | _ :: es => .cons rfl (refs_rel es)
/-- list(d) -/
def rListN (w : World) : List V → Hp → VK → Prop := fun xs H Q => ∃ d es, xs = [.ref d] ∧ Rd H d (NDO w d es) ∧ ∀ q, H q = none → Q (.ref q) (upd H q (.lst (es.map fun e => .ref e.2.1)))
theorem call_listN (hc : X.calm = true) : CallR X (.type "list") (rListN X.w) := by
  intro pins s σ H xs us Q I r h
  obtain ⟨d, es, rfl, hd, q⟩ := h
  obtain ⟨u, rfl, rx⟩ := r.one
  cases rx
  obtain ⟨o, ents, z, ho, hs, src, hk⟩ := nd_src I hd
  refine kdl_call src (I.ok.hd hc) ho (by omega) fun h' tk acc c kp e it => ?_
  have ev := keys_vals hs hk (vs := acc.toList) (by rw [Array.length_toList]; exact it.1) fun j v hj => it.2 j v (by rw [← Array.getElem?_toList]; exact hj)
  refine ⟨.ref s.heap.objs.size, _, I.laid (t' := tk) (o := .lst (es.map fun e => .ref e.2.1)) kp (Nat.le_refl _) ⟨by rw [List.length_map]; exact z, acc.toList, c, by rw [ev]; exact refs_rel es, by rw [Array.toArray_toList]; exact e⟩, rfl, q _ (I.hok.fresh (Nat.le_refl _))⟩
/-- tuple(d) -/
def rTupN (w : World) : List V → Hp → VK → Prop := fun xs H Q => ∃ d es, xs = [.ref d] ∧ Rd H d (NDO w d es) ∧ ∀ q, H q = none → Q (.ref q) (upd H q (.tup (es.map fun e => .ref e.2.1)))
theorem code_tupN {P : Program} {w : World} {A : Around} {E : Value → Shared → Prop} {Q₁ : Value → Shared → Prop} {d : Addr} {n : Nat} {o : Obj} {Pv : Nat → Value → Prop} (K : KdlSrc P w "dict" d d n Pv (fun h => h.get? d = some o)) (hh : A.handled = none) (ho : s.heap.get? d = some o) (hn : n ≤ sizeLine)
    (h : ∀ (h' : Heap) (tk : Nat) (vs : List Value), (∀ b o, s.heap.get? b = some o → h'.get? b = some o) → vs.length = n → (∀ (j : Nat) v, vs[j]? = some v → Pv j v) → Q₁ (.ref h'.objs.size) { s with heap := h'.push { cls := .type "tuple", data := .seq vs.toArray }, toks := tk }) :
    codeAny (model P w) A (.call (.builtin "tuple.__new__") ⟨[.type "tuple", .ref d], []⟩) (wants Q₁ E) s := by
  refine codeAny_of_tree ?_
  show wpAny _ A.in1 (do checkBuiltinCall "tuple.__new__" ⟨[.type "tuple", .ref d], []⟩; again (.builtin "tuple.__new__" ⟨[.type "tuple", .ref d], []⟩)) _ _ s
  refine wpAny_bind (wpAny_of_eq (F.newCall_tuple_1 _) (wpAny_pure ⟨plainId_quiet F.plain_tuple_new _, codeAny_builtin F.entry_tuple_new ?_⟩))
  rw [Around.under_plainId F.plain_tuple_new _]
  have hsub := sub_tuple_self
  have hinit := init_tuple_lookup
  have hmh := madeHere_tuple
  have hTI : s.TypeIs (.ref d) "dict" := K.type s ho
  have hh1 : A.in1.handled = none := hh
  wp_walk using wpAny_typeOf hTI, collectK (A := A.in1) K hh1 ho hn
  intro h' tk vs hk _ hl hv
  show wpAny _ _ (Builtin.Tuple.tupleExact vs.toArray >>= fun v => ret v) _ _ _
  unfold Builtin.Tuple.tupleExact
  refine wpAny_bind (wpAny_newObj_type ?_ (by show vs.toArray.size ≤ sizeLine; rw [List.size_toArray, hl]; exact hn))
  exact wpAny_pure (h h' tk vs hk hl hv)
theorem call_tupN (hc : X.calm = true) : CallR X (.type "tuple") (rTupN X.w) := by
  intro pins s σ H xs us Q I r h
  obtain ⟨d, es, rfl, hd, q⟩ := h
  obtain ⟨u, rfl, rx⟩ := r.one
  cases rx
  obtain ⟨o, ents, z, ho, hs, src, hk⟩ := nd_src I hd
  refine callType_codes (Q₁ := fun obj z => z.TypeIs obj "tuple" ∧ EP X pins σ Q obj z) F.called_tuple (F.typeCall_tuple_1 _) F.entry_object_init (code_tupN (A := X.A.in1) src (I.ok.hd hc) ho (by omega) fun h' tk vs kp hl hv => ⟨⟨_, Heap.get?_push_size _ rfl, rfl⟩, ?_⟩) fun obj z h₁ => ?_
  · have ev := keys_vals hs hk hl hv
    subst ev
    have I2 : Inv X pins σ H { s with heap := h', toks := tk } := I.kept kp
    exact ⟨.ref h'.objs.size, _, I2.laid (t' := tk) (o := .tup (es.map fun e => .ref e.2.1)) (fun b o e => Heap.get?_push_of_some _ e) (Nat.le_refl _) ⟨by rw [List.length_map]; exact z, _, refs_rel es, IsTup.new _ _⟩, rfl, q _ (I2.hok.fresh (Nat.le_refl _))⟩
  · exact ⟨h₁.1, F.args_object_init_2 obj _, object_init_meets F.called_tuple.init.lookup F.called_tuple.made (by decide) X.prog X.w X.A.in1 _ z ⟨h₁.1, rfl, h₁.2⟩⟩
/-- sorted(d) -/
def rSortN (w : World) (K : PySem.W.Frag) (α : Type) [DecidableEq α] [DatumOrd α] : List V → Hp → VK → Prop := fun xs H Q => ∃ (d : Addr) (G : Hp) (es : NEs) (bs : List α), xs = [.ref d] ∧ Same G H ∧ Rd H d (NDO w d es) ∧ DxAll w K G (es.map fun e => V.ref e.2.1) (bs.map Datum.toD) ∧ SortOk (bs.map Datum.toD) ∧
  ∀ p ys, H p = none → DxAll w K G ys ((srt bs).map Datum.toD) → Q (.ref p) (upd H p (.lst ys))
theorem crD_sortN {α : Type} [DecidableEq α] [DatumOrd α] (hc : X.calm = true) (hu : X.A.units + 64 < cLine) (hd : Datum.depth α ≤ 60) : CallR X (.builtin "sorted") (rSortN X.w X.K α) := by
  intro pins s σ H vs us Q I r h
  obtain ⟨d, G, es, bs, rfl, sg, hdd, hdx, ok, q⟩ := h
  rw [Vals.ref1 r]
  obtain ⟨o, ents, z, ho, hs, src, hk⟩ := nd_src I hdd
  refine Calls.call_function_entry kind_sorted plain_sorted entry_sorted (args_sorted1 _) ?_
  unfold Builtin.«sorted»
  refine wpAny_bind (m := checkCount "sorted" 1 1 _) (wpAny_pure ?_)
  refine wpAny_bind (collectK (A := X.A.in1) src (I.ok.hd hc) ho (by omega) fun h' tk vs kp sz hl hv => ?_)
  have ev := keys_vals hs hk hl hv
  have rv : Vals (es.map fun e => V.ref e.2.1) vs := by rw [ev]; exact refs_rel es
  clear ev
  obtain ⟨as, ra⟩ := dx_readsAll I sg hdx (plainAll_map bs) rv
  have er := each_reads ra
  have e := dx_vals rv hdx
  have hvl : vs.length ≤ sizeLine := by omega
  refine wpAny_bind (wpAny_newList ?_ hvl)
  have hoL : (h'.push (seqObj "list" vs.toArray 0)).get? h'.objs.size = some (seqObj "list" vs.toArray 0) := Heap.get?_push_size _ rfl
  have er' : EachIs (fun v b => ∃ as, Reads (sortingHeap (h'.push (seqObj "list" vs.toArray 0)) h'.objs.size vs) v (Datum.toD b) as) vs bs := er.mono fun _ _ ⟨as, r⟩ => ⟨as, PyProof.Rows.Reads.keeps (fun b o e => sortingHeap_old (Nat.ne_of_lt (Heap.lt_size (kp b o e))) (Heap.get?_push_of_some _ (kp b o e))) r⟩
  have em := each_map (R := fun v d => ∃ as, Reads (sortingHeap (h'.push (seqObj "list" vs.toArray 0)) h'.objs.size vs) v d as) Datum.toD er'
  have hb : ∀ d, d ∈ bs.map Datum.toD → X.A.in1.in1.units + d.depth < cLine := fun d hd' => by
    obtain ⟨b, hb, rfl⟩ := List.mem_map.mp hd'
    have := Datum.depth_le b
    show X.A.units + 1 + 1 + _ < cLine
    omega
  have S0 : SortsAt X.prog X.w X.A.in1.in1 { s with heap := sortingHeap (h'.push (seqObj "list" vs.toArray 0)) h'.objs.size vs, toks := tk } (dataKind (sortingHeap (h'.push (seqObj "list" vs.toArray 0)) h'.objs.size vs) (bs.map Datum.toD)) vs := by
    rcases ok with ok | ⟨rest, er0, ht⟩
    · exact SortsAt.data (s := { s with heap := sortingHeap (h'.push (seqObj "list" vs.toArray 0)) h'.objs.size vs, toks := tk }) em (alike_all bs) ok hb
    · have al := alike_all bs
      rw [er0] at em hb al ⊢
      exact sortsAt0 (s := { s with heap := sortingHeap (h'.push (seqObj "list" vs.toArray 0)) h'.objs.size vs, toks := tk }) em ht al hb
  refine wpAny_bind (wpAny_holding (wpAny_call_entry slot_list_sort ⟨_, hoL, rfl⟩ entry_list_sort (list_sort_vals (s := { s with heap := h'.push (seqObj "list" vs.toArray 0), toks := tk }) hoL S0 hvl ?_) (args_list_sort _)))
  refine ⟨_, rfl, wpAny_pure ⟨_, rfl, ?_⟩⟩
  have ho' := sortVals_data (R := fun u b => ∃ x, RelV x u ∧ Dx X.w X.K G x (Datum.toD b)) false e er' (alike_all bs)
  rw [srt_eq] at ho'
  obtain ⟨ys, v1, v2⟩ := vals_dx ho'
  obtain ⟨c, hc'⟩ := sortedHeap_at (vs := vs) (out := (sortVals (dataKind (sortingHeap (h'.push (seqObj "list" vs.toArray 0)) h'.objs.size vs) (bs.map Datum.toD)) false vs vs).toArray) hoL
  have hn : H h'.objs.size = none := I.hok.fresh sz
  have hl' : ys.length ≤ sizeLine := by
    rw [v2.length, List.length_map, srt, List.length_mergeSort, ← e.length]
    exact hvl
  refine ⟨.ref h'.objs.size, upd H h'.objs.size (.lst ys), I.laid (t' := tk) (fun b o e => ?_) sz ⟨hl', _, c, v1, hc'⟩, rfl, q _ ys hn v2⟩
  have e1 := kp b o e
  have hlt := Heap.lt_size e1
  rw [sortedHeap_old (Nat.ne_of_lt hlt) (by rw [size_push']; exact Nat.lt_succ_of_lt hlt)]
  exact Heap.get?_push_of_some _ e1
end
end K64

/-! ## K64DictP -/
/-! dict(pairs), d.update(d2), d == {}. -/
namespace K64
open PySem PySem.Spec PyProof.Rows L2 PySem.W
section
variable {X : Cx} {pins : List (Addr × Obj)} {σ : L2.St} {H : Hp} {s : Shared}
/-- several entries, one after another -/
def putAllN (es : NEs) (l : NEs) : NEs := l.foldl (fun acc e => putN acc e.1 e.2.1 e.2.2) es
theorem ent_putAll : ∀ {l : NEs} {l' : List (NestedKey × Addr × Value)}, Paired EntRel l l' → ∀ {es : NEs} {xs : List (NestedKey × Addr × Value)}, Paired EntRel es xs → Paired EntRel (putAllN es l) (storedAllH xs l')
  | _, _, .nil, _, _, h => h
  | e :: l, x :: l', .cons r t, es, xs, h => by
    have h2 := ent_putAll t (ent_put (k := e.1) (b := e.2.1) r.2.2 h)
    obtain ⟨k, b, v⟩ := e
    obtain ⟨k', b', u⟩ := x
    obtain ⟨rfl, rfl, _⟩ := r
    exact h2
theorem putAllN_len : ∀ (l es : NEs), (putAllN es l).length ≤ es.length + l.length
  | [], _ => Nat.le_refl _
  | e :: l, es => by
    have h1 := putAllN_len l (putN es e.1 e.2.1 e.2.2)
    have h2 := putN_len es e.1 e.2.1 e.2.2
    show (putAllN (putN es e.1 e.2.1 e.2.2) l).length ≤ _
    rw [List.length_cons]
    omega
/-- an exact dict of such entries is tracked -/
theorem ndo_of {d : Addr} {es : NEs} {xs : List (NestedKey × Addr × Value)} {h : Heap} {H' : Hp} (hz : es.length ≤ sizeLine) (hd : (d == sysModules) = false) (r : Paired EntRel es xs) (m : h.DictOfH (nestedKind X.prog X.w) d xs) : ObjOk X.prog X.w H' h d (NDO X.w d es) := by
  obtain ⟨o, ents, ep, ho, hx, hdt, hle, _, nd⟩ := m
  exact ndo_ok ⟨hz, hd, xs, r, nd, o, ents, ep, ho, hx, hdt, hle⟩
theorem ent_hash {P : Program} {w : World} : ∀ {fs : NEs} {ys : List (NestedKey × Addr × Value)}, Paired EntRel fs ys → (ys.map fun x => (nestedKind P w).hash x.1) = fs.map fun e => e.1.hash w
  | _, _, .nil => rfl
  | _, _, .cons h t => by
    rw [List.map_cons, List.map_cons, ent_hash t, h.1]
    rfl
/-- d.update(d2) -/
def rUpdN (w : World) (K : PySem.W.Frag) : V → List V → Hp → VK → Prop := fun x xs H Q => ∃ a es b fs, x = .ref a ∧ xs = [.ref b] ∧ a ≠ b ∧ H a = some (NDO w a es) ∧ Rd H b (NDO w b fs) ∧ KeysIn w K H es ∧ KeysIn w K H fs ∧ (es ≠ [] ∨ (fs.map fun e => e.1.hash w).Nodup) ∧ es.length + fs.length ≤ sizeLine ∧ Q .non (upd H a (NDO w a (putAllN es fs)))
theorem mt_updN (hu : X.A.units + 9 < cLine) : MtR X "dict.update" (rUpdN X.w X.K) := by
  intro pins s σ H x xs v us Q I rx rxs h
  obtain ⟨a, es, b, fs, rfl, rfl, hab, ha, hb, hka, hkb, hh, hz, q⟩ := h
  cases rx
  obtain ⟨u, rfl, ru⟩ := rxs.one
  cases ru
  obtain ⟨z1, hd1, ys1, r1, m1⟩ := nd_dict I (.inl ha) hka
  obtain ⟨z2, hd2, ys2, r2, m2⟩ := nd_dict I hb hkb
  have l1 := ent_len r1
  have l2 := ent_len r2
  have hhash := ent_hash (P := X.prog) (w := X.w) r2
  refine call_update_dictH (nroom hu) hab hd2 m1 m2 ?_ (by omega) fun h' hm _ hs => ?_
  · rcases hh with hh | hh
    · refine .inl fun e => hh ?_
      rw [e] at l1
      exact List.eq_nil_of_length_eq_zero l1
    · exact .inr ⟨keyed_apart nestedKind_stays m2, by rw [hhash]; exact hh⟩
  · have he : ∃ q, h'.get? a = some q := let ⟨o, _, _, hq, _⟩ := hm; ⟨o, hq⟩
    refine ⟨.non, _, d_write I (by rw [ha]; exact True.intro) hs he (ndo_of (by have := putAllN_len fs es; omega) hd1 (ent_putAll r2 r1) hm), rfl, q⟩
/-- a method of a dict with nested keys -/
theorem pe_bmD {o e : Expr} {es : List Expr} {to : TE} {t : TA} {name : Str} {apos cpos : Pos} {id : String} {r : V → List V → Hp → VK → Prop} (slot : Slot "dict" name id) (hty : typeOf (.builtin id) = pure (.type "method_descriptor")) (hm : MtR X id r) (ho : PE X o to) (ha : PA X (e :: es) t)
    (hbase : attributeBase o name X.env (eval o X.env) = eval o X.env := by rfl)
    (hfew : ((backTo cpos (starEach (e :: es) X.env)).all (fun x => !x.1) && (backToKw cpos (keywordEach [] X.env)).all (fun x => x.1.isSome)
      && decide ((e :: es).length + ([] : List Keyword).length + (if ([] : List Keyword).isEmpty then 0 else 1) < 30)) = true := by rfl)
    (hline : (apos.endLine == cpos.line) = true := by rfl) (hs : starEach (e :: es) X.env = (false, eval e X.env) :: starEach es X.env := by rfl) (hplain : (backTo cpos (starEach es X.env)).any (·.1) = false := by rfl) :
    PE X (.Call (.Attribute o name apos) (e :: es) [] cpos) (fun σ H Q => to σ H fun x H1 => (∃ d es, x = .ref d ∧ Rd H1 d (NDO X.w d es)) ∧ t σ H1 fun xs H2 => r x xs H2 Q) := by
  refine ⟨fun pins s σ H Q I h => ?_⟩
  refine wpAny_Call_method_late hbase hfew hline rfl (thn (ho.run pins s σ H _ I h) fun v s1 ⟨x, H1, I1, r1, ⟨d, es', ex, hd⟩, q1⟩ => ?_)
  subst ex
  obtain rfl : v = Value.ref d := r1
  obtain ⟨_, _, _, _, _, ob, _, _, hob, hx, _⟩ := nd_of I1 hd
  refine ⟨"dict", id, F.plainAttrs_dict, slot, hty, ⟨ob, hob, hx.1⟩, fun a e2 => ?_, ?_⟩
  · cases e2
    exact ⟨ob, hob, hx.2.1⟩
  · have hA := ha.run cpos pins s1 σ H1 _ I1 q1
    rw [hs] at hA ⊢
    refine Calls.callWith_builtin (by show (false || (backTo cpos (starEach es X.env)).any (·.1)) = false; rw [hplain]; rfl) (Calls.evalArgs_plain ?_)
    exact thn hA fun us s2 ⟨vs, H2, I2, r2, q2⟩ => hm pins s2 σ H2 (.ref d) vs _ us Q I2 rfl r2 q2
/-! ### dict(pairs) -/
/-- the pairs of a list, each a tuple -/
def PairV (H : Hp) (x : V) (k v : V) : Prop := ∃ T, x = .ref T ∧ H T = some (.tup [k, v])
theorem pair_items (I : Inv X pins σ H s) : ∀ {xs : List V} {us : List Value} {ps : List (V × V)}, Vals xs us → Paired (fun x p => PairV H x p.1 p.2) xs ps → ∃ (Ts : List Addr) (qs : List (Value × Value)), us = Ts.map Value.ref ∧ Ts.length = qs.length ∧ Paired (fun (p : V × V) (q : Value × Value) => RelV p.1 q.1 ∧ RelV p.2 q.2) ps qs ∧ Paired (fun T (q : Value × Value) => PairAt s.heap T q.1 q.2) Ts qs
  | _, _, _, .nil, .nil => ⟨[], [], rfl, rfl, .nil, .nil⟩
  | _, _, _, .cons r t, .cons (b := p) ⟨T, ex, hT⟩ t2 => by
    obtain ⟨Ts, qs, e1, e2, e3, e4⟩ := pair_items I t t2
    subst ex
    cases r
    obtain ⟨its, rv, ht, _⟩ := I.tuple (.inl (.inl hT))
    obtain ⟨k, v, rfl, rk, rv⟩ := rv.two
    exact ⟨T :: Ts, (k, v) :: qs, by rw [List.map_cons, e1], by rw [List.length_cons, List.length_cons, e2], .cons ⟨rk, rv⟩ e3, .cons (.inl ht) e4⟩
theorem pairs_at {h : Heap} {Ts : List Addr} {qs : List (Value × Value)} {its : Array Value} (hi : its.toList = Ts.map Value.ref) (hl : Ts.length = qs.length) (hp : Paired (fun T (q : Value × Value) => PairAt h T q.1 q.2) Ts qs) : PairItems h its (fun j => Ts.getD j 0) qs := by
  refine ⟨by rw [← Array.length_toList, hi, List.length_map, hl], fun j k v hj => ?_⟩
  obtain ⟨T, h1, h2⟩ := K64.paired_get hp hj
  have e : Ts.getD j 0 = T := by rw [List.getD_eq_getElem?_getD, h1]; rfl
  show its[j]? = some (Value.ref (Ts.getD j 0)) ∧ PairAt h (Ts.getD j 0) k v
  rw [e]
  refine ⟨?_, h2⟩
  rw [← Array.getElem?_toList, hi, List.getElem?_map, h1]
  rfl
/-- dict(l), keys texts and numbers -/
def putAllK (kvs : List (Key × V)) (l : List (Key × V)) : List (Key × V) := l.foldl (fun acc e => putK acc e.1 e.2) kvs
theorem putAllK_len : ∀ (l kvs : List (Key × V)), (putAllK kvs l).length ≤ kvs.length + l.length
  | [], _ => Nat.le_refl _
  | e :: l, kvs => by
    have h1 := putAllK_len l (putK kvs e.1 e.2)
    have h2 := length_putK kvs e.1 e.2
    show (putAllK (putK kvs e.1 e.2) l).length ≤ _
    rw [List.length_cons]
    omega
theorem kv_all : ∀ {l : List (Key × V)} {l' : List (Key × Value)}, KV l l' → ∀ {kvs : List (Key × V)} {vs : List (Key × Value)}, KV kvs vs → KV (putAllK kvs l) (merged vs l')
  | _, _, .nil, _, _, h => h
  | e :: l, x :: l', .cons r t, kvs, vs, h => by
    have h2 := kv_all t (KV.put h e.1 r.2)
    obtain ⟨k, v⟩ := e
    obtain ⟨k', u⟩ := x
    obtain ⟨rfl, _⟩ := r
    exact h2
def rDictK (K : PySem.W.Frag) : List V → Hp → VK → Prop := fun xs H Q => ∃ (a : Addr) (ys : List V) (ps : List (Key × V)), xs = [.ref a] ∧ H a = some (.lst ys) ∧ Paired (fun x p => PairV H x (kV p.1) p.2) ys ps ∧ ∀ q, H q = none → Q (.ref q) (upd H q (.dK (putAllK [] ps)))
theorem pairs_keys {ps : List (Key × V)} : ∀ {qs : List (Value × Value)}, Paired (fun (p : V × V) (q : Value × Value) => RelV p.1 q.1 ∧ RelV p.2 q.2) (ps.map fun p => (kV p.1, p.2)) qs → ∃ vs : List (Key × Value), KV ps vs ∧ PairsHave (mixKind X.prog X.w) qs.length (PairRel qs) vs := by
  induction ps with
  | nil =>
    intro qs h
    cases h
    exact ⟨[], .nil, rfl, fun i k v h => by simp [PairRel] at h⟩
  | cons p ps ih =>
    intro qs h
    cases h with
    | @cons _ q _ qs r t =>
      obtain ⟨vs, h1, h2, h3⟩ := ih t
      refine ⟨(p.1, q.2) :: vs, .cons ⟨rfl, r.2⟩ h1, by rw [List.length_cons, List.length_cons, h2], fun i k v hi => ?_⟩
      cases i with
      | zero =>
        have e : q = (k, v) := by simpa [PairRel] using hi
        subst e
        exact ⟨p.1, rfl, kV_is r.1⟩
      | succ i => exact h3 i k v hi
theorem call_dictK (hc : X.calm = true) : CallR X (.type "dict") (rDictK X.K) := by
  intro pins s σ H xs us Q I r h
  obtain ⟨a, ys, ps, rfl, ha, hp, q⟩ := h
  rw [Vals.ref1 r]
  obtain ⟨z, its, n, rv, e⟩ := (show ObjOk X.prog X.w H s.heap a (.lst ys) from I.hok a _ ha)
  have hp' : Paired (fun x (p : V × V) => PairV H x p.1 p.2) ys (ps.map fun p => (kV p.1, p.2)) := by
    clear rv z e q ha
    induction hp with
    | nil => exact .nil
    | cons h t ih => exact .cons h ih
  obtain ⟨Ts, qs, e1, e2, e3, e4⟩ := pair_items I rv hp'
  obtain ⟨vs, k1, k2⟩ := pairs_keys e3
  have hl : qs.length ≤ sizeLine := by
    rw [← e2, ← List.length_map (as := Ts) Value.ref, ← e1, ← rv.length]
    exact z
  have hlen : vs.length = ps.length := (Paired.length k1).symm
  have hm2 : qs.length = ps.length := by rw [← k2.1, hlen]
  refine call_dict_pairs (PairArg.list a its.toArray (fun j => Ts.getD j 0) qs) (I.ok.hd hc) ⟨⟨_, n, e, rfl, rfl, rfl⟩, pairs_at (by simpa using e1) e2 e4⟩ k2 hl fun h' tk hd kp => ?_
  have hn : H s.heap.objs.size = none := I.hok.fresh (Nat.le_refl _)
  have hsz : (putAllK [] ps).length ≤ sizeLine := by
    have := putAllK_len ps []
    rw [List.length_nil] at this
    omega
  exact ⟨.ref s.heap.objs.size, _, I.laid (t' := tk) (fun b o e => kp b o (fun z => nomatch z) e) (Nat.le_refl _) (dk_new hsz (beq_eq_false_iff_ne.mpr (Ne.symm (Nat.ne_of_lt I.big))) (kv_all k1 .nil) hd), rfl, q _ hn⟩
/-- dict(l), keys nested -/
def rDictN (w : World) (K : PySem.W.Frag) : List V → Hp → VK → Prop := fun xs H Q => ∃ (a : Addr) (ys : List V) (l : NEs), xs = [.ref a] ∧ H a = some (.lst ys) ∧ Paired (fun x (e : NestedKey × Addr × V) => PairV H x (.ref e.2.1) e.2.2) ys l ∧ KeysIn w K H l ∧ ∀ q, H q = none → Q (.ref q) (upd H q (NDO w q (putAllN [] l)))
theorem pairs_keysN {l : NEs} : ∀ {qs : List (Value × Value)}, Paired (fun (p : V × V) (q : Value × Value) => RelV p.1 q.1 ∧ RelV p.2 q.2) (l.map fun e => (.ref e.2.1, e.2.2)) qs → ∃ vs : List (NestedKey × Addr × Value), Paired EntRel l vs ∧ PairsHaveH (nestedKind X.prog X.w) qs.length (PairRel qs) vs := by
  induction l with
  | nil =>
    intro qs h
    cases h
    exact ⟨[], .nil, rfl, fun i k v h => by simp [PairRel] at h⟩
  | cons e l ih =>
    intro qs h
    cases h with
    | @cons _ q _ qs r t =>
      obtain ⟨vs, h1, h2, h3⟩ := ih t
      refine ⟨(e.1, e.2.1, q.2) :: vs, .cons ⟨rfl, rfl, r.2⟩ h1, by rw [List.length_cons, List.length_cons, h2], fun i k v hi => ?_⟩
      cases i with
      | zero =>
        have e' : q = (k, v) := by simpa [PairRel] using hi
        subst e'
        exact ⟨e.1, e.2.1, rfl, r.1⟩
      | succ i => exact h3 i k v hi
theorem call_dictN (hc : X.calm = true) (hu : X.A.units + 64 < cLine) : CallR X (.type "dict") (rDictN X.w X.K) := by
  intro pins s σ H xs us Q I r h
  obtain ⟨a, ys, l, rfl, ha, hp, hks, q⟩ := h
  rw [Vals.ref1 r]
  obtain ⟨z, its, n, rv, e⟩ := (show ObjOk X.prog X.w H s.heap a (.lst ys) from I.hok a _ ha)
  have hp' : Paired (fun x (p : V × V) => PairV H x p.1 p.2) ys (l.map fun e => (.ref e.2.1, e.2.2)) := by
    clear rv z e hks q ha
    induction hp with
    | nil => exact .nil
    | cons h t ih => exact .cons h ih
  obtain ⟨Ts, qs, e1, e2, e3, e4⟩ := pair_items I rv hp'
  obtain ⟨vs, k1, k2⟩ := pairs_keysN e3
  have hl : qs.length ≤ sizeLine := by
    rw [← e2, ← List.length_map (as := Ts) Value.ref, ← e1, ← rv.length]
    exact z
  have hlen : l.length = vs.length := Paired.length k1
  have hm2 : qs.length = l.length := by rw [← k2.1, hlen]
  have hst : KeysStay (nestedKind X.prog X.w) s.heap s.heap.objs.size [] vs := fun h' hk x hx => by
    obtain ⟨i, hi⟩ := List.getElem?_of_mem hx
    obtain ⟨en, h1, h2⟩ := K64.paired_get k1 hi
    obtain ⟨d, hd, hd1, hd8⟩ := hks en (List.mem_of_getElem? h1)
    have nk := nk_of I hd hd1 hd8
    rw [h2.1, h2.2.1] at nk
    exact nestedKind_stays.stays (fun b o _ _ e _ => hk b o (Nat.ne_of_lt (Heap.lt_size e)) (fun z => nomatch z) e) nk
  refine call_dict_pairsH (PairArg.list a its.toArray (fun j => Ts.getD j 0) qs) (I.ok.hd hc) (show X.A.in1.in1.units + 8 < cLine by show X.A.units + 1 + 1 + 8 < cLine; omega) ⟨⟨_, n, e, rfl, rfl, rfl⟩, pairs_at (by simpa using e1) e2 e4⟩ k2 hst hl fun h' tk hd kp => ?_
  have hn : H s.heap.objs.size = none := I.hok.fresh (Nat.le_refl _)
  have hsz : (putAllN [] l).length ≤ sizeLine := by
    have := putAllN_len l []
    rw [List.length_nil] at this
    omega
  exact ⟨.ref s.heap.objs.size, _, I.laid (t' := tk) (fun b o e => kp b o (fun z => nomatch z) e) (Nat.le_refl _) (ndo_of hsz (beq_eq_false_iff_ne.mpr (Ne.symm (Nat.ne_of_lt I.big))) (ent_putAll k1 .nil) hd), rfl, q _ hn⟩
end
end K64

/-! ## K64DictD -/
/-! Dicts over data: made of pairs, listed, sorted, joined. -/
namespace K64
open PySem PySem.Spec PyProof.Rows L2 PySem.W
section
variable {w : World} {K : PySem.W.Frag} {G : Hp}
/-- data pairs as they stand -/
theorem pairs_dx {H : Hp} (s : Same G H) : ∀ {xs : List V} {prs : List (PyData × PyData)}, DxAll w K G xs (prs.map fun p => PyData.tuple [p.1, p.2]) → ∃ ps : List (V × V), Paired (fun x p => PairV H x p.1 p.2) xs ps ∧ Paired (fun (p : V × V) (q : PyData × PyData) => Dx w K G p.1 q.1 ∧ Dx w K G p.2 q.2) ps prs
  | _, [], h => by
    cases h
    exact ⟨[], .nil, .nil⟩
  | _, q :: prs, h => by
    rw [List.map_cons] at h
    cases h with
    | cons d r =>
      obtain ⟨ps, h1, h2⟩ := pairs_dx s r
      cases d with
      | tup hx rx =>
        cases rx with
        | cons d1 rx =>
          cases rx with
          | cons d2 rx =>
            cases rx
            exact ⟨(_, _) :: ps, .cons ⟨_, rfl, s _ _ hx⟩ h1, .cons ⟨d1, d2⟩ h2⟩
theorem dcD_app {α : Type} (kd vd : α → PyData) : ∀ (as bs : List α) (acc : List (PyData × PyData)), dcD kd vd (as ++ bs) acc = dcD kd vd bs (dcD kd vd as acc)
  | [], _, _ => rfl
  | a :: as, bs, acc => dcD_app kd vd as bs (putD acc (kd a) (vd a))
/-- entry by entry, keys texts and numbers -/
theorem dxk_all : ∀ {l : List (Key × V)} {prs : List (Key × PyData)}, Paired (fun (p : Key × V) (q : Key × PyData) => p.1 = q.1 ∧ Dx w K G p.2 q.2) l prs → ∀ {kvs : List (Key × V)} {ds : List (PyData × PyData)}, DxK w K G kvs ds → DxK w K G (putAllK kvs l) (dcD (fun p : Key × PyData => keyD p.1) (·.2) prs ds)
  | _, _, .nil, _, _, h => h
  | _, _, .cons (a := p) (b := q) r t, kvs, ds, h => by
    obtain ⟨k, v⟩ := p
    obtain ⟨k', d⟩ := q
    obtain ⟨rfl, dx⟩ := r
    exact dxk_all t (dxk_put h dx)
theorem dxn_all : ∀ {l : NEs} {prs : List (PyData × PyData)}, Paired (fun (e : NestedKey × Addr × V) (q : PyData × PyData) => Dx w K G (.ref e.2.1) q.1 ∧ keyOf q.1 = some e.1 ∧ e.1.depth ≤ 8 ∧ Dx w K G e.2.2 q.2) l prs → ∀ {es : NEs} {ds : List (PyData × PyData)}, DxN w K G es ds → DxN w K G (putAllN es l) (dcD (·.1) (·.2) prs ds)
  | _, _, .nil, _, _, h => h
  | _, _, .cons (a := p) (b := q) r t, es, ds, h => by
    obtain ⟨k, b, v⟩ := p
    obtain ⟨kd, d⟩ := q
    obtain ⟨h1, h2, h3, h4⟩ := r
    exact dxn_all t (dxn_put h1 h2 h3 h4 h)
theorem rdo_dictK {prs : List (Key × PyData)} : RDO w K (rDictK K) [.list (prs.map fun p => .tuple [keyD p.1, p.2])] (.ownK (dcD (fun p : Key × PyData => keyD p.1) (·.2) prs [])) := fun xs G H Q s dx q => by
  cases dx with
  | cons d1 dr =>
    cases dr
    cases d1 with
    | @lst la lxs lds h r =>
      have r' : DxAll w K G lxs ((prs.map fun p => (keyD p.1, p.2)).map fun p => PyData.tuple [p.1, p.2]) := by rw [List.map_map]; exact r
      obtain ⟨ps, h1, h2⟩ := pairs_dx s r'
      obtain ⟨l, e1, e2⟩ : ∃ l : List (Key × V), ps = l.map (fun p => (kV p.1, p.2)) ∧ Paired (fun (p : Key × V) (q : Key × PyData) => p.1 = q.1 ∧ Dx w K G p.2 q.2) l prs := by
        clear h1 r r' h q
        induction prs generalizing ps with
        | nil =>
          cases h2
          exact ⟨[], rfl, .nil⟩
        | cons p prs ih =>
          rw [List.map_cons] at h2
          cases h2 with
          | @cons x _ _ _ hx ht =>
            obtain ⟨l, e1, e2⟩ := ih _ ht
            obtain ⟨kx, vx⟩ := x
            obtain ⟨k, d⟩ := p
            obtain ⟨hk, hd⟩ := hx
            have ek : kx = kV k := by
              cases k with
              | inl i => cases hk; rfl
              | inr z => cases hk; rfl
            exact ⟨(k, vx) :: l, by rw [List.map_cons, e1, ek], .cons ⟨rfl, hd⟩ e2⟩
      subst e1
      have h1' : ∀ {ys : List V} {l : List (Key × V)}, Paired (fun x (p : V × V) => PairV H x p.1 p.2) ys (l.map fun p => (kV p.1, p.2)) → Paired (fun x (p : Key × V) => PairV H x (kV p.1) p.2) ys l := by
        intro ys l
        induction l generalizing ys with
        | nil =>
          intro h
          cases h
          exact .nil
        | cons p l ih =>
          intro h
          cases h with
          | cons a b => exact .cons a (ih b)
      exact ⟨_, _, l, rfl, s _ _ h, h1' h1, fun p hp => q p _ G _ (.own s hp) hp (s.free hp) upd_same ⟨_, rfl, dxk_all e2 .nil⟩⟩
theorem rdo_dictN {prs : List (PyData × PyData)} (hk : ∀ p ∈ prs, ∃ ks k, p.1 = .tuple ks ∧ keyOf p.1 = some k ∧ k.depth ≤ 8) : RDO w K (rDictN w K) [.list (prs.map fun p => .tuple [p.1, p.2])] (.ownN (dcD (·.1) (·.2) prs [])) := fun xs G H Q s dx q => by
  cases dx with
  | cons d1 dr =>
    cases dr
    cases d1 with
    | lst h r =>
      obtain ⟨ps, h1, h2⟩ := pairs_dx s r
      obtain ⟨l, e1, e2⟩ : ∃ l : NEs, ps = l.map (fun e => (V.ref e.2.1, e.2.2)) ∧ Paired (fun (e : NestedKey × Addr × V) (q : PyData × PyData) => Dx w K G (.ref e.2.1) q.1 ∧ keyOf q.1 = some e.1 ∧ e.1.depth ≤ 8 ∧ Dx w K G e.2.2 q.2) l prs := by
        clear h1 r h q
        induction prs generalizing ps with
        | nil =>
          cases h2
          exact ⟨[], rfl, .nil⟩
        | cons p prs ih =>
          cases h2 with
          | @cons x _ _ _ hx ht =>
            obtain ⟨l, e1, e2⟩ := ih (fun p hp => hk p (List.mem_cons_of_mem _ hp)) _ ht
            obtain ⟨kx, vx⟩ := x
            obtain ⟨hkd, hd⟩ := hx
            obtain ⟨ks, k, ek, hk1, hk8⟩ := hk p List.mem_cons_self
            have hkd' := hkd
            rw [ek] at hkd'
            obtain ⟨b, rfl⟩ := ref_of_key hkd'
            exact ⟨(k, b, vx) :: l, by rw [List.map_cons, e1], .cons ⟨hkd, hk1, hk8, hd⟩ e2⟩
      subst e1
      have h1' : ∀ {ys : List V} {l : NEs}, Paired (fun x (p : V × V) => PairV H x p.1 p.2) ys (l.map fun e => (V.ref e.2.1, e.2.2)) → Paired (fun x (e : NestedKey × Addr × V) => PairV H x (.ref e.2.1) e.2.2) ys l := by
        intro ys l
        induction l generalizing ys with
        | nil =>
          intro h
          cases h
          exact .nil
        | cons p l ih =>
          intro h
          cases h with
          | cons a b => exact .cons a (ih b)
      refine ⟨_, _, l, rfl, s _ _ h, h1' h1, fun e he => ?_, fun p hp => q p _ G _ (.own s hp) hp (s.free hp) upd_same ⟨_, rfl, dxn_all e2 .nil⟩⟩
      obtain ⟨i, hi⟩ := List.getElem?_of_mem he
      obtain ⟨q', h3, h4⟩ := L2.paired_get e2 hi
      exact ⟨q'.1, h4.1.mono s, h4.2.1, h4.2.2.1⟩
/-! ### listed -/
theorem dxn_refs : ∀ {es : NEs} {ds : List (PyData × PyData)}, DxN w K G es ds → DxAll w K G (es.map fun e => V.ref e.2.1) (ds.map (·.1))
  | _, _, .nil => .nil
  | _, _, .cons h1 _ _ _ r => .cons h1 (dxn_refs r)
theorem rdc_listN {ds : List (PyData × PyData)} (hn : IsDn ds) : RDC w K (rListN w) [.dict ds] (.list (ds.map (·.1))) := fun xs G H Q s dx q => by
  cases dx with
  | cons d1 dr =>
    cases dr
    obtain ⟨p, es, rfl, hp, r⟩ := hn _ _ _ _ d1
    exact ⟨p, es, rfl, .inl (s _ _ hp), fun l hl => q _ (upd G l _) _ (.new s hl) (.lst upd_same ((dxn_refs r).mono (same_new (s.free hl))))⟩
theorem rdc_tupN {ds : List (PyData × PyData)} (hn : IsDn ds) : RDC w K (rTupN w) [.dict ds] (.tuple (ds.map (·.1))) := fun xs G H Q s dx q => by
  cases dx with
  | cons d1 dr =>
    cases dr
    obtain ⟨p, es, rfl, hp, r⟩ := hn _ _ _ _ d1
    exact ⟨p, es, rfl, .inl (s _ _ hp), fun l hl => q _ (upd G l _) _ (.new s hl) (.tup upd_same ((dxn_refs r).mono (same_new (s.free hl))))⟩
theorem rdc_sortN {α : Type} [DecidableEq α] [DatumOrd α] {ds : List (PyData × PyData)} {bs : List α} (hn : IsDn ds) (e : ds.map (·.1) = bs.map Datum.toD) (ok : SortOk (bs.map Datum.toD)) : RDC w K (rSortN w K α) [.dict ds] (.list ((srt bs).map Datum.toD)) := fun xs G H Q s dx q => by
  cases dx with
  | cons d1 dr =>
    cases dr
    obtain ⟨p, es, rfl, hp, r⟩ := hn _ _ _ _ d1
    exact ⟨p, G, es, bs, rfl, s, .inl (s _ _ hp), e ▸ dxn_refs r, ok, fun l ys hl hy => q _ (upd G l _) _ (.new s hl) (.lst upd_same (hy.mono (same_new (s.free hl))))⟩
end
end K64

/-! ## K64DictE -/
/-! update, == {}, items, a loop over a dict, displays, get. -/
namespace K64
open PySem PySem.Spec PyProof.Rows L2 PySem.W
section
variable {X : Cx} {ρ : Sls} {N : Sls → Prop} {R : PyData → Sls → Prop} {tg e i : Expr} {pos p1 p2 p3 : Pos} {x : Str} {j : Nat}
theorem dcD_of_all {w : World} {K : PySem.W.Frag} {G : Hp} : ∀ {fs : NEs} {ds : List (PyData × PyData)}, DxN w K G fs ds → Paired (fun (e : NestedKey × Addr × V) (q : PyData × PyData) => Dx w K G (.ref e.2.1) q.1 ∧ keyOf q.1 = some e.1 ∧ e.1.depth ≤ 8 ∧ Dx w K G e.2.2 q.2) fs ds
  | _, _, .nil => .nil
  | _, _, .cons h1 h2 h3 h4 r => .cons ⟨h1, h2, h3, h4⟩ (dcD_of_all r)
theorem dxn_hash {w : World} {K : PySem.W.Frag} {G : Hp} : ∀ {fs : NEs} {ds : List (PyData × PyData)}, DxN w K G fs ds → (fs.map fun e => e.1.hash w) = ds.map fun p => ((keyOf p.1).map (·.hash w)).getD 0
  | _, _, .nil => rfl
  | _, _, .cons h1 h2 h3 h4 r => by
    rw [List.map_cons, List.map_cons, dxn_hash r, h2]
    rfl
/-- x.update(e) -/
theorem d1_updN {ds0 fs : List (PyData × PyData)} {P : PyData → Sls → Prop} (hu : X.A.units + 9 < cLine) (hv : PE X (.Name x p1) (tVar j)) (h0 : ρ[j]? = some (.ownN ds0)) (he : EX X e ρ P) (hP : ∀ d r, P d r → r = ρ ∧ d = .dict fs) (hn : IsDn fs) (hl : ds0.length + fs.length ≤ sizeLine)
    (hh : ds0 ≠ [] ∨ (fs.map fun p => ((keyOf p.1).map (·.hash X.w)).getD 0).Nodup) (hN : N (ρ.set j (.ownN (dcD (·.1) (·.2) fs ds0))))
    (hbase : attributeBase (.Name x p1) "update" X.env (eval (.Name x p1) X.env) = eval (.Name x p1) X.env := by rfl)
    (hfew : ((backTo p3 (starEach [e] X.env)).all (fun x => !x.1) && (backToKw p3 (keywordEach [] X.env)).all (fun x => x.1.isSome)
      && decide (([e] : List Expr).length + ([] : List Keyword).length + (if ([] : List Keyword).isEmpty then 0 else 1) < 30)) = true := by rfl)
    (hline : (p2.endLine == p3.line) = true := by rfl) (hst : starEach [e] X.env = (false, eval e X.env) :: starEach [] X.env := by rfl) (hplain : (backTo p3 (starEach [] X.env)).any (·.1) = false := by rfl)
    (hs : swapsWith (.Call (.Attribute (.Name x p1) "update" p2) [e] [] p3) none pos.line X.env = pure false := by rfl) : D1 X (.Expr (.Call (.Attribute (.Name x p1) "update" p2) [e] [] p3) pos) ρ N R :=
  ps_imp (ps_expr (pe_bmD F.slot_dict_update F.type_dict_update (mt_updN hu) hv (pa_cons he pa_nil hst) hbase hfew hline hst hplain) hs) fun D σ H ⟨F, G, S, qn, qr⟩ => by
    obtain ⟨p, es, e1, e2, e3, _⟩ := ownN_at S h0
    refine ⟨_, e1, ⟨p, es, rfl, .inl e2⟩, F, G, S, fun v d r G1 H1 pd S1 s1 dx => ?_⟩
    obtain ⟨rfl, rfl⟩ := hP d r pd
    obtain ⟨p', es', g1, g2, g3, gn⟩ := ownN_at S1 h0
    rw [e1] at g1
    cases g1
    obtain ⟨b, fs', rfl, hb, rb⟩ := hn _ _ _ _ dx
    have hpb : p ≠ b := fun z => by
      rw [z, hb] at gn
      cases gn
    refine ⟨p, es', b, fs', rfl, rfl, hpb, g2, .inl (S1.grow.s _ _ hb), dxn_keys S1.grow.s g3, dxn_keys S1.grow.s rb, ?_, by rw [dxn_len g3, dxn_len rb]; exact hl, ?_⟩
    · rcases hh with hh | hh
      · refine .inl fun z => hh ?_
        subst z
        cases g3
        rfl
      · exact .inr (by rw [dxn_hash rb]; exact hh)
    · exact qn _ σ G1 _ hN (S1.put h0 rfl e1 ⟨_, rfl, dxn_all (dcD_of_all rb) g3⟩) s1
/-! ### == {} -/
theorem eq_raw {P : Program} {w : World} {A : Around} {E : Value → Shared → Prop} {s : Shared} {a b : Addr} {es fs : Array DictEntry} {ep ep' : Nat} {oa ob : Obj} {Q : Value → Shared → Prop} (ha : (a == sysModules) = false) (hb : (b == sysModules) = false)
    (da : s.heap.get? a = some oa ∧ oa.ExactDict ∧ oa.data = .dict es ep) (db : s.heap.get? b = some ob ∧ ob.ExactDict ∧ ob.data = .dict fs ep') (hu : A.units < cLine) (h0 : fs.size = 0) (h : Q (.bool (decide (es.size = 0))) s) : wpAny (model P w) A (compareOp .Eq (.ref a) (.ref b)) Q E s := by
  have ta : s.TypeIs (.ref a) "dict" := ⟨oa, da.1, da.2.1.1⟩
  have tb : s.TypeIs (.ref b) "dict" := ⟨ob, db.1, db.2.1.1⟩
  refine wpAny_richCompare_same_room (op := .Eq) ta tb PySem.F.slot_dict_eq (wpAny_call_entry PySem.F.slot_dict_eq ta PySem.F.entry_dict_eq ?_ (PySem.F.args_dict_eq_2 _ _)) hu
  show wpAny _ _ (Builtin.Dict.dictSlotArgs "__eq__" ⟨[.ref a, .ref b], []⟩ >>= _) _ _ s
  refine wpAny_bind ?_
  unfold Builtin.Dict.dictSlotArgs
  refine wpAny_bind (wpAny_notOrdered_dict ta ?_)
  show wpAny _ _ (pure (Value.ref a, Value.ref b)) _ _ s
  refine wpAny_pure ?_
  refine wpAny_bind (wpAny_isInstance (T := "dict") tb PySem.F.sub_dict_dict ?_)
  simp only [Bool.not_true, Bool.false_eq_true, if_false]
  refine wpAny_bind (wpAny_pure (wpAny_bind (wpAny_pure ?_)))
  refine wpAny_bind (m := Builtin.Dict.samePairs _ a b) ?_
  unfold Builtin.Dict.samePairs Builtin.Dict.showsAll
  rw [if_neg (show ¬ (a == sysModules) = true by rw [ha]; exact Bool.false_ne_true), if_neg (show ¬ (b == sysModules) = true by rw [hb]; exact Bool.false_ne_true)]
  refine wpAny_bind (wpAny_pure (wpAny_bind (wpAny_pure ?_)))
  refine wpAny_bind (wpAny_dictEntries da.1 da.2.2 ?_)
  dsimp only
  refine wpAny_bind (wpAny_dictEntries db.1 db.2.2 ?_)
  by_cases hsz : es.size = fs.size
  · rw [if_neg (by rw [hsz]; simp)]
    refine wpAny_bind (wpAny_dictEpoch da.1 da.2.2 ?_)
    refine wpAny_bind ?_
    rw [Std.Legacy.Range.forIn_eq_forIn_range']
    simp only [Std.Legacy.Range.size, Nat.sub_zero, Nat.add_sub_cancel, Nat.div_one]
    rw [hsz, h0, List.range'_zero, List.forIn_nil]
    rw [hsz, h0, decide_eq_true rfl] at h
    exact wpAny_pure (wpAny_pure (wpAny_pure ⟨_, rfl, (fun x => nomatch x), h⟩))
  · rw [if_pos (by simpa using hsz)]
    rw [decide_eq_false (fun z => hsz (by rw [z, h0]))] at h
    exact wpAny_bind (wpAny_rule (wpAny_pure (wpAny_pure ⟨_, rfl, (fun x => nomatch x), h⟩)))
def rEqE (w : World) : R2 := fun x y H Q => ∃ a es b, x = .ref a ∧ y = .ref b ∧ Rd H a (NDO w a es) ∧ H b = some (NDO w b []) ∧ Q (.bl (decide (es.length = 0))) H
theorem op_eqE (hu : X.A.units + 1 < cLine) : OpR X (compareOp .Eq) (rEqE X.w) := by
  intro pins s σ H x y v u Q I rx ry h
  obtain ⟨a, es, b, rfl, rfl, h1, h2, q⟩ := h
  cases rx
  cases ry
  obtain ⟨z1, hd1, xs, r1, nd, o, ents, ep, ho, hx, hdt, hle⟩ := nd_of I h1
  obtain ⟨z2, hd2, ys, r2, nd2, o2, ents2, ep2, ho2, hx2, hdt2, hle2⟩ := nd_of I (.inl h2)
  have e1 : ents.size = es.length := by rw [← Array.length_toList, hle, List.length_map, ent_len r1]
  have e2 : ents2.size = 0 := by
    cases r2
    rw [← Array.length_toList, hle2]
    rfl
  refine eq_raw hd1 hd2 ⟨ho, hx, hdt⟩ ⟨ho2, hx2, hdt2⟩ (by omega) e2 ?_
  rw [e1]
  exact ⟨.bl _, H, I, rfl, q⟩
/-- x == {} -/
theorem dt_eqE {ρ : Env} {a : Expr} {ds : List (PyData × PyData)} {p p' : Pos} (hu : X.A.units + 1 < cLine) (ha : DE X a ρ (.dict ds)) (hn : IsDn ds) (hm : behindInMarks .Eq (.Dict [] [] p') = false := by rfl) : DT X (.Compare a [.Eq] [.Dict [] [] p'] p) ρ (decide (ds.length = 0)) :=
  pt_imp (pt_cmpR (op_eqE hu) ha pe_dnewN hm) fun σ H Q ⟨G, s, env, q⟩ => ⟨G, s, env, fun x G1 H1 g1 dx => fun p hp => by
    obtain ⟨a, es, rfl, h1, r⟩ := hn _ _ _ _ dx
    have hl := dxn_len r
    refine ⟨a, es, p, rfl, rfl, .inl ?_, upd_same, _, rfl, ?_⟩
    · rw [upd_ne (fun z => by rw [z] at h1; rw [g1.s _ _ h1] at hp; cases hp)]
      exact g1.s _ _ h1
    · rw [hl]
      exact q G1 _ (g1.trans (.own g1.s hp))⟩
/-! ### list(d.items()) -/
theorem pairs_items {w : World} {K : PySem.W.Frag} {G H' : Hp} {ts : List Addr} {kvs : List (Key × V)} (G' : Hp) (hG : ∀ t ∈ ts, ∀ o, H' t = some o → G' t = some o) (sG : Same G G') : ∀ {ds : List (PyData × PyData)}, Paired (fun (t : Addr) (q : Key × V) => H' t = some (.tup [kV q.1, q.2])) ts kvs → DxK w K G kvs ds → DxAll w K G' (ts.map V.ref) (ds.map fun p => .tuple [p.1, p.2]) := by
  intro ds h
  induction h generalizing ds with
  | nil =>
    intro r
    cases r
    exact .nil
  | @cons t q ts qs h _ ih =>
    intro r
    cases r with
    | @cons k v _ d ds dx r =>
      refine .cons (.tup (hG t List.mem_cons_self _ h) (.cons ?_ (.cons (dx.mono sG) .nil))) (ih (fun t ht => hG t (List.mem_cons_of_mem _ ht)) r)
      cases k with
      | inl i => exact .int i
      | inr z => exact .str z
theorem de_items {ρ : Env} {p apos cpos pos : Pos} {ds : List (PyData × PyData)} (hc : X.calm = true) (he : DE X e ρ (.dict ds)) (hn : ∀ w K G v, Dx w K G v (.dict ds) → ∃ p kvs, v = .ref p ∧ G p = some (.dK kvs) ∧ DxK w K G kvs ds) (hg : Gl X "list") (hm : X.mg "list" = none) (hbase : attributeBase e "items" X.env (eval e X.env) = eval e X.env := by rfl) (hline : (apos.endLine == cpos.line) = true := by rfl)
    (hs : starEach [.Call (.Attribute e "items" apos) [] [] cpos] X.env = (false, eval (.Call (.Attribute e "items" apos) [] [] cpos) X.env) :: starEach [] X.env := by rfl) :
    DE X (.Call (.Name "list" p) [.Call (.Attribute e "items" apos) [] [] cpos] [] pos) ρ (.list (ds.map fun p => .tuple [p.1, p.2])) :=
  pe_imp (LiI.pe_listItems hc he hg hm (by decide +kernel) hbase hline hs) fun σ H Q ⟨G, s, env, q⟩ => ⟨G, s, env, fun v G1 H1 g1 dv => by
    obtain ⟨d, kvs, rfl, hd, r⟩ := hn _ _ _ _ dv
    refine ⟨d, kvs, rfl, g1.s _ _ hd, fun H' pl ts keep hp hts hpt hl hpr => ?_⟩
    have fr : ∀ t ∈ ts, G1 t = none := fun t ht => g1.s.free (hts t ht)
    classical
    let G' : Hp := fun a => if a = pl ∨ a ∈ ts then H' a else G1 a
    have sG : Same G1 G' := fun a o e => by
      have h1 : a ≠ pl := fun z => by rw [z, g1.s.free hp] at e; cases e
      have h2 : a ∉ ts := fun z => by rw [fr a z] at e; cases e
      show (if a = pl ∨ a ∈ ts then H' a else G1 a) = some o
      rw [if_neg (by simp [h1, h2])]
      exact e
    have sH : Same G' H' := fun a o e => by
      have e : (if a = pl ∨ a ∈ ts then H' a else G1 a) = some o := e
      split at e
      · exact e
      · exact keep _ _ (g1.s _ _ e)
    have g2 : Grow G1 H1 G' H' := ⟨sG, fun a o e => keep a o e, sH, fun a e1 e2 => by
      show (if a = pl ∨ a ∈ ts then H' a else G1 a) = none
      rw [if_neg ?_]
      · exact e1
      · rintro (rfl | z)
        · exact e2 hp
        · exact e2 (hts a z)⟩
    refine q (.ref pl) G' H' (g1.trans g2) (.lst (xs := ts.map V.ref) ?_ (pairs_items G' (fun t ht o e => ?_) sG hpr r))
    · show (if pl = pl ∨ pl ∈ ts then H' pl else G1 pl) = _
      rw [if_pos (.inl rfl)]
      exact hl
    · show (if t = pl ∨ t ∈ ts then H' t else G1 t) = some o
      rw [if_pos (.inr ht)]
      exact e⟩
/-! ### displays -/
theorem de_disp2 {ρ : Env} {k1 k2 : Key} {a1 a2 b1 b2 : Expr} {d1 d2 : PyData} {p : Pos} (h12 : k1 ≠ k2) (ha1 : DE X a1 ρ (keyD k1)) (hb1 : DE X b1 ρ d1) (ha2 : DE X a2 ρ (keyD k2)) (hb2 : DE X b2 ρ d2) : DE X (.Dict [some a1, some a2] [b1, b2] p) ρ (.dict [(keyD k1, d1), (keyD k2, d2)]) :=
  pe_imp (pe_disp (pps_cons ha1 hb1 (pps_cons ha2 hb2 pps_nil)) rfl rfl (fun z => nomatch z) (by show 2 ≤ 15; decide)) fun σ H Q ⟨G, s, env, q⟩ p hp => by
    have s0 : Same G (upd H p (.dK [])) := s.trans (same_new hp)
    have kv : ∀ {w : World} {K : PySem.W.Frag} {G : Hp} {v : V} {k : Key}, Dx w K G v (keyD k) → v = kV k := by
      intro w K G v k h
      cases k with
      | inl i => cases h; rfl
      | inr z => cases h; rfl
    refine ⟨G, s0, env, fun x1 G1 H1 g1 dx1 => ⟨G1, g1.s, env.mono g1.g, fun y1 G2 H2 g2 dy1 => ⟨G2, g2.s, env.mono (g1.g.trans g2.g), fun x2 G3 H3 g3 dx2 => ⟨G3, g3.s, env.mono (g1.g.trans (g2.g.trans g3.g)), fun y2 G4 H4 g4 dy2 => ?_⟩⟩⟩⟩
    have gg := ((g1.trans g2).trans g3).trans g4
    have hp4 : H4 p = some (.dK []) := gg.h _ _ upd_same
    have gp : G4 p = none := gg.n p (s.free hp) (by rw [upd_same]; exact fun z => nomatch z)
    cases kv dx1
    cases kv dx2
    refine ⟨hp4, [(k1, y1), (k2, y2)], rfl, by show 2 ≤ 15; decide, ?_⟩
    have em : mergeK [] [(k1, y1), (k2, y2)] = [(k1, y1), (k2, y2)] := by
      show putK (putK [] k1 y1) k2 y2 = _
      simp [putK, h12]
    rw [em]
    have g5 : Grow G H (upd G4 p (.dK [(k1, y1), (k2, y2)])) (upd H4 p (.dK [(k1, y1), (k2, y2)])) := ⟨gg.g.trans (same_new gp), fun a o e => by
        rw [upd_ne (ne_of_none e hp)]
        exact gg.h _ _ (same_new hp _ _ e), fun a o e => by
        by_cases z : a = p
        · subst z
          rw [upd_same] at e ⊢
          exact e
        · rw [upd_ne z] at e ⊢
          exact gg.s _ _ e, fun a e1 e2 => by
        have z : a ≠ p := fun z => e2 (by rw [z]; exact hp)
        rw [upd_ne z]
        exact gg.n a e1 (by rw [upd_ne z]; exact e2)⟩
    have sg : Same G4 (upd G4 p (.dK [(k1, y1), (k2, y2)])) := same_new gp
    exact q (.ref p) _ _ g5 (.dk upd_same (.cons (dy1.mono ((g3.g.trans g4.g).trans sg)) (.cons (dy2.mono sg) .nil)) (List.cons_ne_nil _ _))
/-! ### d.get(k, x) -/
theorem de_dget2 {ρ : Env} {o f : Expr} {apos cpos : Pos} {k : Key} {ds : List (PyData × PyData)} {d df : PyData} (hu : X.A.units + 1 < cLine) (ho : DE X o ρ (.dict ds)) (he : DE X e ρ (keyD k)) (hf : DE X f ρ df) (hl : lookD ds k = some d) (hn : ∀ w K G v, Dx w K G v (.dict ds) → ∃ p kvs, v = .ref p ∧ G p = some (.dK kvs) ∧ DxK w K G kvs ds)
    (m : M2 X o "get" apos e f cpos := by exact ⟨rfl, rfl, rfl, rfl⟩) : DE X (.Call (.Attribute o "get" apos) [e, f] [] cpos) ρ d :=
  pe_imp (pe_dget2 hu ho he hf m) fun σ H Q ⟨G, s, env, q⟩ => ⟨G, s, env, fun x G1 H1 g1 dx => by
    obtain ⟨p, kvs, rfl, hp, r⟩ := hn _ _ _ _ dx
    refine ⟨p, rfl, .inl ⟨kvs, .inl (g1.s _ _ hp)⟩, G1, g1.s, env.mono g1.g, fun y G2 H2 g2 dy => ⟨G2, g2.s, env.mono (g1.g.trans g2.g), fun z G3 H3 g3 dz => ?_⟩⟩
    obtain ⟨v, h1, h2⟩ := dxk_look r hl
    have ey : y = kV k := by
      cases k with
      | inl i => cases dy; rfl
      | inr z => cases dy; rfl
    subst ey
    refine ⟨valV kvs k, .k (g3.h _ _ (g2.h _ _ (g1.s _ _ hp))), ?_⟩
    rw [h1]
    exact q v G3 H3 ((g1.trans g2).trans g3) (h2.mono (g2.g.trans g3.g))⟩
/-! ### l.index(x) -/
def rIdxD (w : World) (K : PySem.W.Frag) (α : Type) [DecidableEq α] [Datum α] : V → List V → Hp → VK → Prop := fun x xs H Q => ∃ (l : Addr) (y : V) (G : Hp) (a : α) (bs : List α), x = .ref l ∧ xs = [y] ∧ Same G H ∧ Dx w K G x (.list (bs.map Datum.toD)) ∧ Dx w K G y (Datum.toD a) ∧ a ∈ bs ∧ bs.length ≤ sizeLine ∧ Q (.int (bs.idxOf a : Nat)) H
theorem mt_idxD {α : Type} [DecidableEq α] [Datum α] (hu : X.A.units + 65 < cLine) (hd : Datum.depth α ≤ 60) : MtR X "list.index" (rIdxD X.w X.K α) := by
  intro pins s σ H x xs v us Q I rx rxs h
  obtain ⟨l, y, G, a, bs, rfl, rfl, sg, dx, dy, hm, hz, q⟩ := h
  cases rx
  obtain ⟨u, rfl, ru⟩ := rxs.one
  obtain ⟨as, ra⟩ := dx_reads I sg dy (Datum.plain a) ru
  cases dx with
  | lst hx rx =>
    obtain ⟨its, rv, hl, _⟩ := I.list (.inl (.inl (sg _ _ hx)))
    obtain ⟨cs, rc⟩ := dx_readsAll I sg rx (plainAll_map bs) rv
    exact index_list_datum hl.isList ⟨cs, rc⟩ ⟨as, ra⟩ (by omega) hz hm ⟨.int _, H, I.tok _, ⟨_, rfl⟩, q⟩
end
end K64

/-! ## K64FnO -/
/-! Defs that give an object of the caller's own; list.index. -/
namespace K64
open PySem PySem.Spec PyProof.Rows L2 PySem.W
def spO (w : World) (K : PySem.W.Frag) (R : List PyData → Sl → Prop) : Sp := fun vs H Q _ => ∃ G ds sl, Same G H ∧ DxAll w K G vs ds ∧ R ds sl ∧ ∀ p b G' H', Grow G H G' H' → H p = none → G' p = none → H' p = some b → Hold w K G' p sl b → Q (.ref p) H'
def tSO (w : World) (K : PySem.W.Frag) (ρ : Sls) (sl : Sl) : TS := fun D σ H => ∃ F G, StG w K F ρ σ G H ∧ ∀ p b G' H', Grow F.G0 F.H0 G' H' → F.H0 p = none → G' p = none → H' p = some b → Hold w K G' p sl b → D.rt (.ref p) H'
def DSO (X : Cx) (sts : List Stmt) (ρ : Sls) (sl : Sl) : Prop := PSs X sts (tSO X.w X.K ρ sl)
section
variable {X : Cx} {st : Stmt} {rest : List Stmt} {ρ : Sls} {M : Sls → Prop} {sl : Sl} {x : Str} {pos p1 : Pos} {i : Nat}
theorem dso_cons (h1 : D1 X st ρ M (fun _ _ => False)) (h2 : ∀ ρ', M ρ' → DSO X rest ρ' sl) : DSO X (st :: rest) ρ sl := by
  have h2' : PSs X rest (fun D σ H => ∃ ρ', M ρ' ∧ tSO X.w X.K ρ' sl D σ H) := ⟨fun pins s σ H D I ⟨ρ', m, q⟩ => (h2 ρ' m).run pins s σ H D I q⟩
  exact pss_imp (pss_cons h1 h2') fun D σ H ⟨F, G, S, q⟩ => ⟨F, G, S, fun ρ' σ' G' H' m S' s' => ⟨ρ', m, F, G', S', q⟩, fun _ _ _ _ _ _ h => h.elim⟩
theorem dso_then {ρ' : Sls} (h1 : D1 X st ρ (· = ρ') (fun _ _ => False)) (h2 : DSO X rest ρ' sl) : DSO X (st :: rest) ρ sl := dso_cons h1 fun _ e => e ▸ h2
theorem dso_weak {ρ' : Sls} {sts : List Stmt} (h : DSO X sts ρ' sl) (hw : WeakL ρ ρ') : DSO X sts ρ sl := pss_imp h fun D σ H ⟨F, G, S, q⟩ => ⟨F, G, S.weak hw.weak.1 hw.weak.2, q⟩
theorem dso_for {α : Type} {tg iter : Expr} {body : List Stmt} (as : List α) (enc : α → PyData) {g : TG} (st : Nat → Sls) (hp : PassesOwn (model X.prog X.w) X.A X.env X.xe) (hc : X.calm = true) (hi : DI X tg iter (er ρ) (as.map enc)) (hg : PG X tg g) 
    (step : ∀ i a, as[i]? = some a → ∃ r', TgS X.w X.K g (st i) (enc a) r' ∧ DS X body r' (fun r => WeakL r (st (i + 1))) (fun _ _ => False)) (hr : DSO X rest (st as.length) sl) (h0 : WeakL ρ (st 0) := by repeat (first | exact WeakL.refl _ | apply WeakL.same | apply WeakL.non)) (hs : ∀ x, foldedSetIterable iter X.env x = pure x := by intro _; rfl) : DSO X (.For tg iter body [] pos :: rest) ρ sl := by
  refine dso_cons (M := fun r => WeakL r (st as.length)) (d1_for as enc (fun i r => WeakL r (st i)) hp hc hi hg h0 (fun i a r ha hr => ?_) (fun r h => h) hs) fun r h => dso_weak hr h
  obtain ⟨r', h1, h2⟩ := step i a ha
  refine ⟨r', fun x σ F G H Q S dx q => h1 x σ F G H Q (S.weak hr.weak.1 hr.weak.2) dx q, h2⟩
theorem dso_ret (hv : PE X (.Name x p1) (tVar i)) (hi : ρ[i]? = some sl) (ho : sl.isOwn = true) : DSO X [.Return (some (.Name x p1)) pos] ρ sl :=
  pss_imp (pss_one (ps_ret hv)) fun D σ H ⟨F, G, S, q⟩ => by
    obtain ⟨p, b, e1, e2, e3, e4, e5, e6⟩ := SlOk.own ho (S.at_ i sl hi)
    exact ⟨.ref p, e1, q p b G H S.grow e4 e3 e2 e6⟩
end
section
variable {P : Program} {w : World} {K : PySem.W.Frag} {mg : Str → Option Value} {base : Heap} {x qual : Str} {st : Stmt} {f : Addr} {fd : FuncData} {N ps : List Str} {k : Nat}
theorem fnO {R : List PyData → Sl → Prop} (F : Fun K x qual st f fd) (S : FnScope N ps (defScope st)) (hl : ∀ ds d, R ds d → ds.length = ps.length)
    (hb : ∀ (cdv : Value) (A : Around) (outer : List PySem.Env) (s : Shared) (H : Hp) (E : XK), Room k (A.deeper (envOfC qual (defScope st) s.heap.objs.size f cdv)) → ∀ ds sl, R ds sl →
      DSO (cxN P w K mg base N qual st f cdv A outer s H E) (defBody st) (ini N ds) sl) : FnOk P w K mg base CX0 (k + 1) f fd ps (spO w K R) := by
  refine F.ok S (fun vs H Q E ⟨G, ds, d, _, r, h, _⟩ => by rw [r.length]; exact hl ds d h) fun cdv A outer s H vs Q E hr ⟨G, ds, d, sg, r, h, q⟩ => ⟨_, hb cdv A outer s H E hr ds d h, ?_⟩
  exact ⟨⟨G, H, none⟩, G, st_ini sg r, fun p b G' H' g h1 h2 h3 h4 => q p b G' H' g h1 h2 h3 h4⟩
end
section
variable {X : Cx} {ρ : Env} {e o : Expr} {pos : Pos} {sl : Sl}
theorem do_call {CX : CXT} {k : Nat} {f : Addr} {fd : FuncData} {ps : List Str} {R : List PyData → Sl → Prop} {E : XK} {x : Str} {es : List Expr} {ds : List PyData} {p : Pos} (F : FnOk X.prog X.w X.K X.mg X.base CX k f fd ps (spO X.w X.K R)) (hr : Room k X.A) (hg : Gl X x) (hm : X.mg x = some (.ref f))
    (hk : PySem.W.keepIn X.K (.ref f) = true) (hb : Binds X.K fd ps []) (hx : Passes CX X E) (ha : DA X (e :: es) ρ ds) (h : R ds sl) (hdb : (x == ("__debug__" : Str)) = false := by decide) (he : starEach (e :: es) X.env = (false, eval e X.env) :: starEach es X.env := by rfl) (hpl : (backTo pos (starEach es X.env)).any (·.1) = false := by rfl) : DO X (.Call (.Name x p) (e :: es) [] pos) ρ sl :=
  pe_imp (pe_call F hr hg hm hk hb .nil hx ha hdb he hpl) fun σ H Q ⟨G, s, env, q⟩ => ⟨G, s, env, fun vs G1 H1 g1 dvs => ⟨G1, ds, sl, g1.s, by rw [List.append_nil]; exact dvs, h, fun p b G' H' g h1 h2 h3 h4 => q p b G' H' (g1.trans g) (g1.h.free h1) h2 h3 h4⟩⟩
/-- o.index(e) -/
theorem de_index {α : Type} [DecidableEq α] [Datum α] {a : α} {bs : List α} {p2 p3 : Pos} (hu : X.A.units + 65 < cLine) (hd : Datum.depth α ≤ 60) (ho : DE X o ρ (.list (bs.map Datum.toD))) (he : DE X e ρ (Datum.toD a)) (hm : a ∈ bs) (hz : bs.length ≤ sizeLine)
    (hbase : attributeBase o "index" X.env (eval o X.env) = eval o X.env := by rfl)
    (hfew : ((backTo p3 (starEach [e] X.env)).all (fun x => !x.1) && (backToKw p3 (keywordEach [] X.env)).all (fun x => x.1.isSome)
      && decide (([e] : List Expr).length + ([] : List Keyword).length + (if ([] : List Keyword).isEmpty then 0 else 1) < 30)) = true := by rfl)
    (hline : (p2.endLine == p3.line) = true := by rfl) (hst : starEach [e] X.env = (false, eval e X.env) :: starEach [] X.env := by rfl) (hplain : (backTo p3 (starEach [] X.env)).any (·.1) = false := by rfl) :
    DE X (.Call (.Attribute o "index" p2) [e] [] p3) ρ (.int (bs.idxOf a : Nat)) :=
  pe_imp (pe_bm F.plainAttrs_list F.slot_list_index F.type_list_index (mt_idxD (α := α) hu hd) ho (pa_cons he pa_nil hst) hbase hfew hline hst hplain) fun σ H Q ⟨G, s, env, q⟩ => ⟨G, s, env, fun x G1 H1 g1 dx => by
    cases dx with
    | lst hx rx =>
      refine ⟨.inl ⟨rfl, _, .inl (.inl (g1.s _ _ hx))⟩, G1, g1.s, env.mono g1.g, fun y G2 H2 g2 dy => ?_⟩
      exact ⟨_, y, G2, a, bs, rfl, rfl, g2.s, .lst (g2.g _ _ hx) (rx.mono g2.g), dy, hm, hz, q _ G2 H2 (g1.trans g2) (.int _)⟩⟩
end
end K64

/-! ## K64Net -/
/-! repr; nets. -/
namespace K64
open PySem PySem.Spec PyProof.Rows L2 PySem.W
/-! ### repr -/
def rRepr (w : World) (K : PySem.W.Frag) : List V → Hp → VK → Prop := fun xs H Q => ∃ (a : Addr) (G : Hp) (d : PyData), xs = [.ref a] ∧ Same G H ∧ Dx w K G (.ref a) d ∧ d.plain = true ∧ d.showable = true ∧ d.hasDict = false ∧ d.depth ≤ 60 ∧ d.shown.length ≤ sizeLine ∧ Q (.str d.shown) H
section
variable {X : Cx} {w : World} {K : PySem.W.Frag}
theorem call_reprD (hgd : X.A.guards = some []) (hu : X.A.units + 64 < cLine) : CallR X (.builtin "repr") (rRepr X.w X.K) := by
  intro pins s σ H xs us Q I r h
  obtain ⟨a, G, d, rfl, sg, dx, hp, hs, hd, h60, hz, q⟩ := h
  obtain ⟨u, rfl, ru⟩ := r.one
  obtain ⟨as, ra⟩ := dx_reads I sg dx hp ru
  cases ru
  exact repr_of_reads' ra hs (fun e => by rw [hd] at e; cases e) hgd (by omega) (fun _ _ e => e) (fun h' u tk hk => ⟨.str d.shown, H, I.kept hk, ⟨_, rfl⟩, q⟩) hz
theorem rdc_repr {ds : List PyData} (hp : PyData.plain (.list ds) = true) (hs : PyData.showable (.list ds) = true) (hd : PyData.hasDict (.list ds) = false) (h60 : PyData.depth (.list ds) ≤ 60) (hz : (PyData.list ds).shown.length ≤ sizeLine) : RDC w K (rRepr w K) [.list ds] (.str (PyData.list ds).shown) := fun xs G H Q s dx q => by
  cases dx with
  | cons d1 dr =>
    cases dr
    cases d1 with
    | lst hx rx => exact ⟨_, G, _, rfl, s, .lst hx rx, hp, hs, hd, h60, hz, q _ G H (.refl s) (.str _)⟩
end
/-! ### nets -/
/-- what is known of the class -/
structure NetK (K : PySem.W.Frag) : Prop where
  cls : Cls K (netC K)
  size : NoAttr K (netC K) "own_size"
  ties : NoAttr K (netC K) "own_ties"
  known : NoAttr K (netC K) "own_known"
  ha : PySem.W.findIn K (.ref (netC K)) "__class__" = some (some (.builtin "object.__class__"))
  hn : PySem.W.specialIn K (.builtin "object.__class__") "__get__" = some (some (.builtin "getset_descriptor.__get__"))
  htk : PySem.W.takesIn K (.builtin "object.__class__") = some true
  hm : PySem.W.mroIn K (netC K) (.type "object") = some true
theorem net_inv {w : World} {K : PySem.W.Frag} {G : Hp} {v : V} {n : Int} {ties : List PyData} (h : Dx w K G v (netD n ties)) : ∃ (a dx : Addr) (v' k : V), v = .ref a ∧ G a = some (.ins (netC K) dx [("own_size", .int n), ("own_ties", v'), ("own_known", k)]) ∧ Dx w K G v' (.tuple ties) := by
  generalize e : netD n ties = d at h
  cases h with
  | net h r =>
    cases e
    exact ⟨_, _, _, _, rfl, h, r⟩
  | dk h r _ =>
    cases e
    obtain ⟨k, hk⟩ := dxk_key r _ (List.mem_cons_self ..)
    cases k <;> cases hk
  | dn h r =>
    cases e
    cases r with
    | cons _ hk _ _ _ => cases hk
  | scr h => cases e
  | _ => cases e
theorem scr_inv {w : World} {K : PySem.W.Frag} {G : Hp} {v : V} {ns : List Int} (h : Dx w K G v (scrD ns)) : ∃ a : Addr, v = .ref a ∧ SqL K G a (ns.map V.int) := by
  generalize e : scrD ns = d at h
  cases h with
  | net h r => cases e
  | dk h r _ =>
    cases e
    obtain ⟨k, hk⟩ := dxk_key r _ (List.mem_cons_self ..)
    cases k <;> cases hk
  | dn h r =>
    cases e
    cases r with
    | cons _ hk _ _ _ => cases hk
  | @scr a ms h =>
    have e1 : ns.map PyData.int = ms.map PyData.int := by
      injection e with e
      injection e with e _
      injection e with _ e
      injection e
    have inj : ∀ {l m : List Int}, l.map PyData.int = m.map PyData.int → l = m := by
      intro l
      induction l with
      | nil => intro m h; cases m with
        | nil => rfl
        | cons _ _ => cases h
      | cons x l ih => intro m h; cases m with
        | nil => cases h
        | cons y m =>
          rw [List.map_cons, List.map_cons] at h
          injection h with h1 h2
          injection h1 with h1
          rw [h1, ih h2]
    rw [inj e1]
    exact ⟨_, rfl, h⟩
  | _ => cases e
section
variable {X : Cx} {ρ : Env} {a e : Expr} {pos : Pos} {n : Int} {ties : List PyData}
/-- isinstance(a, Net), a net -/
theorem de_isNet {p p1 : Pos} (N : NetK X.K) (ha : DE X a ρ (netD n ties)) (hg : Gl X "isinstance") (hm : X.mg "isinstance" = none) (hgx : Gl X "Net") (hmx : X.mg "Net" = some (.ref (netC X.K)))
    (he : starEach [a, .Name "Net" p1] X.env = (false, eval a X.env) :: starEach [.Name "Net" p1] X.env := by rfl) (he2 : starEach [.Name "Net" p1] X.env = (false, eval (.Name "Net" p1) X.env) :: starEach [] X.env := by rfl) (hpl : (backTo pos (starEach [.Name "Net" p1] X.env)).any (·.1) = false := by rfl) :
    DE X (.Call (.Name "isinstance" p) [a, .Name "Net" p1] [] pos) ρ (.bool true) :=
  pe_imp (pe_callB call_isi hg hm (by decide +kernel) (pa_cons ha (pa_cons (pe_glob (v := .ref (netC X.K)) hgx hmx rfl (by decide)) pa_nil he2) he) (by decide) (by decide) he hpl) fun σ H Q ⟨G, s, env, q⟩ => ⟨G, s, env, fun v G1 H1 g1 dv => by
    obtain ⟨x, dx, v', k, rfl, h, r⟩ := net_inv dv
    exact ⟨_, .ref (netC X.K), .ref (netC X.K), .ref (netC X.K), true, rfl, .own _, .base (.ins (g1.s _ _ h) N.cls N.ha N.hn N.htk N.hm), (if_pos (beq_self_eq_true _)), q _ G1 H1 g1 (.bl _)⟩⟩
theorem de_ownSize (N : NetK X.K) (ha : DE X a ρ (netD n ties)) (hb : attributeBase a "own_size" X.env (eval a X.env) = eval a X.env := by rfl) : DE X (.Attribute a "own_size" pos) ρ (.int n) :=
  pe_imp (pe_fld ha hb) fun σ H Q ⟨G, s, env, q⟩ => ⟨G, s, env, fun v G1 H1 g1 dv => by
    obtain ⟨x, dx, v', k, rfl, h, r⟩ := net_inv dv
    exact ⟨x, _, dx, _, .int n, rfl, g1.s _ _ h, N.cls, N.size, rfl, q _ G1 H1 g1 (.int _)⟩⟩
theorem de_ownTies (N : NetK X.K) (ha : DE X a ρ (netD n ties)) (hb : attributeBase a "own_ties" X.env (eval a X.env) = eval a X.env := by rfl) : DE X (.Attribute a "own_ties" pos) ρ (.tuple ties) :=
  pe_imp (pe_fld ha hb) fun σ H Q ⟨G, s, env, q⟩ => ⟨G, s, env, fun v G1 H1 g1 dv => by
    obtain ⟨x, dx, v', k, rfl, h, r⟩ := net_inv dv
    exact ⟨x, _, dx, _, v', rfl, g1.s _ _ h, N.cls, N.ties, rfl, q _ G1 H1 g1 r⟩⟩
/-- a.f, a property whose getter reads the net -/
theorem de_prop {f : Str} {p g : Addr} {k : Nat} {fd : FuncData} {ps : List Str} {d : PyData} {Rn : List PyData → PyData → Prop} (N : NetK X.K) (hp : PropOf X.K (netC X.K) f p g) (F : FnOk X.prog X.w X.K X.mg X.base CX0 k g fd ps (spD X.w X.K Rn)) (hr : Room (k + 1) X.A) (hb : Binds X.K fd ps [])
    (ha : DE X a ρ (netD n ties)) (h : Rn [netD n ties] d) (hx : Passes CX0 X.nox E0) (hab : attributeBase a f X.env (eval a X.env) = eval a X.env := by rfl) : DE X (.Attribute a f pos) ρ d :=
  pe_imp (pe_prop ha N.cls hp F hr hb .nil hx hab) fun σ H Q ⟨G, s, env, q⟩ => ⟨G, s, env, fun v G1 H1 g1 dv => by
    obtain ⟨x, dx, v', k, rfl, hx, r⟩ := net_inv dv
    exact ⟨x, dx, _, rfl, g1.s _ _ hx, G1, [netD n ties], d, g1.s, .cons (.net hx r) .nil, h, fun v G' H' g dv => q v G' H' (g1.trans g) dv⟩⟩
/-- __init__ fills the new object -/
def spInit (w : World) (K : PySem.W.Frag) (Rn : Int → List PyData → Prop) : Sp := fun vs H Q _ => ∃ (G : Hp) (x dx : Addr) (n : Int) (ties : List PyData) (v : V), vs = [.ref x, .int n, v] ∧ Same G H ∧ G x = none ∧ H x = some (.ins (netC K) dx []) ∧ Dx w K G v (.tuple ties) ∧ Rn n ties ∧
  ∀ k H', (∀ a o, a ≠ x → H a = some o → H' a = some o) → H' x = some (.ins (netC K) dx [("own_size", .int n), ("own_ties", v), ("own_known", k)]) → Q .non H'
/-- Net(a, e) -/
theorem de_make {f : Addr} {k : Nat} {fd : FuncData} {ps : List Str} {p : Pos} {Rn : Int → List PyData → Prop} (M : Mk X.K (netC X.K) f) (F : FnOk X.prog X.w X.K X.mg X.base CX0 k f fd ps (spInit X.w X.K Rn)) (hr : Room (k + 1) X.A) (hg : Gl X "Net") (hmx : X.mg "Net" = some (.ref (netC X.K))) (hb : Binds X.K fd ps [])
    (ha : DA X [a, e] ρ [.int n, .tuple ties]) (hR : Rn n ties) (hx : Passes CX0 X E0) (he : starEach [a, e] X.env = (false, eval a X.env) :: starEach [e] X.env := by rfl) (hpl : (backTo pos (starEach [e] X.env)).any (·.1) = false := by rfl) :
    DE X (.Call (.Name "Net" p) [a, e] [] pos) ρ (netD n ties) :=
  pe_imp (pe_make M F hr hg hmx hb .nil hx ha (by decide) he hpl) fun σ H Q ⟨G, s, env, q⟩ => ⟨G, s, env, fun vs G1 H1 g1 dvs x dx hnx hndx hne => by
    cases dvs with
    | cons d1 dr =>
      cases dr with
      | cons d2 dr =>
        cases dr
        cases d1
        have x1 : Same H1 (upd (upd H1 dx (.own x)) x (.ins (netC X.K) dx [])) := fun a o h => by
          rw [upd_ne (ne_of_none h hnx), upd_ne (ne_of_none h hndx)]
          exact h
        refine ⟨G1, x, dx, n, ties, _, rfl, g1.s.trans x1, g1.s.free hnx, upd_same, d2, hR, fun k H' hk hx' => ⟨rfl, ?_⟩⟩
        have sH : Same H1 H' := fun a o h => hk a o (ne_of_none h hnx) (x1 a o h)
        have gx : G1 x = none := g1.s.free hnx
        refine q (.ref x) (upd G1 x (.ins (netC X.K) dx [("own_size", .int n), ("own_ties", _), ("own_known", k)])) H' (g1.trans ⟨same_new gx, sH, same_frz (g1.s.trans sH) hx', fun a e1 e2 => ?_⟩) (.net upd_same (d2.mono (same_new gx)))
        rw [upd_ne fun z => e2 (by rw [z]; exact hnx)]
        exact e1⟩
end
end K64

/-! ## K64Guard -/
/-! Defs that may be called only where no repr is under way. -/
namespace K64
open PySem PySem.Spec PyProof.Rows L2
structure FnG (P : Program) (w : World) (K : PySem.W.Frag) (mg : Str → Option Value) (base : Heap) (CX : CXT) (k : Nat) (f : Addr) (fd : FuncData) (ps : List Str) (sp : Sp) : Prop where
  len : ∀ vs H Q E, sp vs H Q E → vs.length = ps.length
  run : ∀ (A : Around) (outer : List PySem.Env) (s : Shared) (H : Hp) (args : Args) (us : List Value) (vs : List V) (Q : VK) (E : XK), A.guards = some [] → Room k A → Env0 P w K mg base A outer s H → BindsTo s fd args (ps.zip us) → Vals vs us → sp vs H Q E →
    codeAny (model P w) A (.call (.ref f) args) (CR CX outer P w H s Q E) s
theorem FnG.mono {P : Program} {w : World} {K : PySem.W.Frag} {mg : Str → Option Value} {base : Heap} {CX : CXT} {j k : Nat} {f : Addr} {fd : FuncData} {ps : List Str} {sp : Sp} (F : FnG P w K mg base CX j f fd ps sp) (h : j ≤ k) :
    FnG P w K mg base CX k f fd ps sp := ⟨F.len, fun A outer s H args us vs Q E hg hr => F.run A outer s H args us vs Q E hg (hr.mono h)⟩
theorem fn_ofG {CX : CXT} {P : Program} {w : World} {K : PySem.W.Frag} {mg : Str → Option Value} {base : Heap} {k : Nat} {f : Addr} {name qual : Str} {params : Arguments} {body : List Stmt} {scope : Scope} {dV kV doc pm cdv ct oc : Value} {an od : Option Addr}
    {osl : Array (Option Value)} {N ps : List Str} {sp : Sp} (lk : K.lookup f = some ⟨oc, od, .func (PySem.W.fnOf name qual params body scope dV kV doc pm an cdv ct), osl⟩) (hcd : PySem.W.codeIn K cdv qual = true) (S : FnScope N ps scope)
    (len : ∀ vs H Q E, sp vs H Q E → vs.length = ps.length)
    (hbody : ∀ (A : Around) (outer : List PySem.Env) (s : Shared) (H : Hp) (vs : List V) (Q : VK) (E : XK), A.guards = some [] → Room k (A.deeper (envOfC qual scope s.heap.objs.size f cdv)) → sp vs H Q E →
      ∃ t, PSs (cxOf CX P w K mg base N qual scope f cdv A outer s H E) body t ∧ t { nx := fun _ H' => Q .non H', rt := Q } (start N vs) H) :
    FnG P w K mg base CX (k + 1) f (PySem.W.fnOf name qual params body scope dV kV doc pm an cdv ct) ps sp := by
  refine ⟨len, fun A outer s H args us vs Q E hgd hr e0 hb r hsp => ?_⟩
  have hl := len _ _ _ _ hsp
  have KX : K.In s.heap := e0.mod.kin.keeps fun b o e => (e0.bs b o e).1
  have lim : s.heap.NoLimit := e0.mod.nolimit.keeps fun b o e => (e0.bs b o e).1
  have hkind : ∀ y ∈ ps.zip us, scope.names.lookup y.1 = some .local ∨ (scope.names.lookup y.1 = some .cell ∧ ((cellsFrom (s.heap.objs.size + 1) scope.names []).lookup y.1).isSome = true) := fun ⟨n, v⟩ hy => by
    rcases S.par n (List.of_mem_zip hy).1 with q | q
    · exact .inl q
    · exact .inr ⟨q, PySem.W.cellsFrom_some _ _ _ (.inl q)⟩
  refine codeAny_call_function hr.depth (KX _ _ lk) rfl S.co S.gen rfl (PySem.W.codeRec_of KX hcd) (hb _ _ _ _ ?_)
  refine wpAny_newFunctionEnv_cells S.kind hkind fun env he s1 x => ?_
  subst he
  refine ⟨lim.keeps x.toInCall.keep, codeAny_func ?_⟩
  obtain ⟨t, ht, hq⟩ := hbody A outer s H vs Q E hgd (hr.deeper _) hsp
  have I : Inv (cxOf CX P w K mg base N qual scope f cdv A outer s H E) [] (start N vs) H s1 := inv_start S hr.hd e0 hl r x
  refine wpAny_mono (ht.run [] s1 (start N vs) H _ I hq) (fun fl s' hs => ?_) fun e s' hs => hs
  have fin : ∀ {σ' : L2.St} {H' : Hp} {v : V} {u : Value}, Inv (cxOf CX P w K mg base N qual scope f cdv A outer s H E) [] σ' H' s' → RelV v u → Q v H' → CE outer P w H s Q u s' :=
    fun {σ' H' v u} J rv q => ⟨v, H', J.os, J.bare, J.base, J.hok, rv, q⟩
  cases fl with
  | ret u =>
    obtain ⟨v, σ', H', J, rv, q⟩ := hs
    exact fin J rv q
  | next =>
    obtain ⟨σ', H', J, q⟩ := hs
    exact fin (v := V.non) (u := Value.none) J rfl q
  | brk =>
    obtain ⟨_, _, _, q⟩ := hs
    exact False.elim q
  | cont =>
    obtain ⟨_, _, _, q⟩ := hs
    exact False.elim q
theorem Fun.okG {K : PySem.W.Frag} {x qual : Str} {st : Stmt} {f : Addr} {fd : FuncData} {P : Program} {w : World} {mg : Str → Option Value} {base : Heap} {N ps : List Str} {k : Nat} {sp : Sp} (F : Fun K x qual st f fd) (S : FnScope N ps (defScope st)) (len : ∀ vs H Q E, sp vs H Q E → vs.length = ps.length)
    (hbody : ∀ (cdv : Value) (A : Around) (outer : List PySem.Env) (s : Shared) (H : Hp) (vs : List V) (Q : VK) (E : XK), A.guards = some [] → Room k (A.deeper (envOfC qual (defScope st) s.heap.objs.size f cdv)) → sp vs H Q E →
      ∃ t, PSs (cxOf CX0 P w K mg base N qual (defScope st) f cdv A outer s H E).nox (defBody st) t ∧ t { nx := fun _ H' => Q .non H', rt := Q } (start N vs) H) : FnG P w K mg base CX0 (k + 1) f fd ps sp := by
  obtain ⟨oc, od, kV, doc, pm, an, cdv, ct, osl, rfl, lk, hcd⟩ := F.ex
  refine fn_ofG lk hcd S len fun A outer s H vs Q E hg hr hsp => ?_
  obtain ⟨t, h, q⟩ := hbody cdv A outer s H vs Q E hg hr hsp
  exact ⟨t, h.nox, q⟩
section
variable {X : Cx} {CX : CXT} {k : Nat} {f : Addr} {fd : FuncData} {ps : List Str} {sp : Sp} {dvs : List V} {ds : List Value} {E : XK} {x : Str} {p pos : Pos} {e : Expr} {es : List Expr} {t : TA}
theorem pe_callG (F : FnG X.prog X.w X.K X.mg X.base CX k f fd ps sp) (hgd : X.A.guards = some []) (hr : Room k X.A) (hg : Gl X x) (hm : X.mg x = some (.ref f)) (hk : PySem.W.keepIn X.K (.ref f) = true) (hb : Binds X.K fd ps ds) (hd : Vals dvs ds) (hx : Passes CX X E)
    (ha : PA X (e :: es) t) (hdb : (x == ("__debug__" : Str)) = false := by decide) (he : starEach (e :: es) X.env = (false, eval e X.env) :: starEach es X.env := by rfl) (hpl : (backTo pos (starEach es X.env)).any (·.1) = false := by rfl) :
    PE X (.Call (.Name x p) (e :: es) [] pos) (tCall sp dvs E t) := by
  refine ⟨fun pins s σ H Q I h => ?_⟩
  refine wpAny_Call_Name_kw (ld_glob I hg hm ?_ hdb)
  refine PySem.W.callWith_K (h₀ := X.base) I.ok.mod.kin hk (thn (ha.run pos pins s σ H _ I h) fun us s1 ⟨vs, H1, I1, r, q⟩ => ⟨I1.kIn, ?_⟩) he hpl
  have r2 : Vals (vs ++ dvs) (us ++ ds) := r.append hd
  have hl : (us ++ ds).length = ps.length := by rw [← r2.length]; exact F.len _ _ _ _ q
  refine wpAny_call (codeAny_mono (F.run X.A X.stack s1 H1 ⟨us, []⟩ (us ++ ds) (vs ++ dvs) Q E hgd hr I1.env0 (hb s1 us I1.kIn hl) r2 q) fun r s' hq => ?_)
  cases r with
  | error e => exact hx pins σ H1 s1 e s' I1 hq
  | ok fl =>
    cases fl with
    | ret u => exact I1.after hq
    | next => exact False.elim hq
    | brk => exact False.elim hq
    | cont => exact False.elim hq
end
/-! ### the end -/
theorem law_callG {P : Program} {w : World} {K : PySem.W.Frag} {mg mb : Str → Option Value} {CX : CXT} {k : Nat} {fa a : Addr} {fd : FuncData} {x : Str} {sp : Sp} {s₁ : Shared} {vs : List Value} {ns : List Int}
    (KX : K.In s₁.heap) (hns : s₁.heap.Ns mainGlobals mg) (hb : s₁.heap.Ns builtinsNs mb) (hbb : ∀ x : Str, x ≠ "__name__" → mb x = bootBuiltins x) (hlim : s₁.heap.NoLimit) (hg : s₁.gens = #[])
    (ha : s₁.heap.get? a = some { cls := .type "list", data := .seq vs.toArray }) (hi : IntsAre vs ns) (hl : ns.length ≤ sizeLine) (hr : Room k callerA)
    (F : ∀ base : Heap, K.In base → base.Ns mainGlobals mg → FnG P w K mg base CX k fa fd [x] sp) (hbind : ∀ (s : Shared) (u : Value), BindsTo s fd ⟨[u], []⟩ [(x, u)])
    (hsp : ∀ H : Hp, Only H → SqL K H a (ns.map V.int) → sp [.ref a] H (fun v _ => v = .bl true) fun _ _ _ => False)
    (hCX : ∀ H e s', CX [] H s₁ (fun _ _ _ => False) e s' → False) :
    codeAny (model P w) callerA (.call (.ref fa) ⟨[.ref a], []⟩) (fun r s' => r = .ok (.ret (.bool true)) ∧ OldK s₁.heap s'.heap ∧ s'.os = s₁.os ∧ AllBare s'.gens) s₁ := by
  have rv := vals_ints hi
  have lenV := hi.length
  -- from an abstract heap in which nothing but the script may be tracked
  have core : ∀ H : Hp, Only H → SqL K H a (ns.map V.int) → HOk P w H s₁.heap → (∀ b, H b ≠ none → b = a) → (H a ≠ none → K.lookup a = none) →
      codeAny (model P w) callerA (.call (.ref fa) ⟨[.ref a], []⟩) (fun r s' => r = .ok (.ret (.bool true)) ∧ OldK s₁.heap s'.heap ∧ s'.os = s₁.os ∧ AllBare s'.gens) s₁ := by
    intro H hO hS hok hA hK
    have base_of : ∀ {b : Addr} {o : Obj}, s₁.heap.get? b = some o → H b = none → (hidT s₁.heap H).get? b = some o := fun e n => hidT_get e n
    have noA : ∀ {b : Addr} {o : Obj} {es : Array DictEntry} {ep : Nat}, s₁.heap.get? b = some o → o.data = .dict es ep → H b = none := fun {b o es ep} e d => by
      cases q : H b with
      | none => rfl
      | some u =>
        have e' : b = a := hA b (by rw [q]; simp)
        subst e'
        rw [ha] at e; cases e
        have d' : Data.seq vs.toArray _ = Data.dict es ep := d
        cases d'
    have nsK : ∀ {b : Addr} {m : Str → Option Value}, s₁.heap.Ns b m → (hidT s₁.heap H).Ns b m := fun {b m} ⟨o, es, ep, e, d, r⟩ => ⟨o, es, ep, base_of e (noA e d), d, r⟩
    have hKb : K.In (hidT s₁.heap H) := fun b o e => base_of (KX b o e) (by
      cases q : H b with
      | none => rfl
      | some u =>
        have e' : b = a := hA b (by rw [q]; simp)
        subst e'
        rw [hK (by rw [q]; simp)] at e; cases e)
    have hM : Mod K mg (hidT s₁.heap H) := ⟨hKb, nsK hns, ⟨mb, nsK hb, hbb⟩, let ⟨mc, h1, h2⟩ := hlim; ⟨mc, nsK h1, h2⟩⟩
    have e0 : Env0 P w K mg (hidT s₁.heap H) callerA [] s₁ H := ⟨rfl, hM, fun b o e => of_hidT e, Nat.le_of_eq (hidT_size _ _), trivial, fun b hb => absurd (show b ∈ ([] : List Addr) from hb) (by simp), hok, .of_eq hg⟩
    refine codeAny_mono ((F _ hKb (nsK hns)).run callerA [] s₁ H ⟨[.ref a], []⟩ [.ref a] [.ref a] _ _ rfl hr e0 (hbind s₁ (.ref a)) (.cons rfl .nil) (hsp H hO hS)) fun r s' h => ?_
    cases r with
    | error e => exact (hCX H e s' h).elim
    | ok fl =>
      cases fl with
      | next => exact False.elim h
      | brk => exact False.elim h
      | cont => exact False.elim h
      | ret u =>
        obtain ⟨v, H', os, bare, un, hok', r', q⟩ := h
        have q' : v = .bl true := q
        subst q'
        obtain rfl : u = Value.bool true := r'
        refine ⟨rfl, OldK.of_keep fun b o e => ?_, os, bare⟩
        cases q : H b with
        | none => exact un.keep b o e q (by intro z; exact absurd (show b ∈ ([] : List Addr) from z) (by simp)) (by simp)
        | some u =>
          rcases hO b with z | ⟨ob, xs, z⟩
          · rw [q] at z; cases z
          · have z2 := un.frzs b ob _ z
            obtain ⟨e1, _⟩ := hok b _ z
            obtain ⟨e2, _⟩ := hok' b _ z2
            rw [e] at e1; cases e1
            exact e2
  cases hk : K.lookup a with
  | some o =>
    -- the script is one of the module's own objects
    have e := KX a o hk
    rw [ha] at e
    cases e
    refine core (fun _ => none) (fun _ => .inl rfl) (.inr ⟨_, vs.toArray, _, hk, rfl, rfl, rfl, by rw [List.size_toArray, lenV]; exact hl, by simpa using rv⟩) (fun b u z => by have z' : (none : Option HO) = some u := z; cases z') (fun b z => absurd rfl z) fun z => absurd rfl z
  | none =>
    refine core (fun b => if b = a then some (.frz { cls := .type "list", data := .seq vs.toArray } (.lst (ns.map V.int))) else none) (fun b => ?_) (.inl (.inr ⟨{ cls := .type "list", data := .seq vs.toArray }, if_pos rfl⟩)) (fun b u z => ?_) (fun b z => ?_) fun _ => hk
    · by_cases hb : b = a
      · exact .inr ⟨_, _, if_pos hb⟩
      · exact .inl (if_neg hb)
    · by_cases hb : b = a
      · have z' := (if_pos hb).symm.trans z
        cases z'
        subst hb
        exact ⟨ha, by rw [List.length_map]; exact hl, vs, _, rv, ha⟩
      · have z' := (if_neg hb).symm.trans z
        cases z'
    · by_cases hb : b = a
      · exact hb
      · exact absurd (if_neg hb) z
theorem walk_ofG {l : PySem.W.OpenLaw} {n k : Nat} {q : Program} {loose : List Str} {XP : (Str → Option Value) → Heap → Prop} {YP : World → Heap → Prop} {d : DefRec} {CX : CXT} {x : Str}
    (hn : l.most = some n) (hn2 : n ≤ sizeLine) (hdf : d.params.defaults = []) (hr : Room k callerA)
    (F : ∀ (w : World) (mg : Str → Option Value) (fa : Addr) (h : Heap), YP w h → h.Ns mainGlobals mg → mg d.name = some (.ref fa) →
      ∃ (K : PySem.W.Frag) (fd : FuncData) (sp : Sp), K.In h ∧ (∀ (s : Shared) (u : Value), BindsTo s fd ⟨[u], []⟩ [(x, u)]) ∧
        (∀ (H : Hp) (a : Addr) (ns : List Int), ns.length ≤ n → Only H → SqL K H a (ns.map V.int) → sp [.ref a] H (fun v _ => v = .bl true) fun _ _ _ => False) ∧
        ∀ base : Heap, K.In base → base.Ns mainGlobals mg → FnG l.prog w K mg base CX k fa fd [x] sp)
    (hCX : ∀ (H : Hp) (s : Shared) (e : Value) (s' : Shared), CX [] H s (fun _ _ _ => False) e s' → False) :
    PySem.W.WalkO q loose XP YP l.row.toRowW d [] (fun f vs => PySem.call f vs) := by
  refine Att.attach_call hn hdf fun w s₀ s₁ mg mb fa o pm cd doc a vs ns G Y ho hd hcd hmg hobj hints hlen hg => ?_
  obtain ⟨K, fd, sp, KX, hb, hsp, hF⟩ := F w mg fa _ Y G.T.g hmg
  exact law_callG KX G.T.g G.T.b G.T.builtins G.T.nolimit hg hobj hints (Nat.le_trans hlen hn2) hr hF hb (fun H hO hS => hsp H a ns hlen hO hS) fun H e s' => hCX H s₁ e s'
/-! ### over data -/
section
variable {P : Program} {w : World} {K : PySem.W.Frag} {mg : Str → Option Value} {base : Heap} {x qual : Str} {st : Stmt} {f : Addr} {fd : FuncData} {N ps : List Str} {k : Nat}
/-- a def that only reads, guards known -/
theorem fnGD {R : List PyData → PyData → Prop} (F : Fun K x qual st f fd) (S : FnScope N ps (defScope st)) (hl : ∀ ds d, R ds d → ds.length = ps.length)
    (hb : ∀ (cdv : Value) (A : Around) (outer : List PySem.Env) (s : Shared) (H : Hp) (E : XK), A.guards = some [] → Room k (A.deeper (envOfC qual (defScope st) s.heap.objs.size f cdv)) → ∀ ds d, R ds d →
      DS (cxN P w K mg base N qual st f cdv A outer s H E) (defBody st) (ini N ds) (fun _ => d = .none) (fun y _ => y = d)) : FnG P w K mg base CX0 (k + 1) f fd ps (spD w K R) := by
  refine Fun.okG F S (fun vs H Q E ⟨G, ds, d, _, r, h, _⟩ => by rw [r.length]; exact hl ds d h) fun cdv A outer s H vs Q E hg hr ⟨G, ds, d, sg, r, h, q⟩ => ⟨_, hb cdv A outer s H E hg hr ds d h, ?_⟩
  refine ⟨⟨G, H, none⟩, G, st_ini sg r, fun ρ' σ' G' H' e S' s' => ?_, fun v y ρ' σ' G' H' e S' s' dx => ?_⟩
  · subst e
    exact q .non G' H' S'.grow .non
  · subst e
    exact q v G' H' S'.grow dx
theorem fnGK {Pre : List PyData → Prop} {R : List PyData → PyData → Prop} (F : Fun K x qual st f fd) (S : FnScope N ps (defScope st)) (hl : ∀ ds, Pre ds → ds.length + 1 = ps.length)
    (hb : ∀ (cdv : Value) (A : Around) (outer : List PySem.Env) (s : Shared) (H : Hp) (E : XK), A.guards = some [] → Room k (A.deeper (envOfC qual (defScope st) s.heap.objs.size f cdv)) → ∀ ds, Pre ds →
      DS (cxN P w K mg base N qual st f cdv A outer s H E) (defBody st) (iniK N ds) (fun _ => R ds .none) (fun y _ => R ds y)) : FnG P w K mg base CX0 (k + 1) f fd ps (spK w K Pre R) := by
  refine Fun.okG F S (fun vs H Q E ⟨G, k', ws, ds, e, _, _, _, r, h, _⟩ => by rw [e, List.length_cons, r.length]; exact hl ds h) fun cdv A outer s H vs Q E hg hr ⟨G, k', ws, ds, e, sg, hG, hk, r, h, q⟩ => ⟨_, hb cdv A outer s H E hg hr ds h, ?_⟩
  subst e
  refine ⟨⟨G, del H k', some k'⟩, G, st_iniK sg hG hk r, fun ρ' σ' G' H' e S' s' => ?_, fun v y ρ' σ' G' H' e S' s' dx => ?_⟩
  · obtain ⟨_, a, b⟩ := S'.sack k' rfl
    exact q .non .none G' H' e S'.grow a b .non
  · obtain ⟨_, a, b⟩ := S'.sack k' rfl
    exact q v y G' H' e S'.grow a b dx
end
section
variable {X : Cx} {ρ : Env} {pos : Pos} {e : Expr}
theorem de_callG {CX : CXT} {k : Nat} {f : Addr} {fd : FuncData} {ps : List Str} {R : List PyData → PyData → Prop} {E : XK} {x : Str} {es : List Expr} {ds : List PyData} {d : PyData} {p : Pos} (F : FnG X.prog X.w X.K X.mg X.base CX k f fd ps (spD X.w X.K R)) (hgd : X.A.guards = some []) (hr : Room k X.A) (hg : Gl X x) (hm : X.mg x = some (.ref f))
    (hk : PySem.W.keepIn X.K (.ref f) = true) (hb : Binds X.K fd ps []) (hx : Passes CX X E) (ha : DA X (e :: es) ρ ds) (h : R ds d) (hdb : (x == ("__debug__" : Str)) = false := by decide) (he : starEach (e :: es) X.env = (false, eval e X.env) :: starEach es X.env := by rfl) (hpl : (backTo pos (starEach es X.env)).any (·.1) = false := by rfl) : DE X (.Call (.Name x p) (e :: es) [] pos) ρ d :=
  pe_imp (pe_callG F hgd hr hg hm hk hb .nil hx ha hdb he hpl) fun σ H Q ⟨G, s, env, q⟩ => ⟨G, s, env, fun vs G1 H1 g1 dvs => ⟨G1, ds, d, g1.s, by rw [List.append_nil]; exact dvs, h, fun v G' H' g dv => q v G' H' (g1.trans g) dv⟩⟩
end
end K64

/-! ## K64Md -/
/-! What the module gives; defs by name. Printed by gen_md.py. -/
namespace K64
open PySem PySem.Spec PyProof.Rows L2
def frees : List Str := ["isinstance", "len", "all", "zip", "tuple", "sorted", "list", "set", "dict", "range", "enumerate", "max", "min", "int", "abs", "repr", "bool", "str"]
def defsL : List (Str × Stmt) := [(("is_integer" : Str), s_is_integer), (("is_integer_within" : Str), s_is_integer_within), (("is_name" : Str), s_is_name), (("are_ascending" : Str), s_are_ascending), (("is_row" : Str), s_is_row), (("is_row_of" : Str), s_is_row_of), (("is_applied_of" : Str), s_is_applied_of), (("are_applied_of" : Str), s_are_applied_of), (("joined" : Str), s_joined), (("require_net" : Str), s_require_net), (("require_unknowns" : Str), s_require_unknowns), (("copy_of" : Str), s_copy_of), (("spelled_out" : Str), s_spelled_out), (("_law_is_listed" : Str), s_is_listed), (("_law_strikes_of" : Str), s_strikes_of), (("_law_lists_of" : Str), s_lists_of), (("_law_fillings_of" : Str), s_fillings_of), (("_law_shadows_of" : Str), s_shadows_of), (("_law_set_net_of" : Str), s_set_net_of), (("_law_sack" : Str), s_sack), (("_law_grab" : Str), s_grab), (("_law_one_of" : Str), s_one_of), (("_law_shuffled" : Str), s_shuffled), (("_law_sets_of" : Str), s_sets_of), (("_law_all_rows" : Str), s_all_rows), (("_law_rows_any" : Str), s_rows_any), (("_law_places_of" : Str), s_places_of), (("_law_shadow_rows" : Str), s_shadow_rows), (("_law_all_tuples" : Str), s_all_tuples), (("_law_closed_rows" : Str), s_closed_rows), (("_law_any_chooser" : Str), s_any_chooser), (("_law_book" : Str), s_book), (("_law_net" : Str), s_net), (("_law_made_net" : Str), s_made_net), (("_law_is_net" : Str), s_is_net), (("_law_with" : Str), s_with), (("_law_told_rows" : Str), s_told_rows), (("_law_is_decided_one" : Str), s_is_decided_one), (("_law_fits_book" : Str), s_fits_book), (("_law_spelled" : Str), s_spelled), (("_law_case" : Str), s_case), (("_law_cell_right" : Str), s_cell_right), (("law" : Str), s_law)]
/-- a property's getter -/
def getA (K : PySem.W.Frag) (f : Str) : Addr := match PySem.W.recIn K (He.ma K (netC K) f) "property" with
  | some (.ref g :: _) => g
  | _ => 0
structure Md (K : PySem.W.Frag) (mg : Str → Option Value) : Prop where
  free : ∀ (i : Nat) (x : Str), frees[i]? = some x → mg x = none
  fn_ : ∀ (i : Nat) (d : Str × Stmt), defsL[i]? = some d → mg d.1 = some (.ref (He.ga K d.1)) ∧ ∃ fd, Fun K d.1 d.1 d.2 (He.ga K d.1) fd
  iLetters : ∃ t, mg "MAX_LETTERS" = some (.int 8 t)
  iGreatest : ∃ t, mg "GREATEST" = some (.int (10 ^ 60 - 1) t)
  iPlaces : ∃ t, mg "MAX_PLACES" = some (.int 3 t)
  iUnknowns : ∃ t, mg "MAX_UNKNOWNS" = some (.int 60 t)
  iApplied : ∃ t, mg "MAX_APPLIED" = some (.int 30000 t)
  net : mg "Net" = some (.ref (netC K))
  nk : NetK K
  mkr : Mk K (netC K) (He.ma K (netC K) "__init__")
  init : ∃ fd, Fun K "__init__" "Net.__init__" s_Net_init (He.ma K (netC K) "__init__") fd
  psize : PropOf K (netC K) "size" (He.ma K (netC K) "size") (getA K "size")
  fsize : ∃ fd, Fun K "size" "Net.size" s_Net_size (getA K "size") fd
  pties : PropOf K (netC K) "ties" (He.ma K (netC K) "ties") (getA K "ties")
  fties : ∃ fd, Fun K "ties" "Net.ties" s_Net_ties (getA K "ties") fd
/-- a def of the module with its promise -/
def Cal (P : Program) (w : World) (K : PySem.W.Frag) (mg : Str → Option Value) (base : Heap) (k : Nat) (x : Str) (ps : List Str) (sp : Sp) : Prop := ∃ f fd, FnOk P w K mg base CX0 k f fd ps sp ∧ mg x = some (.ref f) ∧ PySem.W.keepIn K (.ref f) = true ∧ Binds K fd ps []
def CalG (P : Program) (w : World) (K : PySem.W.Frag) (mg : Str → Option Value) (base : Heap) (k : Nat) (x : Str) (ps : List Str) (sp : Sp) : Prop := ∃ f fd, FnG P w K mg base CX0 k f fd ps sp ∧ mg x = some (.ref f) ∧ PySem.W.keepIn K (.ref f) = true ∧ Binds K fd ps []
section
variable {P : Program} {w : World} {K : PySem.W.Frag} {mg : Str → Option Value} {base : Heap} {k : Nat} {x : Str} {st : Stmt} {ps : List Str} {sp : Sp}
theorem Md.fr (M : Md K mg) {x : Str} (i : Nat) (h : frees[i]? = some x := by rfl) : mg x = none := M.free i x h
theorem Md.cal (M : Md K mg) (i : Nat) (hd : defsL[i]? = some (x, st)) (hb : ∀ (kV doc pm : Value) (an : Option Addr) (cdv ct : Value) (us : List Value), us.length = ps.length → bindArgs (PySem.W.fnOf x x (defArgs st) (defBody st) (defScope st) .none kV doc pm an cdv ct) ⟨us, []⟩ = pure (ps.zip us))
    (F : ∀ f fd, Fun K x x st f fd → FnOk P w K mg base CX0 k f fd ps sp) : Cal P w K mg base k x ps sp := by
  obtain ⟨h1, fd, h2⟩ := M.fn_ i _ hd
  exact ⟨_, fd, F _ fd h2, h1, h2.kp, h2.binds hb⟩
theorem Md.calG (M : Md K mg) (i : Nat) (hd : defsL[i]? = some (x, st)) (hb : ∀ (kV doc pm : Value) (an : Option Addr) (cdv ct : Value) (us : List Value), us.length = ps.length → bindArgs (PySem.W.fnOf x x (defArgs st) (defBody st) (defScope st) .none kV doc pm an cdv ct) ⟨us, []⟩ = pure (ps.zip us))
    (F : ∀ f fd, Fun K x x st f fd → FnG P w K mg base CX0 k f fd ps sp) : CalG P w K mg base k x ps sp := by
  obtain ⟨h1, fd, h2⟩ := M.fn_ i _ hd
  exact ⟨_, fd, F _ fd h2, h1, h2.kp, h2.binds hb⟩
end
section
variable {X : Cx} {ρ : Env} {pos : Pos} {e : Expr} {d : PyData} {sl : Sl}
theorem de_c {k : Nat} {ps : List Str} {R : List PyData → PyData → Prop} {x : Str} {es : List Expr} {ds : List PyData} {p : Pos} (c : Cal X.prog X.w X.K X.mg X.base k x ps (spD X.w X.K R)) (hr : Room k X.A) (ha : DA X (e :: es) ρ ds) (h : R ds d)
    (hg : Gl X x := by rfl) (hdb : (x == ("__debug__" : Str)) = false := by decide) (he : starEach (e :: es) X.env = (false, eval e X.env) :: starEach es X.env := by rfl) (hpl : (backTo pos (starEach es X.env)).any (·.1) = false := by rfl) : DE X (.Call (.Name x p) (e :: es) [] pos) ρ d := by
  obtain ⟨f, fd, F, hm, hk, hb⟩ := c
  exact de_call F hr hg hm hk hb pass0 ha h hdb he hpl
theorem de_cG {k : Nat} {ps : List Str} {R : List PyData → PyData → Prop} {x : Str} {es : List Expr} {ds : List PyData} {p : Pos} (c : CalG X.prog X.w X.K X.mg X.base k x ps (spD X.w X.K R)) (hgd : X.A.guards = some []) (hr : Room k X.A) (ha : DA X (e :: es) ρ ds) (h : R ds d)
    (hg : Gl X x := by rfl) (hdb : (x == ("__debug__" : Str)) = false := by decide) (he : starEach (e :: es) X.env = (false, eval e X.env) :: starEach es X.env := by rfl) (hpl : (backTo pos (starEach es X.env)).any (·.1) = false := by rfl) : DE X (.Call (.Name x p) (e :: es) [] pos) ρ d := by
  obtain ⟨f, fd, F, hm, hk, hb⟩ := c
  exact de_callG F hgd hr hg hm hk hb pass0 ha h hdb he hpl
theorem do_c {k : Nat} {ps : List Str} {R : List PyData → Sl → Prop} {x : Str} {es : List Expr} {ds : List PyData} {p : Pos} (c : Cal X.prog X.w X.K X.mg X.base k x ps (spO X.w X.K R)) (hr : Room k X.A) (ha : DA X (e :: es) ρ ds) (h : R ds sl)
    (hg : Gl X x := by rfl) (hdb : (x == ("__debug__" : Str)) = false := by decide) (he : starEach (e :: es) X.env = (false, eval e X.env) :: starEach es X.env := by rfl) (hpl : (backTo pos (starEach es X.env)).any (·.1) = false := by rfl) : DO X (.Call (.Name x p) (e :: es) [] pos) ρ sl := by
  obtain ⟨f, fd, F, hm, hk, hb⟩ := c
  exact do_call F hr hg hm hk hb pass0 ha h hdb he hpl
theorem ex_c {ρ : Sls} {k : Nat} {ps : List Str} {Pre : List PyData → Prop} {R : List PyData → PyData → Prop} {x y : Str} {es : List Expr} {p p2 : Pos} {i : Nat} {Pa : List PyData → Sls → Prop} (c : Cal X.prog X.w X.K X.mg X.base k x ps (spK X.w X.K Pre R)) (hr : Room k X.A) (hv : PE X (.Name y p2) (tVar i)) (hi : ρ[i]? = some .sck) (ha : XA X es ρ Pa) (hpre : ∀ ds r, Pa ds r → Pre ds)
    (hg : Gl X x := by rfl) (hs : starEach (.Name y p2 :: es) X.env = (false, eval (.Name y p2) X.env) :: starEach es X.env := by rfl) (hdb : (x == ("__debug__" : Str)) = false := by decide) (hpl : (backTo pos (starEach es X.env)).any (·.1) = false := by rfl) :
    EX X (.Call (.Name x p) (.Name y p2 :: es) [] pos) ρ (fun d r => ∃ ds, Pa ds r ∧ R ds d) := by
  obtain ⟨f, fd, F, hm, hk, hb⟩ := c
  exact ex_draw F hr hg hm hk hb pass0 hv hi ha hpre hs hdb hpl
end
end K64

/-! ## K64Num -/
/-! Numbers; the script; the sack. -/
namespace K64
open PySem PySem.Spec PyProof.Rows L2
section
variable {w : World} {K : PySem.W.Frag}
theorem rdc_abs {i : Int} : RDC w K (fun xs H Q => ∃ i, xs = [.int i] ∧ Q (.int (if i < 0 then -i else i)) H) [.int i] (.int (if i < 0 then -i else i)) := fun xs G H Q s dx q => by
  cases dx with
  | cons d1 dr =>
    cases dr
    cases d1
    exact ⟨i, rfl, q _ G H (.refl s) (.int _)⟩
theorem rdc_max2 {i j : Int} : RDC w K (fun xs H Q => ∃ i j, xs = [.int i, .int j] ∧ Q (.int (if j > i then j else i)) H) [.int i, .int j] (.int (if j > i then j else i)) := fun xs G H Q s dx q => by
  cases dx with
  | cons d1 dr =>
    cases dr with
    | cons d2 dr =>
      cases dr
      cases d1
      cases d2
      exact ⟨i, j, rfl, q _ G H (.refl s) (.int _)⟩
theorem rdc_min2 {i j : Int} : RDC w K (fun xs H Q => ∃ i j, xs = [.int i, .int j] ∧ Q (.int (if j < i then j else i)) H) [.int i, .int j] (.int (if j < i then j else i)) := fun xs G H Q s dx q => by
  cases dx with
  | cons d1 dr =>
    cases dr with
    | cons d2 dr =>
      cases dr
      cases d1
      cases d2
      exact ⟨i, j, rfl, q _ G H (.refl s) (.int _)⟩
theorem rdc_intI {i : Int} : RDC w K (fun xs H Q => (∃ i, xs = [.int i] ∧ Q (.int i) H) ∨ ∃ k, xs = [.bl k] ∧ Q (.int (if k then 1 else 0)) H) [.int i] (.int i) := fun xs G H Q s dx q => by
  cases dx with
  | cons d1 dr =>
    cases dr
    cases d1
    exact .inl ⟨i, rfl, q _ G H (.refl s) (.int _)⟩
theorem rdc_intB {k : Bool} : RDC w K (fun xs H Q => (∃ i, xs = [.int i] ∧ Q (.int i) H) ∨ ∃ k, xs = [.bl k] ∧ Q (.int (if k then 1 else 0)) H) [.bool k] (.int (if k then 1 else 0)) := fun xs G H Q s dx q => by
  cases dx with
  | cons d1 dr =>
    cases dr
    cases d1
    exact .inr ⟨k, rfl, q _ G H (.refl s) (.int _)⟩
/-- the script -/
theorem rdc_lenScr {ns : List Int} : RDC w K (fun xs H Q => ∃ p ys, xs = [.ref p] ∧ (SqL K H p ys ∨ SqT K H p ys) ∧ Q (.int ys.length) H) [scrD ns] (.int (ns.length : Nat)) := fun xs G H Q s dx q => by
  cases dx with
  | cons d1 dr =>
    cases dr
    obtain ⟨a, rfl, h⟩ := scr_inv d1
    exact ⟨a, _, rfl, .inl (sql_mono s h), by rw [List.length_map]; exact q _ G H (.refl s) (.int _)⟩
theorem rd_ixScr {ns : List Int} {i : Int} {n : Int} (h : atI ns i = some n) : RD2 w K (rIxL K) (scrD ns) (.int i) (.int n) := fun x y G H Q s dx dy q => by
  cases dy
  obtain ⟨a, rfl, hx⟩ := scr_inv dx
  refine ⟨a, _, i, .int n, rfl, rfl, sql_mono s hx, ?_, q _ G H (.refl s) (.int _)⟩
  unfold atI at h ⊢
  obtain ⟨j, h1, h2⟩ := Option.bind_eq_some_iff.mp h
  rw [List.length_map, h1]
  show (ns.map V.int)[j]? = _
  rw [List.getElem?_map, h2]
  rfl
end
section
variable {X : Cx}
theorem op_powC : OpR X (binaryOp .Pow) (rI (fun i j => 0 ≤ j ∧ (Builtin.Int.intBits i : Int) * j ≤ 2 ^ 27) fun i j => .int (i ^ j.toNat)) := opI fun _ _ _ _ _ _ _ hc q => PyProof.Rows.pow_int hc.1 hc.2 q
end
/-! ### the sack -/
/-- a number; nothing changes -/
def NX (X : Cx) (e : Expr) (ρ : Sls) (C : Int → Prop) : Prop := EX X e ρ (fun d r => (∃ n : Int, d = .int n ∧ C n) ∧ r = ρ)
section
variable {X : Cx} {ρ : Sls} {a b e : Expr} {pos : Pos} {C Ca Cb : Int → Prop} {N : Sls → Prop} {R : PyData → Sls → Prop}
theorem nx_of {n : Int} (h : DE X e (er ρ) (.int n)) (c : C n) : NX X e ρ C := ex_imp (ex_of h) fun d r ⟨h1, h2⟩ => ⟨⟨n, h1, c⟩, h2⟩
theorem nx_imp {C' : Int → Prop} (h : NX X e ρ C) (i : ∀ n, C n → C' n) : NX X e ρ C' := ex_imp h fun d r ⟨⟨n, h1, h2⟩, h3⟩ => ⟨⟨n, h1, i n h2⟩, h3⟩
theorem nx_op {op : Operator} {cond : Int → Int → Prop} {g : Int → Int → Int} (ho : OpR X (binaryOp op) (rI cond fun i j => .int (g i j))) (ha : NX X a ρ Ca) (hb : NX X b ρ Cb) (h : ∀ i j, Ca i → Cb j → cond i j ∧ C (g i j)) : NX X (.BinOp a op b pos) ρ C :=
  pe_imp (pe_op ho ha hb) fun σ H Q ⟨F, G, S, q⟩ => ⟨F, G, S, fun x da r1 G1 H1 p1 S1 s1 dx => by
    obtain ⟨⟨n, rfl, cn⟩, rfl⟩ := p1
    cases dx
    refine ⟨F, G1, S1, fun y db r2 G2 H2 p2 S2 s2 dy => ?_⟩
    obtain ⟨⟨m, rfl, cm⟩, rfl⟩ := p2
    cases dy
    exact ⟨n, m, rfl, rfl, (h n m cn cm).1, q _ _ _ G2 H2 ⟨⟨_, rfl, (h n m cn cm).2⟩, rfl⟩ S2 (s1.trans s2) (.int _)⟩⟩
theorem nx_op0 {op : Operator} {g : Int → Int → Int} (ho : OpR X (binaryOp op) (rI0 fun i j => .int (g i j))) (ha : NX X a ρ Ca) (hb : NX X b ρ Cb) (h : ∀ i j, Ca i → Cb j → C (g i j)) : NX X (.BinOp a op b pos) ρ C :=
  pe_imp (pe_op ho ha hb) fun σ H Q ⟨F, G, S, q⟩ => ⟨F, G, S, fun x da r1 G1 H1 p1 S1 s1 dx => by
    obtain ⟨⟨n, rfl, cn⟩, rfl⟩ := p1
    cases dx
    refine ⟨F, G1, S1, fun y db r2 G2 H2 p2 S2 s2 dy => ?_⟩
    obtain ⟨⟨m, rfl, cm⟩, rfl⟩ := p2
    cases dy
    exact ⟨n, m, rfl, rfl, q _ _ _ G2 H2 ⟨⟨_, rfl, h n m cn cm⟩, rfl⟩ S2 (s1.trans s2) (.int _)⟩⟩
/-- int(a) -/
theorem nx_int {p : Pos} (ha : NX X a ρ C) (hm : X.mg "int" = none) (hg : Gl X "int" := by rfl) (he : starEach [a] X.env = (false, eval a X.env) :: starEach [] X.env := by rfl) (hpl : (backTo pos (starEach [] X.env)).any (·.1) = false := by rfl) : NX X (.Call (.Name "int" p) [a] [] pos) ρ C :=
  pe_imp (pe_callTy call_int1 hg hm PyProof.Rows.boot_int (pa_cons ha pa_nil he) (by decide) (by decide) he hpl) fun σ H Q ⟨F, G, S, q⟩ => ⟨F, G, S, fun x da r1 G1 H1 p1 S1 s1 dx => by
    obtain ⟨⟨n, rfl, cn⟩, rfl⟩ := p1
    cases dx
    exact .inl ⟨n, rfl, q _ _ _ G1 H1 ⟨⟨n, rfl, cn⟩, rfl⟩ S1 s1 (.int _)⟩⟩
/-- sack[i] -/
theorem nx_sack {i : Nat} {p1 p2 : Pos} {k : Nat} {y : Str} {c : Nat} (hv : PE X (.Name y p1) (tVar i)) (hi : ρ[i]? = some .sck) (hc : c < 3) (hp : PlainIx (.Constant (.int (c : Int)) k p2) := by intro _ _; rfl) : NX X (.Subscript (.Name y p1) (.Constant (.int (c : Int)) k p2) pos) ρ (fun _ => True) :=
  pe_imp (pe_ix ix_list hv pe_int hp) fun σ H Q ⟨F, G, S, q⟩ => by
    obtain ⟨k', hk, hk'⟩ := S.at_ i _ hi
    obtain ⟨s1, s2, x, y', z, s3⟩ := S.sack k' hk
    refine ⟨.ref k', hk', k', [.int x, .int y', .int z], (c : Int), ?_⟩
    have hcc : c = 0 ∨ c = 1 ∨ c = 2 := by omega
    rcases hcc with rfl | rfl | rfl
    · exact ⟨_, rfl, rfl, .inl (.inl s3), rfl, q _ (.int x) _ G H ⟨⟨x, rfl, trivial⟩, rfl⟩ S (Same.refl _) (.int _)⟩
    · exact ⟨_, rfl, rfl, .inl (.inl s3), rfl, q _ (.int y') _ G H ⟨⟨y', rfl, trivial⟩, rfl⟩ S (Same.refl _) (.int _)⟩
    · exact ⟨_, rfl, rfl, .inl (.inl s3), rfl, q _ (.int z) _ G H ⟨⟨z, rfl, trivial⟩, rfl⟩ S (Same.refl _) (.int _)⟩
/-- a > b -/
theorem nx_gt (ha : NX X a ρ Ca) (hb : NX X b ρ Cb) (hm : behindInMarks .Gt b = false := by rfl) : TX X (.Compare a [.Gt] [b] pos) ρ (fun _ r => r = ρ) :=
  pt_imp (pt_cmpR op_gt ha hb hm) fun σ H Q ⟨F, G, S, q⟩ => ⟨F, G, S, fun x da r1 G1 H1 p1 S1 s1 dx => by
    obtain ⟨⟨n, rfl, cn⟩, rfl⟩ := p1
    cases dx
    refine ⟨F, G1, S1, fun y db r2 G2 H2 p2 S2 s2 dy => ?_⟩
    obtain ⟨⟨m, rfl, cm⟩, rfl⟩ := p2
    cases dy
    exact ⟨n, m, rfl, rfl, _, rfl, q _ _ G2 H2 rfl S2 (s1.trans s2)⟩⟩
theorem StG.poke {w : World} {K : PySem.W.Frag} {F : Fr} {σ : L2.St} {G H : Hp} {k : Addr} {o : HO} (S : StG w K F ρ σ G H) (hk : F.sk = some k) (h : Sk (upd H k o) k) : StG w K F ρ σ G (upd H k o) := by
  obtain ⟨s1, s2, s3⟩ := S.sack k hk
  refine S.drawn hk ⟨Same.refl _, fun a u e => ?_, same_mut S.grow.s s2, fun _ e _ => e⟩ s2 h
  by_cases z : a = k
  · rw [z, del_none] at e; cases e
  · rw [del_ne z] at e
    rw [upd_ne z]
    exact e
/-- sack[i] = e -/
theorem d1_sack {i c : Nat} {y : Str} {k : Nat} {p1 p2 p3 : Pos} (hv : PE X (.Name y p1) (tVar i)) (hi : ρ[i]? = some .sck) (hc : c < 3) (he : NX X e ρ C) (hN : N ρ)
    (hsw : swapsWithSole [.Subscript (.Name y p1) (.Constant (.int (c : Int)) k p3) p2] e pos.line X.env = pure false := by rfl) (hw : swappedStores [.Subscript (.Name y p1) (.Constant (.int (c : Int)) k p3) p2] e X.env = pure none := by rfl)
    (h1 : (assignEach [.Subscript (.Name y p1) (.Constant (.int (c : Int)) k p3) p2] X.env).map (·.2) = [assign (.Subscript (.Name y p1) (.Constant (.int (c : Int)) k p3) p2) X.env] := by rfl)
    (ha : ∀ v, assign (.Subscript (.Name y p1) (.Constant (.int (c : Int)) k p3) p2) X.env v = (do
      let ov ← holding [v] (eval (.Name y p1) X.env)
      let iv ← holding [v, ov] (eval (.Constant (.int (c : Int)) k p3) X.env)
      standAt p2
      holding [v, ov, iv] (setItem ov iv v)
      release [v, ov, iv] []) := by intro _; rfl) : D1 X (.Assign [.Subscript (.Name y p1) (.Constant (.int (c : Int)) k p3) p2] e pos) ρ N R :=
  ps_imp (ps_asg he (pg_sub hv pe_int set_list ha) hsw hw h1) fun D σ H ⟨F, G, S, qn, _⟩ => ⟨F, G, S, fun v d r G1 H1 p1 S1 s1 dx => by
    obtain ⟨⟨n, rfl, cn⟩, rfl⟩ := p1
    cases dx
    obtain ⟨k', hk, hk'⟩ := S1.at_ i _ hi
    obtain ⟨t1, t2, x, y', z, t3⟩ := S1.sack k' hk
    refine ⟨.ref k', hk', k', [.int x, .int y', .int z], (c : Int), ?_⟩
    have hcc : c = 0 ∨ c = 1 ∨ c = 2 := by omega
    rcases hcc with rfl | rfl | rfl
    · exact ⟨0, rfl, rfl, t3, rfl, qn _ σ G1 _ hN (S1.poke hk ⟨n, y', z, upd_same⟩) s1⟩
    · exact ⟨1, rfl, rfl, t3, rfl, qn _ σ G1 _ hN (S1.poke hk ⟨x, n, z, upd_same⟩) s1⟩
    · exact ⟨2, rfl, rfl, t3, rfl, qn _ σ G1 _ hN (S1.poke hk ⟨x, y', n, upd_same⟩) s1⟩⟩
theorem dso_retE {sl : Sl} (he : DO X e (er ρ) sl) : DSO X [.Return (some e) pos] ρ sl :=
  pss_imp (pss_one (ps_ret he)) fun D σ H ⟨F, G, S, q⟩ => ⟨G, S.grow.s, S.env, fun p b G' H' g h1 h2 h3 h4 => q p b G' H' (S.grow.trans g) (S.grow.h.free h1) h2 h3 h4⟩
end
end K64

/-! ## K64Set -/
/-! Sets of nested keys: laid, filled, gathered. -/
namespace K64
open PySem PySem.Spec PyProof.Rows L2
abbrev Ky : Type := Addr × NestedKey
abbrev Nk (P : Program) (w : World) (h : Heap) (k : NestedKey) (a : Addr) : Prop := (nestedKind P w).is h k a
def hsN (w : World) (L : List Ky) : List Int := L.map fun p => p.2.hash w
def rwN (w : World) (L : List Ky) : List (Int × Value) := L.map fun p => (p.2.hash w, Value.ref p.1)
section
variable {P : Program} {w : World} {A : Around} {E : Value → Shared → Prop} {s : Shared}
/-! ### questions asked of keys -/
theorem nk_ref {h : Heap} {k : NestedKey} {a : Addr} (x : Nk P w h k a) : ∃ ks, k = .tup ks := by
  obtain ⟨x, _⟩ := x
  cases x with
  | tup _ _ _ _ => exact ⟨_, rfl⟩
/-- asked whether it is a class's, the value says no -/
def ClsAt (P : Program) (w : World) (n : Nat) (s : Shared) (v : Value) : Prop := ∀ (A : Around) (E : Value → Shared → Prop) (Q : Bool → Shared → Prop), Q false s → wpAny (model P w) A (ofAClassStatement n v) Q E s
/-- asked whether its hash is by value, it says something -/
def HbAt (P : Program) (w : World) (n : Nat) (s : Shared) (v : Value) : Prop := ∀ (A : Around) (E : Value → Shared → Prop) (Q : Bool → Shared → Prop), (∀ b, Q b s) → wpAny (model P w) A (hashByValue n v) Q E s
theorem ClsAt.tup {n : Nat} {a : Addr} {o : Obj} {vs : Array Value} {c : Nat} (h1 : s.heap.get? a = some o) (h2 : o.cls = .type "tuple") (h3 : o.data = .seq vs c) (h : ∀ v ∈ vs.toList, ClsAt P w n s v) : ClsAt P w (n + 1) s (.ref a) := fun A E Q q => by
  have hT : s.TypeIs (.ref a) "tuple" := ⟨o, h1, h2⟩
  unfold ofAClassStatement
  refine wpAny_bind (wpAny_typeOf hT ?_)
  have e : (("tuple" : String) == "tuple") = true := by decide
  simp only [e, if_true, Bool.not_true, Bool.false_eq_true, if_false]
  try refine wpAny_bind (wpAny_pure ?_)
  try simp only [Bool.not_true, Bool.false_eq_true, if_false]
  refine wpAny_bind (wpAny_seqItems h1 h3 ?_)
  refine wpAny_bind ?_
  show wpAny _ _ (forIn vs _ _) _ _ s
  rw [← Array.forIn_toList]
  refine wpAny_forIn_list _ (fun rest r z => r.1 = none ∧ z = s ∧ ∀ v ∈ rest, ClsAt P w n s v) _ ?_ ?_ _ _ ⟨rfl, rfl, h⟩
  · rintro v rest r z ⟨hr, rfl, hall⟩
    refine wpAny_bind (hall v List.mem_cons_self A E _ ?_)
    simp only [Bool.false_eq_true, if_false]
    exact wpAny_pure ⟨rfl, rfl, fun u hu => hall u (List.mem_cons_of_mem _ hu)⟩
  · rintro ⟨r1, r2⟩ z ⟨hr, rfl, _⟩
    simp only at hr
    subst hr
    exact wpAny_pure q
theorem HbAt.tup {n : Nat} {a : Addr} {o : Obj} {vs : Array Value} {c : Nat} (h1 : s.heap.get? a = some o) (h2 : o.cls = .type "tuple") (h3 : o.data = .seq vs c) (h : ∀ v ∈ vs.toList, HbAt P w n s v) : HbAt P w (n + 1) s (.ref a) := fun A E Q q => by
  have hT : s.TypeIs (.ref a) "tuple" := ⟨o, h1, h2⟩
  unfold hashByValue
  refine wpAny_bind (wpAny_specialOf hT F.slot_tuple_hash.lookup ?_)
  show wpAny _ _ (seqItems? (.ref a) >>= _) _ _ s
  refine wpAny_bind (wpAny_seqItems h1 h3 ?_)
  refine wpAny_bind ?_
  show wpAny _ _ (forIn vs _ _) _ _ s
  rw [← Array.forIn_toList]
  refine wpAny_forIn_list _ (fun rest r z => r.1 = none ∧ z = s ∧ ∀ v ∈ rest, HbAt P w n s v) _ ?_ ?_ _ _ ⟨rfl, rfl, h⟩
  · rintro v rest r z ⟨hr, rfl, hall⟩
    refine wpAny_bind (hall v List.mem_cons_self A E _ fun b => ?_)
    cases b with
    | true =>
      simp only [Bool.not_true, Bool.false_eq_true, if_false]
      exact wpAny_pure ⟨rfl, rfl, fun u hu => hall u (List.mem_cons_of_mem _ hu)⟩
    | false =>
      simp only [Bool.not_false, if_true]
      exact wpAny_pure (wpAny_pure (q _))
  · rintro ⟨r1, r2⟩ z ⟨hr, rfl, _⟩
    simp only at hr
    subst hr
    exact wpAny_pure (q _)
mutual
theorem clsAt : ∀ (k : NestedKey) (n : Nat) (v : Value), NestedIs s.heap k v → k.depth ≤ n → ClsAt P w n s v
  | .none, n, _, .none, _ => fun A E Q q => by cases n <;> exact wpAny_pure q
  | .num i, n, _, .int _ _, _ => fun A E Q q => by cases n <;> exact wpAny_pure q
  | .num i, n, _, .bool _, _ => fun A E Q q => by cases n <;> exact wpAny_pure q
  | .text x, n, _, .text _ _, _ => fun A E Q q => by cases n <;> exact wpAny_pure q
  | .tup ks, n, _, .tup h1 h2 h3 h4, hn => by
    simp only [NestedKey.depth] at hn
    cases n with
    | zero => omega
    | succ n => exact .tup h1 h2 h3 (clsAts ks n _ h4 (by omega))
theorem clsAts : ∀ (ks : List NestedKey) (n : Nat) (vs : List Value), NestedAll s.heap ks vs → NestedKey.depthAll ks ≤ n → ∀ v ∈ vs, ClsAt P w n s v
  | [], _, _, .nil, _, v, hv => by cases hv
  | k :: ks, n, _, .cons x1 x2, hn, v, hv => by
    simp only [NestedKey.depthAll] at hn
    rcases List.mem_cons.mp hv with e | hv
    · rw [e]; exact clsAt k n _ x1 (by omega)
    · exact clsAts ks n _ x2 (by omega) v hv
end
mutual
theorem hbAt : ∀ (k : NestedKey) (n : Nat) (v : Value), NestedIs s.heap k v → HbAt P w n s v
  | .none, n, _, .none => fun A E Q q => by cases n <;> exact wpAny_pure (q _)
  | .num i, n, _, .int _ _ => fun A E Q q => by cases n <;> exact wpAny_pure (q _)
  | .num i, n, _, .bool _ => fun A E Q q => by cases n <;> exact wpAny_pure (q _)
  | .text x, n, _, .text _ _ => fun A E Q q => by cases n <;> exact wpAny_pure (q _)
  | .tup ks, 0, _, .tup h1 h2 h3 h4 => fun A E Q q => wpAny_pure (q _)
  | .tup ks, n + 1, _, .tup h1 h2 h3 h4 => .tup h1 h2 h3 (hbAts ks n _ h4)
theorem hbAts : ∀ (ks : List NestedKey) (n : Nat) (vs : List Value), NestedAll s.heap ks vs → ∀ v ∈ vs, HbAt P w n s v
  | [], _, _, .nil, v, hv => by cases hv
  | k :: ks, n, _, .cons x1 x2, v, hv => by
    rcases List.mem_cons.mp hv with e | hv
    · rw [e]; exact hbAt k n _ x1
    · exact hbAts ks n _ x2 v hv
end
/-- a search among keys shows nothing -/
theorem unseen {k : NestedKey} {b : Addr} {Q : Bool → Shared → Prop} (hk : Nk P w s.heap k b) {ys : List Value} (hy : ∀ y ∈ ys, ∃ k' c, y = Value.ref c ∧ Nk P w s.heap k' c) (h : Q false s) : wpAny (model P w) A (searchCouldBeSeen (.ref b) ys) Q E s := by
  unfold searchCouldBeSeen
  refine wpAny_bind ?_
  refine wpAny_forIn_list _ (fun rest r z => r.1 = none ∧ z = s ∧ ∀ y ∈ rest, ∃ k' c, y = Value.ref c ∧ Nk P w s.heap k' c) _ ?_ ?_ _ _ ⟨rfl, rfl, hy⟩
  · rintro v rest r z ⟨hr, rfl, hall⟩
    obtain ⟨k', c, rfl, hc⟩ := hall v List.mem_cons_self
    have more : ∀ y ∈ rest, ∃ k' c, y = Value.ref c ∧ Nk P w z.heap k' c := fun u hu => hall u (List.mem_cons_of_mem _ hu)
    dsimp only
    by_cases hv : (b == c || (carriedByValue (.ref b) && carriedByValue (.ref c))) = true
    · exact wp_if_pos hv (wpAny_pure ⟨rfl, rfl, more⟩)
    · refine wp_if_neg hv ?_
      refine wpAny_bind ((nestedKind P w).quiet hk ?_)
      simp only [Bool.not_true, Bool.false_eq_true, if_false]
      refine wpAny_bind ((nestedKind P w).quiet hc ?_)
      simp only [Bool.not_true, Bool.false_eq_true, if_false]
      refine wpAny_bind (clsAt k 8 _ hk.1 hk.2 A E _ ?_)
      simp only [Bool.false_eq_true, if_false]
      refine wpAny_bind (clsAt k' 8 _ hc.1 hc.2 A E _ ?_)
      simp only [Bool.false_eq_true, if_false]
      exact wpAny_pure ⟨rfl, rfl, more⟩
  · rintro ⟨r1, r2⟩ z ⟨hr, rfl, _⟩
    simp only at hr
    subst hr
    exact wpAny_pure h
/-! ### the set as it stands -/
structure SetN (P : Program) (w : World) (h : Heap) (a : Addr) (L : List Ky) (es : Array (Int × Value)) (ep : Nat) (t : SetTable) : Prop where
  ob : ∃ o, h.get? a = some o ∧ o.ExactSet ∧ o.data = .set es ep t
  rows : es.toList = rwN w L
  tab : TabOk t (hsN w L)
  nd : (L.map (·.2)).Nodup
  key : ∀ p ∈ L, Nk P w h p.2 p.1
  led : w.params.followText "set-order" = true ∨ t.led = true
  room : L.length * 5 < t.mask * 3
  few : L.length < 64
theorem rows_len {L : List Ky} {es : Array (Int × Value)} (h : es.toList = rwN w L) : es.size = L.length := by
  rw [← Array.length_toList, h, rwN, List.length_map]
theorem fits_of {L : List Ky} {es : Array (Int × Value)} {t : SetTable} (hd : t.dummies = #[]) (hp : t.place.size = es.size) (hm : es.size ≤ t.mask) : t.fits es.size = true := by
  unfold SetTable.fits SetTable.fill
  rw [hd, Bool.and_eq_true, beq_iff_eq, decide_eq_true_eq]
  exact ⟨hp, by show t.place.size + 0 ≤ t.mask; omega⟩
section
variable {a : Addr} {L : List Ky} {es : Array (Int × Value)} {ep : Nat} {t : SetTable}
theorem SetN.psz (R : SetN P w s.heap a L es ep t) : t.place.size = es.size := by
  have := R.tab.sz
  rw [hsN, List.length_map] at this
  rw [this, rows_len R.rows]
theorem SetN.fits (R : SetN P w s.heap a L es ep t) : t.fits es.size = true := fits_of (L := L) R.tab.dm R.psz (by have := R.room; rw [rows_len R.rows]; omega)
theorem SetN.at_ (R : SetN P w s.heap a L es ep t) {i : Nat} {p : Ky} (h : L[i]? = some p) : es[i]? = some (p.2.hash w, Value.ref p.1) := by
  rw [← Array.getElem?_toList, R.rows, rwN, List.getElem?_map, h]
  rfl
theorem no_dummy (m : Nat) : ∀ (n : Nat) (p : SetTable.Probe), p.dummy = none → (nth m p n).dummy = none
  | 0, _, h => h
  | n + 1, p, h => no_dummy m n (adv m p) (by unfold adv; split <;> exact h)
/-- from the c-th step of the key's way on: found, or the first empty slot (its K-th) -/
theorem seek (R : SetN P w s.heap a L es ep t) {x : Addr} {k : NestedKey} (hx : Nk P w s.heap k x) (hu : (nestedKind P w).room A) {K : Nat} (hKf : K < 10 * SetTable.turns t.mask) (hK : way t.mask (k.hash w) K ∉ t.place.toList)
    (hKb : ∀ c, c < K → way t.mask (k.hash w) c ∈ t.place.toList) {Q : SetFound → Shared → Prop} (hin : k ∈ L.map (·.2) → Q (.there none) s) (hout : k ∉ L.map (·.2) → Q (.free (way t.mask (k.hash w) K) false) s) :
    ∀ (f c : Nat) (stand : Option SetTable.Probe), stand.getD (t.probeStart (k.hash w)) = nth t.mask (t.probeStart (k.hash w)) c → c ≤ K → K - c < f →
      (∀ (i : Nat) p, L[i]? = some p → p.2 = k → ∃ c', c ≤ c' ∧ c' < K ∧ t.place.toList[i]? = some (way t.mask (k.hash w) c')) → wpAny (model P w) A (setSearchFrom a (.ref x) (k.hash w) true f stand) Q E s := by
  intro f
  induction f with
  | zero => intro c stand _ _ hf _; exact absurd hf (Nat.not_lt_zero _)
  | succ f ih =>
    intro c stand hst hc hf hre
    obtain ⟨o, ho, hex, hd⟩ := R.ob
    rw [setSearchFrom_succ]
    refine wpAny_bind (wpAny_setState_of ho hd R.fits ?_)
    dsimp only
    refine wp_if_neg (by unfold SetTable.gaveWay; rw [mask_odd R.tab.mok]; decide) ?_
    try refine wpAny_bind (wpAny_pure ?_)
    have step : ∀ q, nth t.mask (nth t.mask (t.probeStart (k.hash w)) c) q = nth t.mask (t.probeStart (k.hash w)) (c + q) := fun q => (nth_add t.mask c _ q).symm
    have stepj : ∀ q, (nth t.mask (nth t.mask (t.probeStart (k.hash w)) c) q).j = way t.mask (k.hash w) (c + q) := fun q => congrArg SetTable.Probe.j (step q)
    have hh : ∀ (i : Nat) p, L[i]? = some p → (fun i => (es[i]?.map (·.1)).getD 0) i = p.2.hash w := fun i p hp => by
      show (es[i]?.map (·.1)).getD 0 = _
      rw [R.at_ hp]
      rfl
    rcases go_spec t R.tab.ris R.tab.dm (fun i => (es[i]?.map (·.1)).getD 0) (k.hash w) (10 * SetTable.turns t.mask) (K - c) _ (no_dummy t.mask c (t.probeStart (k.hash w)) rfl) (by omega) (fun q hq => by rw [stepj]; exact hKb _ (by omega)) (by rw [stepj, Nat.add_sub_cancel' hc]; exact hK) with ⟨q, i, hq, hi, _, hno, hpr⟩ | ⟨hno, hpr⟩
    · rw [stepj] at hi
      have hpr2 : t.probe (fun i => (es[i]?.map (·.1)).getD 0) (k.hash w) (stand.getD (t.probeStart (k.hash w))) = some (.candidate (way t.mask (k.hash w) (c + q)) i (nth t.mask (t.probeStart (k.hash w)) (c + (q + 1)))) := by
        rw [hst, ← stepj, ← step]
        exact hpr
      rw [hpr2]
      dsimp only
      have hil : i < L.length := by
        have h1 := (List.getElem?_eq_some_iff.mp hi).1
        rw [Array.length_toList, R.psz, rows_len R.rows] at h1
        exact h1
      obtain ⟨p, hp⟩ : ∃ p, L[i]? = some p := ⟨_, List.getElem?_eq_getElem hil⟩
      have hmem := List.mem_of_getElem? hp
      have hsl : t.slot (way t.mask (k.hash w) (c + q)) = .live i := slot_live R.tab.ris hi
      have rest : wpAny (model P w) A (searchRest a (.ref x) (k.hash w) true f es t (way t.mask (k.hash w) (c + q)) i (nth t.mask (t.probeStart (k.hash w)) (c + (q + 1)))) Q E s := by
        unfold searchRest
        rw [R.at_ hp]
        dsimp only
        refine wpAny_bind (wpAny_holding ((nestedKind P w).eqBool hu (R.key p hmem) hx ?_))
        refine wpAny_bind (wpAny_setState_of ho hd R.fits ?_)
        dsimp only
        by_cases hkk : p.2 = k
        · exact wp_if_pos (by simp [hkk]) (wpAny_pure (hin (List.mem_map.mpr ⟨p, hmem, hkk⟩)))
        · refine wp_if_neg (by simp [hkk]) ?_
          try refine wpAny_bind (wpAny_pure ?_)
          rw [sameMem]
          dsimp only
          simp only [if_true, hsl, R.at_ hp]
          refine wpAny_bind (wpAny_isSame_ref_self (wpAny_bind (wpAny_pure ?_)))
          simp only [if_true]
          refine wp_if_neg (by simp [hkk]) (ih (c + (q + 1)) _ rfl (by omega) (by omega) fun i0 p0 h0 hk0 => ?_)
          obtain ⟨c', a1, a2, a3⟩ := hre i0 p0 h0 hk0
          refine ⟨c', ?_, a2, a3⟩
          rcases Nat.lt_trichotomy c' (c + q) with z | z | z
          · exact absurd ((hh i0 p0 h0).trans (congrArg (fun k => k.hash w) hk0)) (hno (c' - c) i0 (by omega) (by rw [stepj, Nat.add_sub_cancel' a1]; exact a3))
          · rw [z] at a3
            have s0 := slot_live R.tab.ris a3
            rw [hsl] at s0
            injection s0 with s0
            rw [← s0, hp] at h0
            exact absurd ((congrArg Prod.snd (Option.some.inj h0)).trans hk0) hkk
          · omega
      by_cases hl : t.led = true
      · refine wp_if_neg (by simp [hl]) ?_
        try refine wpAny_bind (wpAny_pure ?_)
        exact rest
      · refine wp_if_pos (by simp [hl]) ?_
        refine wpAny_bind (unseen hx (fun y hy => ?_) ?_)
        · obtain ⟨e, he, rfl⟩ := List.mem_map.mp hy
          have he1 : e ∈ es ∧ e.1 = k.hash w := by simpa using he
          have he2 : e ∈ es.toList := by simpa using he1.1
          rw [R.rows] at he2
          obtain ⟨p2, hp2, rfl⟩ := List.mem_map.mp he2
          exact ⟨p2.2, p2.1, rfl, R.key p2 hp2⟩
        · refine wp_if_neg (by decide) ?_
          try refine wpAny_bind (wpAny_pure ?_)
          exact rest
    · have hpr2 : t.probe (fun i => (es[i]?.map (·.1)).getD 0) (k.hash w) (stand.getD (t.probeStart (k.hash w))) = some (.empty (way t.mask (k.hash w) K) none) := by
        have e2 := stepj (K - c)
        rw [Nat.add_sub_cancel' hc] at e2
        rw [hst, ← e2]
        exact hpr
      rw [hpr2]
      dsimp only
      refine wpAny_pure (hout fun hm => ?_)
      obtain ⟨p0, h0, hk0⟩ := List.mem_map.mp hm
      obtain ⟨i0, hi0⟩ := List.getElem?_of_mem h0
      obtain ⟨c', a1, a2, a3⟩ := hre i0 p0 hi0 hk0
      exact hno (c' - c) i0 (by omega) (by rw [stepj, Nat.add_sub_cancel' a1]; exact a3) ((hh i0 p0 hi0).trans (congrArg (fun k => k.hash w) hk0))
/-- the search that adding asks for -/
theorem seekAdd (R : SetN P w s.heap a L es ep t) {x : Addr} {k : NestedKey} (hx : Nk P w s.heap k x) (hu : (nestedKind P w).room A) {Q : SetFound → Shared → Prop} (hin : k ∈ L.map (·.2) → Q (.there none) s)
    (hout : ∀ K, k ∉ L.map (·.2) → way t.mask (k.hash w) K ∉ t.place.toList → (∀ c, c < K → way t.mask (k.hash w) c ∈ t.place.toList) → Q (.free (way t.mask (k.hash w) K) false) s) : wpAny (model P w) A (setSearch a (.ref x) (k.hash w) true) Q E s := by
  have hroom := R.room
  obtain ⟨K, hKf, hK, hKb⟩ := R.tab.first (by rw [hsN, List.length_map]; omega) (k.hash w)
  have hT : 10 * SetTable.turns t.mask ≤ 1420 := by
    unfold SetTable.turns
    rcases R.tab.mok with e | e | e <;> omega
  unfold setSearch
  refine seek R hx hu hKf hK hKb hin (fun hn => hout K hn hK hKb) 100000 0 none rfl (Nat.zero_le _) (by omega) fun i p hp hk => ?_
  have hi : (hsN w L)[i]? = some (k.hash w) := by
    rw [hsN, List.getElem?_map, hp, ← hk]
    rfl
  have hil : i < t.place.toList.length := by
    rw [Array.length_toList, R.psz, rows_len R.rows]
    exact (List.getElem?_eq_some_iff.mp hp).1
  obtain ⟨c, hc, e⟩ := R.tab.before hK hi (List.getElem?_eq_getElem hil)
  exact ⟨c, Nat.zero_le _, hc, by rw [List.getElem?_eq_getElem hil, e]⟩
/-- a key isn't the set -/
theorem nk_other {h h' : Heap} {k : NestedKey} {a b : Addr} {o : Obj} (hb : Nk P w h k b) (ho : h.get? a = some o) (hd : o.data = .set es ep t) (hs : Heap.SameBut a h h') : Nk P w h' k b :=
  nestedKind_stays.stays (fun c u vs n e1 e2 => (hs.2 c fun z => by
    subst z
    rw [ho] at e1
    cases e1
    rw [hd] at e2
    cases e2).trans e1) hb
/-- the rows in another order -/
theorem rows_order (L : List Ky) (es : Array (Int × Value)) (order : Array Nat) (hr : es.toList = rwN w L) (hp : order.toList.Perm (List.range L.length)) :
    ∃ L2, (order.filterMap (es[·]?)).toList = rwN w L2 ∧ L2.Perm L ∧ hsN w L2 = order.toList.map fun i => (es.map (·.1)).getD i 0 := by
  have at_ : ∀ i (h : i < L.length), es[i]? = some ((L[i]).2.hash w, Value.ref (L[i]).1) := fun i h => by
    rw [← Array.getElem?_toList, hr, rwN, List.getElem?_map, List.getElem?_eq_getElem h]
    rfl
  have all : ∀ l : List Nat, (∀ i ∈ l, i < L.length) → l.filterMap (fun i => es[i]?) = rwN w (l.filterMap fun i => L[i]?) ∧ hsN w (l.filterMap fun i => L[i]?) = l.map fun i => (es.map (·.1)).getD i 0 := by
    intro l
    induction l with
    | nil => exact fun _ => ⟨rfl, rfl⟩
    | cons i l ih =>
      intro hl
      have hi := hl i List.mem_cons_self
      obtain ⟨e1, e2⟩ := ih fun j hj => hl j (List.mem_cons_of_mem _ hj)
      rw [List.filterMap_cons_some (at_ i hi), List.filterMap_cons_some (List.getElem?_eq_getElem hi), e1]
      refine ⟨rfl, ?_⟩
      have e4 : (es.map (·.1)).getD i 0 = (L[i]).2.hash w := by
        have e5 : (es.map (·.1))[i]? = some ((L[i]).2.hash w) := by rw [Array.getElem?_map, at_ i hi]; rfl
        simp [Array.getD_eq_getD_getElem?, e5]
      rw [List.map_cons, e4, ← e2]
      rfl
  obtain ⟨e1, e2⟩ := all order.toList fun i hi => List.mem_range.mp (hp.mem_iff.mp hi)
  refine ⟨order.toList.filterMap fun i => L[i]?, by first | (rw [Array.toList_filterMap]; exact e1) | simpa using e1, ?_, e2⟩
  have id_ : ∀ n, n ≤ L.length → (List.range n).filterMap (fun i => L[i]?) = L.take n := by
    intro n
    induction n with
    | zero => exact fun _ => rfl
    | succ n ih =>
      intro hn
      rw [List.range_succ, List.filterMap_append, ih (Nat.le_of_lt hn), List.take_add_one, List.getElem?_eq_getElem hn, List.filterMap_cons_some (List.getElem?_eq_getElem hn)]
      rfl
  have := hp.filterMap fun i => L[i]?
  rwa [id_ L.length (Nat.le_refl _), List.take_length] at this
/-- the table laid anew, larger -/
theorem relay {o : Obj} (ho : s.heap.get? a = some o) (hex : o.ExactSet) (hd : o.data = .set es ep t) (hrows : es.toList = rwN w L) (hf : t.fits es.size = true) (nd : (L.map (·.2)).Nodup) (key : ∀ p ∈ L, Nk P w s.heap p.2 p.1)
    (ld : w.params.followText "set-order" = true ∨ t.led = true) (few : L.length < 64) {wanted M : Nat} (hw : SetTable.sizeAbove wanted - 1 = M) (hM : MaskOk M) (hw2 : SetTable.sizeAbove wanted ≤ 128) (hn : L.length * 5 < M * 3) {Q : Unit → Shared → Prop}
    (hQ : ∀ h' L' es' ep' t', Heap.SameBut a s.heap h' → SetN P w h' a L' es' ep' t' → L'.Perm L → Q () { s with heap := h' }) : wpAny (model P w) A (setRelay a wanted) Q E s := by
  have hsl := rows_len hrows
  obtain ⟨t', order, e, hp, T, em, el, ep', ed⟩ := relaid_ok t (hs := es.map (·.1)) (wanted := wanted) hw hM (by rw [Array.size_map, hsl]; omega)
  rw [Array.size_map, hsl] at hp
  obtain ⟨L2, r1, r2, r3⟩ := rows_order L es order hrows hp
  rw [← r3] at T
  have hs2 : (order.filterMap (es[·]?)).size = es.size := by rw [rows_len r1, r2.length_eq, hsl]
  rw [setRelay_eq]
  refine wpAny_bind (wpAny_setState_of ho hd hf ?_)
  dsimp only
  refine wp_if_neg (by rw [sizeLine_eq]; omega) ?_
  try refine wpAny_bind (wpAny_pure ?_)
  rw [e]
  dsimp only
  refine wpAny_bind ?_
  refine wp_if_neg (by rw [hs2]; simp) ?_
  try refine wpAny_bind (wpAny_pure ?_)
  refine wpAny_pure ?_
  dsimp only
  refine wpAny_storeSet_of ho hd ?_ (by rw [hs2, hsl, sizeLine_eq]; omega)
  have sb : Heap.SameBut a s.heap (s.heap.update a (Obj.putSet (order.filterMap (es[·]?)) t')) := Heap.SameBut.update ..
  exact hQ _ L2 _ (ep + 1) t' sb ⟨⟨_, store_at ho hd, ⟨hex.1, hex.2.1, hex.2.2⟩, rfl⟩, r1, T, (r2.map (·.2)).nodup_iff.mpr nd, fun p hpm => nk_other (key p (r2.mem_iff.mp hpm)) ho hd sb, by rw [el]; exact ld, by rw [r2.length_eq, em]; exact hn, by rw [r2.length_eq]; exact few⟩ r2
/-- a key comes in -/
theorem addN (R : SetN P w s.heap a L es ep t) {x : Addr} {k : NestedKey} (hx : Nk P w s.heap k x) (hu : (nestedKind P w).room A) (hfew : k ∉ L.map (·.2) → L.length + 1 < 64) {Q : Bool → Shared → Prop}
    (hQ : ∀ b h' L' es' ep' t', Heap.SameBut a s.heap h' → SetN P w h' a L' es' ep' t' → (k ∈ L.map (·.2) → L' = L) → (k ∉ L.map (·.2) → L'.Perm ((x, k) :: L)) → Q b { s with heap := h' }) :
    wpAny (model P w) A (setAddHashed a (.ref x) (k.hash w)) Q E s := by
  obtain ⟨o, ho, hex, hd⟩ := R.ob
  have hsl := rows_len R.rows
  have hroom := R.room
  unfold setAddHashed
  refine wpAny_holding ?_
  rw [show (100000 : Nat) = 99999 + 1 from rfl, setAddHashedIn_succ]
  refine wpAny_bind (wpAny_setState_of ho hd R.fits ?_)
  dsimp only
  refine wp_if_neg (by simp [byScan, Value.scannable]) ?_
  try refine wpAny_bind (wpAny_pure ?_)
  refine wpAny_bind (seekAdd R hx hu (fun hm => ?_) fun K hm hK hb => ?_)
  · exact wpAny_pure (hQ false s.heap L es ep t (Heap.SameBut.refl a s.heap) R (fun _ => rfl) fun z => absurd hm z)
  dsimp only
  refine wpAny_bind (wpAny_setState_of ho hd R.fits ?_)
  dsimp only
  have hf1 := hfew hm
  obtain ⟨q1, q2, q3, q4, q5, q6, q7, q8, q9⟩ := R.tab.put hK hb
  generalize hpt : t.put (way t.mask (k.hash w) K) = pt at q1 q3 q4 q5 q6 q7 q8 q9 ⊢
  obtain ⟨t1, p⟩ := pt
  dsimp only at q1 q3 q4 q5 q6 q7 q8 q9 ⊢
  subst q1
  generalize hpp : SetTable.below t.place (way t.mask (k.hash w) K) = p at q2 q3 ⊢
  have pm := put_perm L p (x, k)
  have hlen : (L.take p ++ (x, k) :: L.drop p).length = L.length + 1 := pm.length_eq
  have hin : (SetTable.insertAt es p (k.hash w, Value.ref x)).toList = rwN w (L.take p ++ (x, k) :: L.drop p) := by
    rw [SetTable.toList_insertAt, R.rows, rwN, rwN, List.map_append, List.map_cons, List.map_take, List.map_drop]
  have hhs : hsN w (L.take p ++ (x, k) :: L.drop p) = (hsN w L).take p ++ k.hash w :: (hsN w L).drop p := by
    rw [hsN, hsN, List.map_append, List.map_cons, List.map_take, List.map_drop]
  rw [← hhs] at q3
  have nd1 : ((L.take p ++ (x, k) :: L.drop p).map (·.2)).Nodup := (pm.map (·.2)).nodup_iff.mpr (by
    rw [List.map_cons]
    exact List.nodup_cons.mpr ⟨hm, R.nd⟩)
  have hes := rows_len hin
  rw [hlen] at hes
  generalize SetTable.insertAt es p (k.hash w, Value.ref x) = es1 at hin hes ⊢
  generalize L.take p ++ (x, k) :: L.drop p = L1 at pm hlen q3 nd1 hin
  -- whatever is said of its hash, the table is stored
  have go : ∀ t2 : SetTable, TabOk t2 (hsN w L1) → t2.mask = t.mask → t2.led = t.led → t2.tooFull = t1.tooFull → wpAny (model P w) A (do
      storeSet a es1 t2
      if !false && t2.tooFull then setRelay a (SetTable.grown (es.size + 1))
      return true) Q E s := by
    intro t2 T2 m2 l2 f2
    have psz : t2.place.size = es1.size := by
      have := T2.sz
      rw [hsN, List.length_map, hlen] at this
      rw [this, hes]
    refine wpAny_bind (wpAny_storeSet_of ho hd ?_ (by rw [hes, sizeLine_eq]; omega))
    have sb : Heap.SameBut a s.heap (s.heap.update a (Obj.putSet es1 t2)) := Heap.SameBut.update ..
    have ho1 := store_at (es' := es1) (t' := t2) ho hd
    generalize s.heap.update a (Obj.putSet es1 t2) = h1 at sb ho1 ⊢
    have key1 : ∀ p ∈ L1, Nk P w h1 p.2 p.1 := fun p hp => by
      rcases List.mem_cons.mp (pm.mem_iff.mp hp) with e | hp
      · rw [e]; exact nk_other hx ho hd sb
      · exact nk_other (R.key p hp) ho hd sb
    have ld1 : w.params.followText "set-order" = true ∨ t2.led = true := by rw [l2]; exact R.led
    have full : t1.tooFull = true ↔ (L.length + 1) * 5 ≥ t.mask * 3 := by
      unfold SetTable.tooFull
      rw [decide_eq_true_eq, q9, hsN, List.length_map, q4]
    by_cases hf : t1.tooFull = true
    · refine wp_if_pos (by rw [f2, hf]; rfl) ?_
      have hfull := full.mp hf
      have two : (t.mask = 7 ∧ L.length = 4) ∨ (t.mask = 31 ∧ L.length = 18) := by
        rcases R.tab.mok with e | e | e <;> rw [e] at hfull hroom <;> first | exact .inl ⟨e, by omega⟩ | exact .inr ⟨e, by omega⟩ | omega
      have fin : ∀ M, SetTable.sizeAbove (SetTable.grown (es.size + 1)) - 1 = M → MaskOk M → SetTable.sizeAbove (SetTable.grown (es.size + 1)) ≤ 128 → (L.length + 1) * 5 < M * 3 →
          wpAny (model P w) A (setRelay a (SetTable.grown (es.size + 1))) (fun _ z => wpAny (model P w) A (pure true) Q E z) E { s with heap := h1 } := fun M h1' h2' h3' h4' =>
        relay (s := { s with heap := h1 }) ho1 ⟨hex.1, hex.2.1, hex.2.2⟩ rfl hin (fits_of (L := L1) T2.dm psz (by rw [hes, m2]; rcases two with ⟨e, e2⟩ | ⟨e, e2⟩ <;> omega)) nd1 key1 ld1 (by rw [hlen]; exact hf1) h1' h2' h3' (by rw [hlen]; exact h4')
          fun h2 L2 es2 ep2 t2' sb2 R2 pm2 => wpAny_pure (hQ true h2 L2 es2 ep2 t2' (sb.trans sb2) R2 (fun z => absurd z hm) fun _ => pm2.trans pm)
      refine wpAny_bind ?_
      rcases two with ⟨_, e2⟩ | ⟨_, e2⟩
      · exact fin 31 (by rw [hsl, e2, size_20]) (.inr (.inl rfl)) (by rw [hsl, e2, size_20]; decide) (by omega)
      · exact fin 127 (by rw [hsl, e2, size_76]) (.inr (.inr rfl)) (by rw [hsl, e2, size_76]; decide) (by omega)
    · refine wp_if_neg (by rw [f2]; simp [hf]) ?_
      try refine wpAny_bind (wpAny_pure ?_)
      have hnf : ¬ (L.length + 1) * 5 ≥ t.mask * 3 := fun z => hf (full.mpr z)
      exact wpAny_pure (hQ true h1 L1 es1 (ep + 1) t2 sb ⟨⟨_, ho1, ⟨hex.1, hex.2.1, hex.2.2⟩, rfl⟩, hin, T2, nd1, key1, ld1, by rw [hlen, m2]; omega, by rw [hlen]; exact hf1⟩ (fun z => absurd z hm) fun _ => pm)
  have go' : ∀ b : Bool, wpAny (model P w) A (do
      storeSet a es1 (if b = true then t1 else { t1 with plain := false })
      if !false && (if b = true then t1 else { t1 with plain := false }).tooFull then setRelay a (SetTable.grown (es.size + 1))
      return true) Q E s := fun b => by
    cases b with
    | true => exact go t1 q3 q4 q5 rfl
    | false => exact go { t1 with plain := false } ⟨q3.ris, q3.dm, q3.sz, q3.mok, q3.bd, q3.reach⟩ q4 q5 rfl
  by_cases hp : t1.plain = true
  · first
      | (refine wp_if_pos hp (wpAny_bind (hbAt k 8 _ hx.1 A E _ fun b => ?_)); exact go' b)
      | (refine wpAny_bind ?_; refine wp_if_pos hp (hbAt k 8 _ hx.1 A E _ fun b => ?_); exact go' b)
  · first
      | (refine wp_if_neg hp (wpAny_bind (wpAny_pure ?_)); exact go' true)
      | (refine wpAny_bind ?_; refine wp_if_neg hp (wpAny_pure ?_); exact go' true)
/-! ### filled from a list -/
/-- what came of the first i -/
structure GotN (ks : List Ky) (i : Nat) (L : List Ky) : Prop where
  sub : ∀ p ∈ L, p ∈ ks.take i
  all : ∀ p ∈ ks.take i, p.2 ∈ L.map (·.2)
theorem GotN.step {ks L L' : List Ky} {i : Nat} {x : Ky} (g : GotN ks i L) (h : ks[i]? = some x) (h1 : x.2 ∈ L.map (·.2) → L' = L) (h2 : x.2 ∉ L.map (·.2) → L'.Perm (x :: L)) : GotN ks (i + 1) L' := by
  have e : ks.take (i + 1) = ks.take i ++ [x] := by
    rw [List.take_add_one, h]
    rfl
  by_cases c : x.2 ∈ L.map (·.2)
  · rw [h1 c]
    refine ⟨fun p hp => by rw [e]; exact List.mem_append_left _ (g.sub p hp), fun p hp => ?_⟩
    rw [e] at hp
    rcases List.mem_append.mp hp with z | z
    · exact g.all p z
    · rw [List.mem_singleton.mp z]; exact c
  · have pm := h2 c
    refine ⟨fun p hp => ?_, fun p hp => ?_⟩
    · rw [e]
      rcases List.mem_cons.mp (pm.mem_iff.mp hp) with z | z
      · rw [z]; exact List.mem_append_right _ (List.mem_singleton.mpr rfl)
      · exact List.mem_append_left _ (g.sub p z)
    · rw [(pm.map (·.2)).mem_iff, List.map_cons]
      rw [e] at hp
      rcases List.mem_append.mp hp with z | z
      · exact List.mem_cons_of_mem _ (g.all p z)
      · rw [List.mem_singleton.mp z]; exact List.mem_cons_self
theorem nk_keep {h h' : Heap} {k : NestedKey} {b : Addr} (x : Nk P w h k b) (hk : ∀ c o, h.get? c = some o → h'.get? c = some o) : Nk P w h' k b := nestedKind_stays.stays (fun c u _ _ e _ => hk c u e) x
theorem SetN.keep {h h' : Heap} {a : Addr} {L : List Ky} {es : Array (Int × Value)} {ep : Nat} {t : SetTable} (R : SetN P w h a L es ep t) (ha : ∀ o, h.get? a = some o → h'.get? a = some o) (hk : ∀ p ∈ L, Nk P w h' p.2 p.1) : SetN P w h' a L es ep t := by
  obtain ⟨o, ho, r⟩ := R.ob
  exact ⟨⟨o, ha o ho, r⟩, R.rows, R.tab, R.nd, hk, R.led, R.room, R.few⟩
theorem setN_new {h : Heap} {a : Addr} (ho : h.get? a = some { cls := .type "set", dict := none, data := .set #[] 0 (.fresh 0 0 (!w.params.followText "set-order")) }) : SetN P w h a [] #[] 0 (.fresh 0 0 (!w.params.followText "set-order")) :=
  ⟨⟨_, ho, ⟨rfl, rfl, rfl⟩, rfl⟩, rfl, ⟨List.Pairwise.nil, rfl, rfl, .inl rfl, (fun x hx => nomatch hx), fun i h j hi => by simp [hsN] at hi⟩, List.nodup_nil, (fun p hp => nomatch hp), by
    show _ ∨ (!w.params.followText "set-order") = true
    cases w.params.followText "set-order" <;> simp, by show 0 * 5 < 7 * 3; decide, by show 0 < 64; decide⟩
/-- few keys at every turn -/
def FewKeys (ks : List Ky) : Prop := ∀ L : List Ky, (L.map (·.2)).Nodup → (∀ p ∈ L, p ∈ ks) → L.length < 64
theorem fillN {I : Addr} {fp wr : List Addr} {G : Array GenState → Array GenState → Prop} {n : Nat} {Pv : Nat → Value → Prop} {St : Nat → Shared → Prop} {R : Result → Shared → Prop} (W : WalksS P w A.in1 I fp wr G n Pv St) (S : Addr) (hSf : S ∉ fp) (ks : List Ky) (hn : n = ks.length) (few : FewKeys ks)
    (hval : ∀ i v, Pv i v → ∃ p, ks[i]? = some p ∧ v = .ref p.1) (h0 : Heap) (hk : ∀ p ∈ ks, Nk P w h0 p.2 p.1) (hS0 : h0.get? S = none) (hw0 : ∀ b ∈ wr, h0.get? b = none) (hu : (nestedKind P w).room A.in1) :
    ∀ (m i : Nat) (s : Shared), n - i = m → i ≤ n → St i s → (∀ b o, h0.get? b = some o → s.heap.get? b = some o) → (∃ L es ep t, SetN P w s.heap S L es ep t ∧ GotN ks i L) →
      (∀ s' L es ep t, Moved (S :: wr) G s s' → SetN P w s'.heap S L es ep t → GotN ks n L → (∀ b o, h0.get? b = some o → s'.heap.get? b = some o) → R (.ok (.ret .none)) s') →
      codeAny (model P w) A (.builtin "set.update.loop" ⟨[.ref S, .ref I], []⟩) R s := by
  have hSw : S ∉ wr := fun h => hSf (W.sub _ h)
  have wide : ∀ b ∈ wr, b ∈ S :: wr := fun b hb => List.mem_cons_of_mem _ hb
  have old : ∀ {s s' : Shared}, Moved wr G s s' → (∀ b o, h0.get? b = some o → s.heap.get? b = some o) → ∀ b o, h0.get? b = some o → s'.heap.get? b = some o := fun hm hkp b o e => hm.heap b o (fun hb => by rw [hw0 b hb] at e; cases e) (hkp b o e)
  intro m
  induction m with
  | zero =>
    rintro i s hm hi hst hkp ⟨L, es, ep, t, hS, g⟩ hR
    obtain rfl : i = n := by omega
    refine codeAny_builtin F.entry_set_update_loop ?_
    rw [Around.under_plainId F.plain_set_update_loop _]
    show wpAny _ A.in1 (pyNext (.ref I) >>= _) _ _ s
    refine wpAny_bind (W.done s _ _ hst fun s' mv => ?_)
    show wpAny _ A.in1 (ret Value.none) _ _ s'
    exact wpAny_pure (hR s' L es ep t (mv.mono wide) (hS.keep (fun o e => mv.heap S o hSw e) fun p hp => nk_keep (hk p (List.mem_of_mem_take (g.sub p hp))) (old mv hkp)) g (old mv hkp))
  | succ m ih =>
    rintro i s hm hi hst hkp ⟨L, es, ep, t, hS, g⟩ hR
    have hlt : i < n := by omega
    refine codeAny_builtin F.entry_set_update_loop ?_
    rw [Around.under_plainId F.plain_set_update_loop _]
    show wpAny _ A.in1 (pyNext (.ref I) >>= _) _ _ s
    refine wpAny_bind (W.item i s _ _ hlt hst fun v s' hP hst' mv => ?_)
    obtain ⟨p, hp, rfl⟩ := hval i v hP
    have hkp' := old mv hkp
    have hmem := List.mem_of_getElem? hp
    have hS' : SetN P w s'.heap S L es ep t := hS.keep (fun o e => mv.heap S o hSw e) fun q hq => nk_keep (hk q (List.mem_of_mem_take (g.sub q hq))) hkp'
    have hx : Nk P w s'.heap p.2 p.1 := nk_keep (hk p hmem) hkp'
    show wpAny _ A.in1 (holding [Value.ref p.1] (setAdd S (.ref p.1)) >>= _) _ _ s'
    refine wpAny_bind (wpAny_holding ?_)
    unfold setAdd
    refine wpAny_holding ?_
    refine wpAny_bind ((nestedKind P w).pyHash hu hx ?_)
    have fw : p.2 ∉ L.map (·.2) → L.length + 1 < 64 := fun hno => by
      have := few (p :: L) (by rw [List.map_cons]; exact List.nodup_cons.mpr ⟨hno, hS.nd⟩) fun q hq => by
        rcases List.mem_cons.mp hq with z | z
        · rw [z]; exact hmem
        · exact List.mem_of_mem_take (g.sub q z)
      simpa using this
    refine addN (s := { s' with toks := s'.toks + (nestedKind P w).draws p.2 }) hS' hx hu fw fun b h' L' es' ep' t' hsb hS2 c1 c2 => ?_
    have hkp2 : ∀ b o, h0.get? b = some o → h'.get? b = some o := fun b o e => (hsb.2 b fun z => by rw [z, hS0] at e; cases e).trans (hkp' b o e)
    refine wpAny_pure ⟨plainId_quiet F.plain_set_update_loop _, ih (i + 1) _ (by omega) hlt (W.frame _ s' _ _ hst' (Nat.le_add_right _ _) fun b hb o e => ?_) hkp2 ⟨L', es', ep', t', hS2, g.step hp c1 c2⟩ fun s'' L2 es2 ep2 t2 mv2 hS3 g3 hkp3 => ?_⟩
    · rw [hsb.2 b fun z : b = S => hSf (by rw [← z]; exact hb)]; exact e
    · refine hR s'' L2 es2 ep2 t2 (Moved.trans W.gtrans ((mv.mono wide).then_heap (Nat.le_add_right _ _) fun b o hb e => ?_) mv2) hS3 g3 hkp3
      rw [hsb.2 b fun z : b = S => hb (by rw [z]; exact List.mem_cons_self)]; exact e
end
end
end K64

/-! ## K64Set2 -/
/-! set(xs), sorted(set(xs)) over data. -/
namespace K64
open PySem PySem.Spec PyProof.Rows L2 PySem.W
section
variable {P : Program} {w : World} {A : Around} {E : Value → Shared → Prop} {s : Shared}
/-- the new set object -/
abbrev emptyS (w : World) : Obj := { cls := .type "set", dict := none, data := .set #[] 0 (.fresh 0 0 (!w.params.followText "set-order")) }
theorem call_setN {l : Addr} {items : Array Value} (ks : List Ky) {Q : Value → Shared → Prop} (hh : A.handled = none) (hl : s.heap.IsList l items) (hit : items.toList = ks.map fun p => Value.ref p.1) (hk : ∀ p ∈ ks, Nk P w s.heap p.2 p.1) (few : FewKeys ks) (hu : A.units + 20 < cLine)
    (h : ∀ (h' : Heap) (tk : Nat) L es ep t, SetN P w h' s.heap.objs.size L es ep t → GotN ks ks.length L → (∀ b o, s.heap.get? b = some o → h'.get? b = some o) → Q (.ref s.heap.objs.size) { s with heap := h', toks := tk }) :
    wpAny (model P w) A (call (.type "set") [.ref l]) Q E s := by
  have hisz : items.size = ks.length := by rw [← Array.length_toList, hit, List.length_map]
  have hval : ∀ (i : Nat) (v : Value), items[i]? = some v → ∃ p, ks[i]? = some p ∧ v = .ref p.1 := fun i v hv => by
    rw [← Array.getElem?_toList, hit, List.getElem?_map] at hv
    obtain ⟨p, h1, h2⟩ := Option.map_eq_some_iff.mp hv
    exact ⟨p, h1, h2.symm⟩
  have void : ∀ b, s.heap.objs.size ≤ b → s.heap.get? b = none := fun b hb => by
    cases q : s.heap.get? b with
    | none => rfl
    | some o => exact absurd (Nat.lt_of_lt_of_le (Heap.lt_size q) hb) (Nat.lt_irrefl _)
  obtain ⟨c, tl, hmro⟩ := F.called_set.mro
  have hmade := F.called_set.made
  have hsub := F.called_set.sub
  refine wpAny_call (codeAny_of_tree ?_)
  show wpAny _ _ (callAny (.type "set") _) _ _ _
  refine wpAny_pure ⟨Code.quiet_builtin _ (by decide +kernel), codeAny_builtin F.entry_type_call ?_⟩
  rw [Around.under_plain (weight_type_call_type "set" [.ref l] []) rfl]
  have h1 := F.called_set.notType
  have h2 := F.called_set.canCreate
  have hct := F.typeCall_set_1 (.ref l)
  repeat (any_goals (first | assumption | wp_step))
  refine codeAny_mono (code_set_led1 (.ref l) (E := E) (Q₁ := fun obj z => obj = .ref s.heap.objs.size ∧ z = { s with heap := s.heap.push (emptyS w) }) ⟨rfl, rfl⟩) fun r z hr => ?_
  cases r with
  | error e => exact hr
  | ok fl =>
    cases fl with
    | ret obj =>
      obtain ⟨rfl, rfl⟩ := hr
      have hS : (s.heap.push (emptyS w)).get? s.heap.objs.size = some (emptyS w) := Heap.get?_push_size _ rfl
      have hT : Shared.TypeIs { s with heap := s.heap.push (emptyS w) } (.ref s.heap.objs.size) "set" := ⟨_, hS, rfl⟩
      have hli := F.called_set.init.lookup
      have hbi := F.called_set.init.bind (.ref s.heap.objs.size)
      repeat (any_goals (first | assumption | wp_step))
      refine codeAny_mono (codeAny_call_builtin (R := wants (fun r z => r = .none ∧ ∃ h' tk L es ep t, z = { s with heap := h', toks := tk } ∧ SetN P w h' s.heap.objs.size L es ep t ∧ GotN ks ks.length L ∧ ∀ b o, s.heap.get? b = some o → h'.get? b = some o) E)
        F.called_set.init.plain F.entry_set_init (check_set_init_1 hT ?_)) fun r z hr => ?_
      · obtain ⟨⟨ocls, odict, odata, oslots⟩, hol, rfl, nl, rfl⟩ := id hl
        have hol' : (s.heap.push (emptyS w)).get? l = some ⟨.type "list", odict, .seq items nl, oslots⟩ := Heap.get?_push_of_some _ hol
        have hsls := F.sub_list_set
        have hslf := F.sub_list_frozenset
        have hne : (Value.type "list" == Value.type "dict") = false := by decide
        have hl1 : (s.heap.push (emptyS w)).IsList l items := ⟨_, hol', rfl, nl, rfl⟩
        unfold Builtin.«set.__init__» noKeywords Builtin.Frozenset.updateFrom
        generalize hPI : pyIter = PI
        wp_walk
        subst hPI
        refine wpAny_pyIter_list hl1 ?_
        refine wpAny_bind (wpAny_runValue ?_)
        have hlS : l < s.heap.objs.size := Heap.lt_size hol
        have hh3 : A.in1.in1.in1.handled = none := by simp [hh]
        have hneI : l ≠ (s.heap.push (emptyS w)).objs.size := by
          rw [Heap.size_push]; exact Nat.ne_of_lt (Nat.lt_succ_of_lt hlS)
        have hSf : s.heap.objs.size ∉ [(s.heap.push (emptyS w)).objs.size, l] := by
          rw [Heap.size_push]; simp only [List.mem_cons, List.mem_singleton, List.not_mem_nil, or_false, not_or]
          exact ⟨Nat.ne_of_lt (Nat.lt_succ_self _), Nat.ne_of_gt hlS⟩
        refine fillN ((Walks.list hh3 _ l hneI items).toS) s.heap.objs.size hSf ks hisz few hval s.heap hk (void _ (Nat.le_refl _)) (fun b hb => void b (by
            rw [List.mem_singleton.mp hb, Heap.size_push]
            exact Nat.le_succ _)) (by show A.units + 1 + 1 + 1 + 8 < cLine; omega) (items.size - 0) 0 _ (by omega) (Nat.zero_le _)
          ⟨⟨_, Heap.get?_push_size _ rfl, rfl, rfl⟩, (hl1.push _)⟩ (fun b o e => Heap.get?_push_of_some _ (Heap.get?_push_of_some _ e)) ⟨[], #[], 0, _, setN_new (Heap.get?_push_of_some _ hS), ⟨(fun p hp => nomatch hp), fun p hp => by simp at hp⟩⟩ ?_
        intro z L es ep t hm hS' g' hkp
        obtain ⟨h', g2, d', tk', os'⟩ := z
        obtain rfl : g2 = s.gens := hm.gens
        obtain rfl : d' = s.drawn := hm.drawn
        obtain rfl : os' = s.os := hm.os
        show wpAny _ _ _ _ _ _
        refine wpAny_pure ?_
        show wpAny _ _ (ret Value.none) _ _ _
        rw [hisz] at g'
        exact wpAny_pure ⟨rfl, h', tk', L, es, ep, t, rfl, hS', g', hkp⟩
      · cases r with
        | error e => exact hr
        | ok fl2 =>
          cases fl2 with
          | ret r =>
            obtain ⟨rfl, h', tk, L, es, ep, t, rfl, hS', g', hk'⟩ := hr
            repeat (any_goals (first | assumption | wp_step))
            exact h _ _ _ _ _ _ hS' g' hk'
          | _ => exact hr.elim
    | _ => exact hr.elim
end
end K64

/-! ## K64Set3 -/
/-! sorted(set(xs)) over data whose keys nest. -/
namespace K64
open PySem PySem.Spec PyProof.Rows L2 PySem.W
/-- the set at a, its keys' own tuples aside -/
def SetN0 (w : World) (h : Heap) (a : Addr) (L : List Ky) : Prop := ∃ (es : Array (Int × Value)) (ep : Nat) (t : SetTable), (∃ o, h.get? a = some o ∧ o.ExactSet ∧ o.data = .set es ep t) ∧ es.toList = rwN w L ∧ TabOk t (hsN w L) ∧ (L.map (·.2)).Nodup ∧
  (w.params.followText "set-order" = true ∨ t.led = true) ∧ L.length * 5 < t.mask * 3 ∧ L.length < 64
def SNO (w : World) (a : Addr) (L : List Ky) : HO := .ext fun h => SetN0 w h a L
theorem sno_ok {P : Program} {w : World} {H : Hp} {h : Heap} {a : Addr} {L : List Ky} (R : SetN0 w h a L) : ObjOk P w H h a (SNO w a L) := by
  obtain ⟨es, ep, t, ⟨o, ho, r⟩, q⟩ := id R
  exact ⟨R, ⟨o, ho⟩, fun h1 h2 p k => let ⟨es', ep', t', ⟨o', ho', r'⟩, q'⟩ := p; ⟨es', ep', t', ⟨o', k o' ho', r'⟩, q'⟩⟩
/-- a kind of data that keys a set -/
class KeyD (α : Type) [DecidableEq α] [DatumOrd α] where
  kf : α → NestedKey
  key : ∀ a : α, keyOf (Datum.toD a) = some (kf a)
  dep : ∀ a : α, (kf a).depth ≤ 8
  tup : ∀ a : α, ∃ xs, (Datum.toD a : PyData) = .tuple xs
  inj : ∀ a b : α, kf a = kf b → a = b
section
variable {X : Cx} {α : Type} [DecidableEq α] [DatumOrd α] [KeyD α]
/-- few members, however often each -/
def Few (bs : List α) : Prop := ∀ l : List α, l.Nodup → (∀ a ∈ l, a ∈ bs) → l.length < 64
/-- an item of the list: its address, what it reads as -/
theorem refs_dx {w : World} {K : PySem.W.Frag} {G : Hp} : ∀ {xs : List V} {bs : List α}, DxAll w K G xs (bs.map Datum.toD) → ∃ cs : List (Addr × α), cs.map (·.2) = bs ∧ xs = cs.map (fun c => V.ref c.1) ∧ ∀ c ∈ cs, Dx w K G (.ref c.1) (Datum.toD c.2)
  | _, [], h => by
    cases h
    exact ⟨[], rfl, rfl, fun _ h => nomatch h⟩
  | _, b :: bs, h => by
    rw [List.map_cons] at h
    cases h with
    | cons d r =>
      obtain ⟨cs, e1, e2, e3⟩ := refs_dx r
      obtain ⟨ks, e⟩ := KeyD.tup b
      obtain ⟨c, rfl⟩ := ref_of_key (e ▸ d)
      refine ⟨(c, b) :: cs, by rw [List.map_cons, e1], by rw [List.map_cons, e2], fun q hq => ?_⟩
      rcases List.mem_cons.mp hq with rfl | hq
      · exact d
      · exact e3 q hq
theorem vals_refs : ∀ {cs : List (Addr × α)} {us : List Value}, Vals (cs.map fun c => V.ref c.1) us → us = cs.map fun c => Value.ref c.1
  | [], _, .nil => rfl
  | c :: cs, _, .cons r t => by
    cases r
    rw [vals_refs t]
    rfl
def rSetD (w : World) (K : PySem.W.Frag) (α : Type) [DecidableEq α] [DatumOrd α] [KeyD α] : List V → Hp → VK → Prop := fun xs H Q => ∃ (l : Addr) (G : Hp) (bs : List α), xs = [.ref l] ∧ Same G H ∧ Dx w K G (.ref l) (.list (bs.map Datum.toD)) ∧ Few bs ∧
  ∀ a (M : List (Addr × α)), H a = none → (∀ c ∈ M, Dx w K G (.ref c.1) (Datum.toD c.2)) → (M.map (·.2)).Nodup → (∀ b, b ∈ M.map (·.2) ↔ b ∈ bs) → Q (.ref a) (upd H a (SNO w a (M.map fun c => (c.1, KeyD.kf c.2))))
theorem key_of {pins : List (Addr × Obj)} {σ : L2.St} {H G : Hp} {s : Shared} (I : Inv X pins σ H s) (sg : Same G H) {c : Addr × α} (h : Dx X.w X.K G (.ref c.1) (Datum.toD c.2)) : Nk X.prog X.w s.heap (KeyD.kf c.2) c.1 :=
  ⟨Dx.key I (h.mono sg) (KeyD.key c.2) rfl, KeyD.dep c.2⟩
theorem crD_set (hc : X.calm = true) (hu : X.A.units + 64 < cLine) : CallR X (.type "set") (rSetD X.w X.K α) := by
  intro pins s σ H vs us Q I r h
  obtain ⟨l, G, bs, rfl, sg, dx, few, q⟩ := h
  cases dx with
  | lst hx rx =>
    obtain ⟨its, rv, pl, hz⟩ := I.list (.inl (.inl (sg _ _ hx)))
    obtain ⟨cs, rfl, rfl, hcs⟩ := refs_dx rx
    rw [Vals.ref1 r]
    have hn : H s.heap.objs.size = none := I.hok.fresh (Nat.le_refl _)
    have back : ∀ p ∈ cs.map (fun c => (c.1, KeyD.kf c.2)), ∃ c ∈ cs, p = (c.1, KeyD.kf c.2) := fun p hp => by
      obtain ⟨c, h1, h2⟩ := List.mem_map.mp hp
      exact ⟨c, h1, h2.symm⟩
    -- a list of such pairs comes from the items
    have lift : ∀ L : List Ky, (∀ p ∈ L, p ∈ cs.map fun c => (c.1, KeyD.kf c.2)) → ∃ M : List (Addr × α), L = M.map (fun c => (c.1, KeyD.kf c.2)) ∧ ∀ c ∈ M, c ∈ cs := by
      intro L
      induction L with
      | nil => exact fun _ => ⟨[], rfl, fun _ h => nomatch h⟩
      | cons p L ih =>
        intro h
        obtain ⟨c, hc1, e⟩ := back p (h p List.mem_cons_self)
        obtain ⟨M, e1, e2⟩ := ih fun q hq => h q (List.mem_cons_of_mem _ hq)
        refine ⟨c :: M, by rw [e, e1, List.map_cons], fun d hd => ?_⟩
        rcases List.mem_cons.mp hd with rfl | hd
        · exact hc1
        · exact e2 d hd
    have nodup_of : ∀ M : List (Addr × α), ((M.map fun c => (c.1, KeyD.kf c.2)).map (·.2)).Nodup → (M.map (·.2)).Nodup := fun M hM => by
      rw [List.map_map] at hM
      refine List.pairwise_map.mpr ((List.pairwise_map.mp hM).imp fun {c d} hne e => hne ?_)
      show KeyD.kf c.2 = KeyD.kf d.2
      rw [e]
    have fk : FewKeys (cs.map fun c => (c.1, KeyD.kf c.2)) := fun L nd hL => by
      obtain ⟨M, rfl, hM⟩ := lift L hL
      have := few (M.map (·.2)) (nodup_of M nd) fun a ha => by
        obtain ⟨c, h1, rfl⟩ := List.mem_map.mp ha
        exact List.mem_map.mpr ⟨c, hM c h1, rfl⟩
      simpa using this
    refine call_setN (P := X.prog) (w := X.w) (cs.map fun c => (c.1, KeyD.kf c.2)) (I.ok.hd hc) pl.isList (by
        rw [List.map_map]
        have e := vals_refs rv
        rw [e]
        rfl) (fun p hp => ?_) fk (by omega) fun h' tk L es ep t R g k => ?_
    · obtain ⟨c, h1, rfl⟩ := back p hp
      exact key_of I sg (hcs c h1)
    · obtain ⟨M, rfl, hM⟩ := lift L fun p hp => List.mem_of_mem_take (g.sub p hp)
      refine ⟨.ref s.heap.objs.size, _, I.laid (t' := tk) k (Nat.le_refl _) (sno_ok ⟨es, ep, t, R.ob, R.rows, R.tab, R.nd, R.led, R.room, R.few⟩), rfl, q _ M hn (fun c h1 => hcs c (hM c h1)) (nodup_of M R.nd) fun b => ⟨fun hb => ?_, fun hb => ?_⟩⟩
      · obtain ⟨c, h1, rfl⟩ := List.mem_map.mp hb
        exact List.mem_map.mpr ⟨c, hM c h1, rfl⟩
      · obtain ⟨c, h1, rfl⟩ := List.mem_map.mp hb
        have := g.all (c.1, KeyD.kf c.2) (by rw [List.take_length]; exact List.mem_map.mpr ⟨c, h1, rfl⟩)
        rw [List.map_map] at this
        obtain ⟨d, h2, h3⟩ := List.mem_map.mp this
        rw [← KeyD.inj _ _ (show KeyD.kf d.2 = KeyD.kf c.2 from h3)]
        exact List.mem_map.mpr ⟨d, h2, rfl⟩
/-- sorted of such a set -/
def rSortS (w : World) (K : PySem.W.Frag) (α : Type) [DecidableEq α] [DatumOrd α] [KeyD α] : List V → Hp → VK → Prop := fun xs H Q => ∃ (a : Addr) (G : Hp) (M : List (Addr × α)), xs = [.ref a] ∧ Same G H ∧ H a = some (SNO w a (M.map fun c => (c.1, KeyD.kf c.2))) ∧ (∀ c ∈ M, Dx w K G (.ref c.1) (Datum.toD c.2)) ∧ (M.map (·.2)).Nodup ∧
  (∀ l : List α, l.Perm (M.map (·.2)) → SortOk (l.map Datum.toD)) ∧ ∀ p ys (l : List α), l.Perm (M.map (·.2)) → H p = none → DxAll w K G ys ((srt l).map Datum.toD) → Q (.ref p) (upd H p (.lst ys))
theorem crD_sortedSet (hc : X.calm = true) (hu : X.A.units + 64 < cLine) (hd : Datum.depth α ≤ 60) : CallR X (.builtin "sorted") (rSortS X.w X.K α) := by
  intro pins s σ H vs us Q I r h
  obtain ⟨a, G, M, rfl, sg, ha, hM, hnd, ok, q⟩ := h
  rw [Vals.ref1 r]
  obtain ⟨es, ep, t, ⟨o, ho, hex, hd0⟩, hrows, htab, hkn, hled, hroom, hfew⟩ := (show SetN0 X.w s.heap a (M.map fun c => (c.1, KeyD.kf c.2)) from (I.hok a _ ha).1)
  have hsz := rows_len hrows
  rw [List.length_map] at hsz hroom hfew
  have psz : t.place.size = es.size := by
    have := htab.sz
    rw [hsN, List.length_map, List.length_map] at this
    rw [this, hsz]
  refine Calls.call_function_entry kind_sorted plain_sorted entry_sorted (args_sorted1 _) ?_
  unfold Builtin.«sorted»
  refine wpAny_bind (m := checkCount "sorted" 1 1 _) (wpAny_pure ?_)
  refine wpAny_bind (collect_set (A := X.A.in1) (I.ok.hd hc) ⟨o, ho, hex.1, hd0⟩ (fits_of (L := M.map fun c => (c.1, KeyD.kf c.2)) htab.dm psz (by omega)) (by unfold scanBound; omega) htab.ris hled fun s1 vs k1 hz g1 o1 pm => ?_)
  have hes : es.toList.map (·.2) = M.map fun c => Value.ref c.1 := by
    rw [hrows, rwN, List.map_map, List.map_map]
    rfl
  rw [hes] at pm
  -- the gathered values are the items in some order
  obtain ⟨M', hM', e'⟩ : ∃ M' : List (Addr × α), M'.Perm M ∧ vs = M'.map fun c => Value.ref c.1 := by
    have gen : ∀ (l m : List Value), l.Perm m → ∀ M : List (Addr × α), m = M.map (fun c => Value.ref c.1) → ∃ M' : List (Addr × α), M'.Perm M ∧ l = M'.map fun c => Value.ref c.1 := by
      intro l m p
      induction p with
      | nil =>
        intro M e
        cases M with
        | nil => exact ⟨[], .nil, rfl⟩
        | cons _ _ => cases e
      | cons x p ih =>
        intro M e
        cases M with
        | nil => cases e
        | cons c M =>
          rw [List.map_cons] at e
          injection e with e1 e2
          obtain ⟨M', h1, h2⟩ := ih M e2
          exact ⟨c :: M', h1.cons c, by rw [List.map_cons, e1, h2]⟩
      | swap x y l =>
        intro M e
        match M, e with
        | c :: d :: M, e =>
          rw [List.map_cons, List.map_cons] at e
          injection e with e1 e2
          injection e2 with e2 e3
          exact ⟨d :: c :: M, .swap .., by rw [List.map_cons, List.map_cons, e1, e2, e3]⟩
        | [c], e => cases e
        | [], e => cases e
      | trans p1 p2 ih1 ih2 =>
        intro M e
        obtain ⟨M2, h1, h2⟩ := ih2 M e
        obtain ⟨M1, h3, h4⟩ := ih1 M2 h2
        exact ⟨M1, h3.trans h1, h4⟩
    exact gen _ _ pm M rfl
  subst e'
  generalize hbs : M'.map (·.2) = bs
  have hperm : bs.Perm (M.map (·.2)) := by rw [← hbs]; exact hM'.map _
  have okb := ok bs hperm
  have hlen : bs.length < 64 := by rw [hperm.length_eq, List.length_map]; exact hfew
  have hsame : ∀ c ∈ M', Dx X.w X.K G (.ref c.1) (Datum.toD c.2) := fun c h => hM c (hM'.mem_iff.mp h)
  have k1' : ∀ b o, s.heap.get? b = some o → s1.heap.get? b = some o := k1
  have ents : ∀ {l : List (Addr × α)}, (∀ c ∈ l, Dx X.w X.K G (.ref c.1) (Datum.toD c.2)) → EachIs (fun u b => (∃ as, Reads s.heap u (Datum.toD b) as) ∧ ∃ x, RelV x u ∧ Dx X.w X.K G x (Datum.toD b)) (l.map fun c => Value.ref c.1) (l.map (·.2)) := by
    intro l
    induction l with
    | nil => exact fun _ => .nil
    | cons c l ih =>
      intro h
      have hcx := h c List.mem_cons_self
      exact .cons ⟨dx_reads I sg hcx (Datum.plain c.2) rfl, .ref c.1, rfl, hcx⟩ (ih fun d hd => h d (List.mem_cons_of_mem _ hd))
  have en := ents hsame
  rw [hbs] at en
  have hvl : (M'.map fun c => Value.ref c.1).length ≤ sizeLine := by
    rw [en.length, sizeLine_eq]
    omega
  refine wpAny_bind (wpAny_newList ?_ hvl)
  generalize (M'.map fun c => Value.ref c.1) = vs at en hvl ⊢
  have hoL : (s1.heap.push (seqObj "list" vs.toArray 0)).get? s1.heap.objs.size = some (seqObj "list" vs.toArray 0) := Heap.get?_push_size _ rfl
  have keepH : ∀ b o, s.heap.get? b = some o → (sortingHeap (s1.heap.push (seqObj "list" vs.toArray 0)) s1.heap.objs.size vs).get? b = some o := fun b o e =>
    sortingHeap_old (Nat.ne_of_lt (Heap.lt_size (k1' b o e))) (Heap.get?_push_of_some _ (k1' b o e))
  have er' : EachIs (fun v b => ∃ as, Reads (sortingHeap (s1.heap.push (seqObj "list" vs.toArray 0)) s1.heap.objs.size vs) v (Datum.toD b) as) vs bs := en.mono fun _ _ h => let ⟨as, r⟩ := h.1; ⟨as, PyProof.Rows.Reads.keeps keepH r⟩
  have em := each_map (R := fun v d => ∃ as, Reads (sortingHeap (s1.heap.push (seqObj "list" vs.toArray 0)) s1.heap.objs.size vs) v d as) Datum.toD er'
  have hb : ∀ d, d ∈ bs.map Datum.toD → X.A.in1.in1.units + d.depth < cLine := fun d hd' => by
    obtain ⟨b, hb, rfl⟩ := List.mem_map.mp hd'
    have := Datum.depth_le b
    show X.A.units + 1 + 1 + _ < cLine
    omega
  have S0 : SortsAt X.prog X.w X.A.in1.in1 { s1 with heap := sortingHeap (s1.heap.push (seqObj "list" vs.toArray 0)) s1.heap.objs.size vs } (dataKind (sortingHeap (s1.heap.push (seqObj "list" vs.toArray 0)) s1.heap.objs.size vs) (bs.map Datum.toD)) vs := by
    rcases okb with okb | ⟨rest, er0, ht⟩
    · exact SortsAt.data (s := { s1 with heap := sortingHeap (s1.heap.push (seqObj "list" vs.toArray 0)) s1.heap.objs.size vs }) em (alike_all bs) okb hb
    · have al := alike_all bs
      rw [er0] at em hb al ⊢
      exact sortsAt0 (s := { s1 with heap := sortingHeap (s1.heap.push (seqObj "list" vs.toArray 0)) s1.heap.objs.size vs }) em ht al hb
  have fin : ∀ (out' : List Value), EachIs (fun u b => ∃ x, RelV x u ∧ Dx X.w X.K G x (Datum.toD b)) out' (srt bs) → EP X pins σ Q (.ref s1.heap.objs.size) { s1 with heap := sortedHeap (s1.heap.push (seqObj "list" vs.toArray 0)) s1.heap.objs.size vs out'.toArray } := fun out' ho' => by
    obtain ⟨ys, v1, v2⟩ := vals_dx ho'
    obtain ⟨c, hc'⟩ := sortedHeap_at (vs := vs) (out := out'.toArray) hoL
    have hl : ys.length ≤ sizeLine := by
      rw [v2.length, List.length_map, srt, List.length_mergeSort, sizeLine_eq]
      omega
    have hn : H s1.heap.objs.size = none := I.hok.fresh hz
    have hk : ∀ b o, s.heap.get? b = some o → (sortedHeap (s1.heap.push (seqObj "list" vs.toArray 0)) s1.heap.objs.size vs out'.toArray).get? b = some o := fun b o e => by
      have e1 := k1' b o e
      have hlt := Heap.lt_size e1
      rw [sortedHeap_old (Nat.ne_of_lt hlt) (by rw [size_push']; exact Nat.lt_succ_of_lt hlt)]
      exact Heap.get?_push_of_some _ e1
    have J : Inv X pins σ (upd H s1.heap.objs.size (.lst ys)) { s with heap := sortedHeap (s1.heap.push (seqObj "list" vs.toArray 0)) s1.heap.objs.size vs out'.toArray, gens := s1.gens, drawn := s1.drawn, toks := s1.toks } :=
      I.call (ch := []) (Un.laid hk hz hn) (I.hok.laid hk hz ⟨hl, out', c, v1, hc'⟩) (by rw [g1]; exact I.bare) (fun _ z => nomatch z)
    have es1 : { s1 with heap := sortedHeap (s1.heap.push (seqObj "list" vs.toArray 0)) s1.heap.objs.size vs out'.toArray } = { s with heap := sortedHeap (s1.heap.push (seqObj "list" vs.toArray 0)) s1.heap.objs.size vs out'.toArray, gens := s1.gens, drawn := s1.drawn, toks := s1.toks } := by
      cases s1
      cases s
      cases o1
      rfl
    rw [es1]
    exact ⟨.ref _, _, J, rfl, q _ ys bs hperm hn v2⟩
  refine wpAny_bind (wpAny_holding (wpAny_call_entry slot_list_sort ⟨_, hoL, rfl⟩ entry_list_sort (list_sort_vals (s := { s1 with heap := s1.heap.push (seqObj "list" vs.toArray 0) }) hoL S0 hvl ?_) (args_list_sort _)))
  exact ⟨_, rfl, wpAny_pure ⟨_, rfl, fin _ (by rw [← srt_eq]; exact sortVals_data false (en.mono fun _ _ h => h.2) er' (alike_all bs))⟩⟩
end
end K64

/-! ## K64SetI -/
/-! Sets of numbers; the rules over data. -/
namespace K64
open PySem PySem.Spec PyProof.Rows L2 PySem.W
section
variable {P : Program} {w : World} {A : Around} {E : Value → Shared → Prop} {s : Shared}
theorem call_setI {l : Addr} {items : Array Value} (ns : List Int) {Q : Value → Shared → Prop} (hh : A.handled = none) (hl : s.heap.IsList l items) (hit : IntsAre items.toList ns) (hb : ns.length + 1 < scanBound)
    (h : ∀ (h' : Heap) (tk c : Nat), SetR w h' s.heap.objs.size (fun j => decide (j ∈ ns)) c → c ≤ ns.length → (∀ b o, s.heap.get? b = some o → h'.get? b = some o) → Q (.ref s.heap.objs.size) { s with heap := h', toks := tk }) :
    wpAny (model P w) A (call (.type "set") [.ref l]) Q E s := by
  have hisz : items.size = ns.length := by rw [← Array.length_toList]; exact IntsAre.length hit
  have hval : ∀ (i : Nat) (v : Value), items[i]? = some v → ∃ k t, ns[i]? = some k ∧ v = .int k t := fun i v hv => by
    have hi : i < ns.length := by rw [← hisz]; exact (Array.getElem?_eq_some_iff.mp hv).1
    obtain ⟨t, e⟩ := PyProof.Rows.IntsAre.int_at hit i v (by rw [Array.getElem?_toList]; exact hv)
    refine ⟨ns[i], t, List.getElem?_eq_getElem hi, ?_⟩
    rw [e, List.getD_eq_getElem?_getD, List.getElem?_eq_getElem hi]
    rfl
  obtain ⟨c, tl, hmro⟩ := F.called_set.mro
  have hmade := F.called_set.made
  have hsub := F.called_set.sub
  refine wpAny_call (codeAny_of_tree ?_)
  show wpAny _ _ (callAny (.type "set") _) _ _ _
  refine wpAny_pure ⟨Code.quiet_builtin _ (by decide +kernel), codeAny_builtin F.entry_type_call ?_⟩
  rw [Around.under_plain (weight_type_call_type "set" [.ref l] []) rfl]
  have h1 := F.called_set.notType
  have h2 := F.called_set.canCreate
  have hct := F.typeCall_set_1 (.ref l)
  repeat (any_goals (first | assumption | wp_step))
  refine codeAny_mono (code_set_led1 (.ref l) (E := E) (Q₁ := fun obj z => obj = .ref s.heap.objs.size ∧ z = { s with heap := s.heap.push (emptyS w) }) ⟨rfl, rfl⟩) fun r z hr => ?_
  cases r with
  | error e => exact hr
  | ok fl =>
    cases fl with
    | ret obj =>
      obtain ⟨rfl, rfl⟩ := hr
      have hS : (s.heap.push (emptyS w)).get? s.heap.objs.size = some (emptyS w) := Heap.get?_push_size _ rfl
      have hT : Shared.TypeIs { s with heap := s.heap.push (emptyS w) } (.ref s.heap.objs.size) "set" := ⟨_, hS, rfl⟩
      have hli := F.called_set.init.lookup
      have hbi := F.called_set.init.bind (.ref s.heap.objs.size)
      repeat (any_goals (first | assumption | wp_step))
      refine codeAny_mono (codeAny_call_builtin (R := wants (fun r z => r = .none ∧ ∃ h' tk c, z = { s with heap := h', toks := tk } ∧ SetR w h' s.heap.objs.size (fun j => decide (j ∈ ns)) c ∧ c ≤ ns.length ∧ ∀ b o, s.heap.get? b = some o → h'.get? b = some o) E)
        F.called_set.init.plain F.entry_set_init (check_set_init_1 hT ?_)) fun r z hr => ?_
      · obtain ⟨⟨ocls, odict, odata, oslots⟩, hol, rfl, nl, rfl⟩ := id hl
        have hol' : (s.heap.push (emptyS w)).get? l = some ⟨.type "list", odict, .seq items nl, oslots⟩ := Heap.get?_push_of_some _ hol
        have hsls := F.sub_list_set
        have hslf := F.sub_list_frozenset
        have hne : (Value.type "list" == Value.type "dict") = false := by decide
        have hl1 : (s.heap.push (emptyS w)).IsList l items := ⟨_, hol', rfl, nl, rfl⟩
        unfold Builtin.«set.__init__» noKeywords Builtin.Frozenset.updateFrom
        generalize hPI : pyIter = PI
        wp_walk
        subst hPI
        refine wpAny_pyIter_list hl1 ?_
        refine wpAny_bind (wpAny_runValue ?_)
        have hlS : l < s.heap.objs.size := Heap.lt_size hol
        have hh3 : A.in1.in1.in1.handled = none := by simp [hh]
        have hneI : l ≠ (s.heap.push (emptyS w)).objs.size := by
          rw [Heap.size_push]; exact Nat.ne_of_lt (Nat.lt_succ_of_lt hlS)
        have hSf : s.heap.objs.size ∉ [(s.heap.push (emptyS w)).objs.size, l] := by
          rw [Heap.size_push]; simp only [List.mem_cons, List.mem_singleton, List.not_mem_nil, or_false, not_or]
          exact ⟨Nat.ne_of_lt (Nat.lt_succ_self _), Nat.ne_of_gt hlS⟩
        refine set_update_ints ((Walks.list hh3 _ l hneI items).toS) s.heap.objs.size hSf ns hisz hb hval (items.size - 0) 0 _ (by omega) (Nat.zero_le _)
          ⟨⟨_, Heap.get?_push_size _ rfl, rfl, rfl⟩, (hl1.push _)⟩ ⟨0, Nat.le_refl 0, setR_new_at (Heap.get?_push_of_some _ hS)⟩ ?_
        intro z c hm hc hS'
        obtain ⟨h', g2, d', tk', os'⟩ := z
        obtain rfl : g2 = s.gens := hm.gens
        obtain rfl : d' = s.drawn := hm.drawn
        obtain rfl : os' = s.os := hm.os
        show wpAny _ _ _ _ _ _
        refine wpAny_pure ?_
        show wpAny _ _ (ret Value.none) _ _ _
        rw [hisz] at hc
        refine wpAny_pure ⟨rfl, h', tk', c, rfl, hS', hc, fun b o e => ?_⟩
        have hb0 : b < s.heap.objs.size := Heap.lt_size e
        refine hm.heap b o (fun hmem => ?_) (Heap.get?_push_of_some _ (Heap.get?_push_of_some _ e))
        rcases List.mem_cons.mp hmem with rfl | hmem
        · exact absurd hb0 (Nat.lt_irrefl _)
        · rw [List.mem_singleton.mp hmem, Heap.size_push] at hb0
          exact absurd (Nat.lt_of_succ_lt hb0) (Nat.lt_irrefl _)
      · cases r with
        | error e => exact hr
        | ok fl2 =>
          cases fl2 with
          | ret r =>
            obtain ⟨rfl, h', tk, c, rfl, hS', hc, hk'⟩ := hr
            repeat (any_goals (first | assumption | wp_step))
            exact h _ _ _ hS' hc hk'
          | _ => exact hr.elim
    | _ => exact hr.elim
end
end K64

/-! ## K64SetD -/
/-! sorted(set(e)), len(set(e)) over data. -/
namespace K64
open PySem PySem.Spec PyProof.Rows L2 PySem.W
/-! ### keys of this program -/
abbrev Row := Tup Nat
abbrev Tie := Str × Tup Nat
theorem keysOf_nums : ∀ l : List Nat, keysOf (l.map fun n => PyData.int (n : Nat)) = some (l.map fun n => NestedKey.num (n : Nat))
  | [] => rfl
  | n :: l => by
    rw [List.map_cons, keysOf, keysOf_nums l]
    rfl
theorem depth_nums : ∀ l : List Nat, NestedKey.depthAll (l.map fun n => NestedKey.num (n : Nat)) = 0
  | [] => rfl
  | n :: l => by
    rw [List.map_cons, NestedKey.depthAll, depth_nums l]
    rfl
theorem nums_inj : ∀ l m : List Nat, (l.map fun n => NestedKey.num (n : Nat)) = m.map (fun n => NestedKey.num (n : Nat)) → l = m
  | [], [], _ => rfl
  | [], _ :: _, h => by cases h
  | _ :: _, [], h => by cases h
  | a :: l, b :: m, h => by
    rw [List.map_cons, List.map_cons] at h
    injection h with h1 h2
    injection h1 with h1
    rw [nums_inj l m h2, Int.ofNat.inj h1]
instance : KeyD Row where
  kf t := .tup (t.items.map fun n => .num (n : Nat))
  key t := by
    show keyOf (.tuple (t.items.map fun n => PyData.int (n : Nat))) = _
    rw [keyOf, keysOf_nums]
    rfl
  dep t := by
    show NestedKey.depth (.tup _) ≤ 8
    rw [NestedKey.depth, depth_nums]
    decide
  tup t := ⟨_, rfl⟩
  inj a b h := by
    injection h with h
    have := nums_inj _ _ h
    cases a
    cases b
    simp only at this
    rw [this]
instance : KeyD Tie where
  kf t := .tup [.text t.1, .tup (t.2.items.map fun n => .num (n : Nat))]
  key t := by
    show keyOf (.tuple [.str t.1, .tuple (t.2.items.map fun n => PyData.int (n : Nat))]) = _
    simp only [keyOf, keysOf, keysOf_nums, Option.map_some, Option.bind_some]
  dep t := by
    show NestedKey.depth (.tup [_, .tup _]) ≤ 8
    simp only [NestedKey.depth, NestedKey.depthAll, depth_nums]
    decide
  tup t := ⟨_, rfl⟩
  inj a b h := by
    injection h with h
    injection h with h1 h2
    injection h1 with h1
    injection h2 with h2 _
    injection h2 with h2
    have := nums_inj _ _ h2
    obtain ⟨a1, ⟨a2⟩⟩ := a
    obtain ⟨b1, ⟨b2⟩⟩ := b
    simp only at this h1
    rw [this, h1]
section
variable {X : Cx} {ρ : Env} {e : Expr} {p p2 q pos : Pos}
/-- sorted(set(e)) -/
theorem de_sset {α : Type} [DecidableEq α] [DatumOrd α] [OrdLaw α] [KeyD α] {bs : List α} (hc : X.calm = true) (hu : X.A.units + 64 < cLine) (hd : Datum.depth α ≤ 60) (hg : Gl X "sorted") (hm : X.mg "sorted" = none) (hg2 : Gl X "set") (hm2 : X.mg "set" = none)
    (ha : DE X e ρ (.list (bs.map Datum.toD))) (few : Few bs) (ok : ∀ l : List α, l.Nodup → (∀ b, b ∈ l ↔ b ∈ bs) → SortOk (l.map Datum.toD))
    (s1 : starEach [e] X.env = (false, eval e X.env) :: starEach [] X.env := by rfl) (s2 : (backTo q (starEach [] X.env)).any (·.1) = false := by rfl)
    (s3 : starEach [.Call (.Name "set" p2) [e] [] q] X.env = (false, eval (.Call (.Name "set" p2) [e] [] q) X.env) :: starEach [] X.env := by rfl) (s4 : (backTo pos (starEach [] X.env)).any (·.1) = false := by rfl) :
    DE X (.Call (.Name "sorted" p) [.Call (.Name "set" p2) [e] [] q] [] pos) ρ (.list ((sset bs).map Datum.toD)) :=
  pe_imp (pe_callB (crD_sortedSet (α := α) hc hu hd) hg hm (by decide +kernel) (pa_cons (pe_callTy (crD_set (α := α) hc hu) hg2 hm2 (by decide +kernel) (pa_cons ha pa_nil s1) (by decide) (by decide) s1 s2) pa_nil s3) (by decide) (by decide) s3 s4) fun σ H Q ⟨G, s, env, k⟩ => ⟨G, s, env, fun v G1 H1 g1 dv => by
    cases dv with
    | lst hx rx =>
      refine ⟨_, G1, bs, rfl, g1.s, .lst hx rx, few, fun a M hn hM hnd hmem => ?_⟩
      refine ⟨a, G1, M, rfl, g1.s.trans (same_new hn), upd_same, hM, hnd, fun l hl => ok l (hl.nodup_iff.mpr hnd) fun b => by rw [hl.mem_iff, hmem], fun p ys l hl hp hy => ?_⟩
      have e' : srt l = sset bs := sset_eq (hl.nodup_iff.mpr hnd) fun b => by rw [hl.mem_iff, hmem]
      rw [e'] at hy
      have hp1 : H1 p = none := (same_new hn).free hp
      have gg : Grow G1 H1 (upd G1 p (.lst ys)) (upd (upd H1 a _) p (.lst ys)) := (Grow.own g1.s hn).trans (.new (g1.s.trans (same_new hn)) hp)
      exact k _ _ _ (g1.trans gg) (.lst upd_same (hy.mono (same_new (g1.s.free hp1))))⟩
theorem dxs_ints {w : World} {K : PySem.W.Frag} {G : Hp} : ∀ {xs : List V} {ns : List Nat}, DxAll w K G xs (ns.map fun n => PyData.int (n : Nat)) → xs = (ns.map fun (n : Nat) => (n : Int)).map V.int
  | _, [], h => by cases h; rfl
  | _, n :: ns, h => by
    rw [List.map_cons] at h
    cases h with
    | cons h1 h2 =>
      cases h1
      rw [dxs_ints h2]
      rfl
theorem dx_ints {w : World} {K : PySem.W.Frag} {G : Hp} : ∀ {ns : List Nat}, DxAll w K G ((ns.map fun (n : Nat) => (n : Int)).map V.int) (ns.map fun n => PyData.int (n : Nat))
  | [] => .nil
  | n :: ns => .cons (.int _) dx_ints
/-- set(e), e a list of numbers -/
def rSetI (w : World) (K : PySem.W.Frag) : List V → Hp → VK → Prop := fun xs H Q => ∃ (l : Addr) (ns : List Int), xs = [.ref l] ∧ SqL K H l (ns.map V.int) ∧ ns.length < 64 ∧ ∀ a c, H a = none → c ≤ ns.length → Q (.ref a) (upd H a (SetO w a (fun j => decide (j ∈ ns)) c))
theorem crD_setI (hc : X.calm = true) : CallR X (.type "set") (rSetI X.w X.K) := by
  intro pins s σ H vs us Q I r h
  obtain ⟨l, ns, rfl, hl, hf, q⟩ := h
  obtain ⟨its, rv, pl, hz⟩ := I.list hl
  rw [Vals.ref1 r]
  have hn : H s.heap.objs.size = none := I.hok.fresh (Nat.le_refl _)
  exact call_setI ns (I.ok.hd hc) pl.isList (by simpa using rv.ints) (by unfold scanBound; omega) fun h' tk c R hcl k => ⟨.ref _, _, I.laid (t' := tk) k (Nat.le_refl _) (setO_new R), rfl, q _ c hn hcl⟩
theorem nat_asc : ∀ {l : List Nat}, Asc l ↔ l.Pairwise (· < ·) := by
  intro l
  exact ⟨fun h => h.imp fun {a b} z => of_decide_eq_true z, fun h => h.imp fun {a b} z => decide_eq_true z⟩
theorem nat_list : ∀ ns : List Int, (∀ x ∈ ns, 0 ≤ x) → ∃ ms : List Nat, ns = ms.map fun (n : Nat) => (n : Int)
  | [], _ => ⟨[], rfl⟩
  | n :: ns, h => by
    obtain ⟨ms, e⟩ := nat_list ns fun x hx => h x (List.mem_cons_of_mem _ hx)
    exact ⟨n.toNat :: ms, by rw [List.map_cons, e, Int.toNat_of_nonneg (h n List.mem_cons_self)]⟩
/-- sorted(set(e)), e a list of numbers -/
theorem de_ssetI {bs : List Nat} (hc : X.calm = true) (hg : Gl X "sorted") (hm : X.mg "sorted" = none) (hg2 : Gl X "set") (hm2 : X.mg "set" = none) (ha : DE X e ρ (.list (bs.map fun n => .int (n : Nat)))) (hf : bs.length < 64)
    (s1 : starEach [e] X.env = (false, eval e X.env) :: starEach [] X.env := by rfl) (s2 : (backTo q (starEach [] X.env)).any (·.1) = false := by rfl)
    (s3 : starEach [.Call (.Name "set" p2) [e] [] q] X.env = (false, eval (.Call (.Name "set" p2) [e] [] q) X.env) :: starEach [] X.env := by rfl) (s4 : (backTo pos (starEach [] X.env)).any (·.1) = false := by rfl) :
    DE X (.Call (.Name "sorted" p) [.Call (.Name "set" p2) [e] [] q] [] pos) ρ (.list ((sset bs).map fun n => .int (n : Nat))) :=
  pe_imp (pe_callB (cr_sortedSet hc) hg hm (by decide +kernel) (pa_cons (pe_callTy (crD_setI hc) hg2 hm2 (by decide +kernel) (pa_cons ha pa_nil s1) (by decide) (by decide) s1 s2) pa_nil s3) (by decide) (by decide) s3 s4) fun σ H Q ⟨G, s, env, k⟩ => ⟨G, s, env, fun v G1 H1 g1 dv => by
    cases dv with
    | lst hx rx =>
      have ex := dxs_ints rx
      subst ex
      refine ⟨_, bs.map fun (n : Nat) => (n : Int), rfl, .inl (.inl (g1.s _ _ hx)), by rw [List.length_map]; exact hf, fun a c hn hcl => ?_⟩
      rw [List.length_map] at hcl
      refine ⟨a, _, c, rfl, upd_same, by omega, fun ns p hpw hmem hlen hp => ?_⟩
      have hmem' : ∀ k : Int, k ∈ ns ↔ ∃ n ∈ bs, k = (n : Int) := fun k => by
        rw [hmem k, decide_eq_true_eq, List.mem_map]
        exact ⟨fun ⟨n, h1, h2⟩ => ⟨n, h1, h2.symm⟩, fun ⟨n, h1, h2⟩ => ⟨n, h1, h2.symm⟩⟩
      obtain ⟨ms, rfl⟩ := nat_list ns fun x hx => by
        obtain ⟨n, _, rfl⟩ := (hmem' x).mp hx
        omega
      have ems : ms = sset bs := by
        refine asc_ext (nat_asc.mpr ((List.pairwise_map.mp hpw).imp fun {a b} h => by omega)) (sset_asc bs) fun n => ?_
        rw [sset_mem]
        have := hmem' (n : Int)
        constructor
        · intro hn
          obtain ⟨m, h1, h2⟩ := this.mp (List.mem_map.mpr ⟨n, hn, rfl⟩)
          rw [Int.ofNat.inj h2]
          exact h1
        · intro hn
          obtain ⟨m, h1, h2⟩ := List.mem_map.mp (this.mpr ⟨n, hn, rfl⟩)
          rw [← Int.ofNat.inj h2]
          exact h1
      subst ems
      have hp1 : H1 p = none := (same_new hn).free hp
      exact k _ (upd G1 p _) _ (g1.trans ((Grow.own g1.s hn).trans (.new (g1.s.trans (same_new hn)) hp))) (.lst upd_same (dx_ints.mono (same_new (g1.s.free hp1))))⟩
/-- len(set(e)), e a tuple of different numbers -/
theorem de_lenSetT {bs : List Nat} (hc : X.calm = true) (hg : Gl X "len") (hm : X.mg "len" = none) (hg2 : Gl X "set") (hm2 : X.mg "set" = none) (ha : DE X e ρ (.tuple (bs.map fun n => .int (n : Nat)))) (hf : bs.length < 64) (hnd : bs.Nodup)
    (na : starEach [e] X.env = (false, eval e X.env) :: starEach [] X.env := by rfl) : DE X (.Call (.Name "len" p) [.Call (.Name "set" p2) [e] [] q] [] pos) ρ (.int (bs.length : Nat)) := by
  refine ⟨fun pins s σ H Q I h => ?_⟩
  obtain ⟨G, sg, env, k⟩ := h
  refine Call_ (ld_blt I hg hm PySem.boot_len ?_)
  refine PyProof.Rows.callWith_builtin1 (PyProof.Rows.args_cons ?_ rfl) rfl rfl
  refine Call_ (ld_blt I hg2 hm2 PyProof.Rows.boot_set ?_)
  refine PyProof.Rows.callWith_type1 (PyProof.Rows.args_cons (thn (ha.run pins s σ H (fun v H' => ∃ G', Grow G H G' H' ∧ Dx X.w X.K G' v (.tuple (bs.map fun n => .int (n : Nat)))) I ⟨G, sg, env, fun v G' H' g dv => ⟨G', g, dv⟩⟩) fun v s1 ⟨x, H1, I1, r1, G1, g1, dv⟩ => PyProof.Rows.args_nil ?_) na) na rfl
  cases dv with
  | tup hx rx =>
    have ex := dxs_ints rx
    subst ex
    cases r1
    obtain ⟨its, r, pl, hz⟩ := I1.tuple (.inl (.inl (g1.s _ _ hx)))
    refine call_set_tupI (bs.map fun (n : Nat) => (n : Int)) (I1.ok.hd hc) pl (by simpa using r.ints) (by rw [List.length_map]; unfold scanBound; omega) fun h' tk c hS hcl hk => ?_
    obtain ⟨o, es, ep, t, ho, hex, hd, _, nd, hmem, _, hf', hn, _, _⟩ := hS
    refine PyProof.Rows.args_nil ?_
    have I2 : Inv X pins σ H1 { s1 with heap := h', toks := tk } := I1.kept fun b o e => hk b o e
    have hc' : es.size = bs.length := by
      have p1 : (es.toList.map L2.keyOf).Perm (bs.map fun (n : Nat) => (n : Int)) := (List.perm_ext_iff_of_nodup nd (by
        refine List.pairwise_map.mpr (hnd.imp fun {a b} h z => h (Int.ofNat.inj z)))).mpr fun x => by
          rw [← hmem x, decide_eq_true_eq]
      have := p1.length_eq
      rw [List.length_map, List.length_map, Array.length_toList] at this
      exact this
    refine call_len_set ho hex hd hf' (by omega) ⟨.int (bs.length : Nat), H1, I2.tok _, ⟨_, by rw [hc']⟩, k _ G1 H1 g1 (.int _)⟩
end
end K64

/-! ## K64Zip -/
/-! dict(zip(a, b)), list(zip(a, b)) of tuples. -/
namespace K64
open PySem PySem.Spec PyProof.Rows L2 PySem.W
open Sem (wp)
section
variable {prog : Program} {w : World} {A : Around} {E : Value → Shared → Prop} {s : Shared}
theorem zipT_next_item_held {z TI TO T i1 i2 l1 l2 : Addr} {f : Bool} {oT : Obj} {k1 k2 : Nat} {xs ys : Array Value} {x y : Value} {Q : Value → Shared → Prop} (D : ZipApart z TI TO i1 i2 l1 l2)
    (hz : IsZipHeld s.heap z TI TO T f) (hT : s.heap.get? T = some oT) (hTI : IsPair s.heap TI (.ref i1) (.ref i2))
    (h1 : s.heap.IsTupleIter i1 l1 k1) (h2 : s.heap.IsTupleIter i2 l2 k2) (hl1 : s.heap.IsTuple l1 xs) (hl2 : s.heap.IsTuple l2 ys) (hx : xs[k1]? = some x) (hy : ys[k2]? = some y)
    (hQ : ∀ h', IsZipHeld h' z TI TO T true → h'.IsTupleIter i1 l1 (k1 + 1) → h'.IsTupleIter i2 l2 (k2 + 1) → IsPair h' s.heap.objs.size x y → h'.objs.size = s.heap.objs.size + 1 →
      (∀ c o, c ≠ z → c ≠ i1 → c ≠ i2 → s.heap.get? c = some o → h'.get? c = some o) → Q (.ref s.heap.objs.size) { s with heap := h' }) :
    wpAny (model prog w) A (Builtin.«zip.__next__» ⟨[.ref z], []⟩) (fun fin s' => ∃ v, fin = .done (.ret v) ∧ Q v s') E s := by
  show wpAny _ _ (field (.ref z) 2 >>= _) _ _ _
  refine wpAny_bind (wpAny_field hz rfl (x := .bool false) rfl ?_)
  show wpAny _ _ (field (.ref z) 3 >>= _) _ _ _
  refine wpAny_bind (wpAny_field hz rfl (x := .ref TI) rfl ?_)
  refine wpAny_bind (wpAny_seqItems hTI rfl ?_)
  show wpAny _ _ (Builtin.SmallTypes.ownedTupleIsFree (.ref z) >>= _) _ _ _
  refine wpAny_bind (wpAny_tupleHeld_zip hz hT fun h₁ hz₁ hs₁ => ?_)
  simp only [Bool.false_eq_true, if_false]
  refine wpAny_bind ?_
  rw [← Array.forIn_toList]
  simp only [List.forIn_cons, List.forIn_nil]
  refine wpAny_bind (wpAny_bind (wpAny_holding ?_))
  show wpAny _ _ (Builtin.SmallTypes.nextOf (.ref i1) >>= _) _ _ _
  refine wpAny_bind (RZ.nextOf_tuple_item (s := { s with heap := h₁ }) (h1.extBut hs₁.extBut D.i1z) (hl1.extBut hs₁.extBut D.l1z) hx fun h₂ h1₂ hs₂ => wpAny_pure ?_)
  refine wpAny_pure ?_
  refine wpAny_bind (wpAny_bind (wpAny_holding ?_))
  show wpAny _ _ (Builtin.SmallTypes.nextOf (.ref i2) >>= _) _ _ _
  refine wpAny_bind (RZ.nextOf_tuple_item (s := { s with heap := h₂ }) ((h2.extBut hs₁.extBut D.i2z).extBut hs₂.extBut D.i12.symm) ((hl2.extBut hs₁.extBut D.l2z).extBut hs₂.extBut D.l2i1) hy fun h₃ h2₃ hs₃ => wpAny_pure ?_)
  refine wpAny_pure (wpAny_pure ?_)
  show wpAny _ _ (newTuple [x, y] >>= _) _ _ _
  refine wpAny_bind (wpAny_newTuple ?_)
  have hsz : h₃.objs.size = s.heap.objs.size := by rw [hs₃.1, hs₂.1, hs₁.1]
  have hz₃ : IsZipHeld h₃ z TI TO T true := hs₃.extBut _ _ D.i2z.symm (hs₂.extBut _ _ D.i1z.symm hz₁)
  have hk : ∀ c o, c ≠ z → c ≠ i1 → c ≠ i2 → s.heap.get? c = some o → h₃.get? c = some o := fun c o c1 c2 c3 e => hs₃.extBut _ _ c3 (hs₂.extBut _ _ c2 (hs₁.extBut _ _ c1 e))
  have h1₃ : h₃.IsTupleIter i1 l1 (k1 + 1) := h1₂.extBut hs₃.extBut D.i12
  refine wpAny_pure ⟨_, rfl, ?_⟩
  show Q (.ref h₃.objs.size) _
  have hp : IsPair (h₃.push { cls := .type "tuple", data := .seq #[x, y] }) h₃.objs.size x y := Heap.get?_push_size _ rfl
  have hz4 : (h₃.push { cls := .type "tuple", data := .seq #[x, y] }).objs.size = h₃.objs.size + 1 := Heap.size_push ..
  rw [hsz] at hp hz4 ⊢
  exact hQ _ (Heap.get?_push_of_some _ hz₃) (h1₃.at fun o e => Heap.get?_push_of_some _ e) (h2₃.at fun o e => Heap.get?_push_of_some _ e) hp hz4 fun c o c1 c2 c3 e => Heap.get?_push_of_some _ (hk c o c1 c2 c3 e)

theorem zipT_next_end_held {z TI TO T i1 i2 l1 l2 : Addr} {f : Bool} {oT : Obj} {k1 k2 : Nat} {xs ys : Array Value} {Q : Fin → Shared → Prop} (hh : A.handled = none) (D : ZipApart z TI TO i1 i2 l1 l2)
    (hz : IsZipHeld s.heap z TI TO T f) (hT : s.heap.get? T = some oT) (hTI : IsPair s.heap TI (.ref i1) (.ref i2))
    (h1 : s.heap.IsTupleIter i1 l1 k1) (h2 : s.heap.IsTupleIter i2 l2 k2) (hl1 : s.heap.IsTuple l1 xs) (hl2 : s.heap.IsTuple l2 ys) (hend : xs[k1]? = none ∨ ys[k2]? = none)
    (hE : ∀ h' e, (∀ c o, c ≠ z → c ≠ i1 → c ≠ i2 → s.heap.get? c = some o → h'.get? c = some o) → (∃ o, h'.get? e = some o ∧ o.cls = .type "StopIteration") → E (.ref e) { s with heap := h' }) :
    wpAny (model prog w) A (Builtin.«zip.__next__» ⟨[.ref z], []⟩) Q E s := by
  show wpAny _ _ (field (.ref z) 2 >>= _) _ _ _
  refine wpAny_bind (wpAny_field hz rfl (x := .bool false) rfl ?_)
  show wpAny _ _ (field (.ref z) 3 >>= _) _ _ _
  refine wpAny_bind (wpAny_field hz rfl (x := .ref TI) rfl ?_)
  refine wpAny_bind (wpAny_seqItems hTI rfl ?_)
  show wpAny _ _ (Builtin.SmallTypes.ownedTupleIsFree (.ref z) >>= _) _ _ _
  refine wpAny_bind (wpAny_tupleHeld_zip hz hT fun h₁ hz₁ hs₁ => ?_)
  simp only [Bool.false_eq_true, if_false]
  refine wpAny_bind ?_
  rw [← Array.forIn_toList]
  simp only [List.forIn_cons, List.forIn_nil]
  refine wpAny_bind (wpAny_bind (wpAny_holding ?_))
  show wpAny _ _ (Builtin.SmallTypes.nextOf (.ref i1) >>= _) _ _ _
  cases hx : xs[k1]? with
  | none =>
    refine wpAny_bind (RZ.nextOf_tuple_end (s := { s with heap := h₁ }) hh (h1.extBut hs₁.extBut D.i1z) (hl1.extBut hs₁.extBut D.l1z) hx fun h₂ e hs₂ he => ?_)
    exact hE h₂ e (fun c o c1 c2 _ x => hs₂ _ _ c2 (hs₁.extBut _ _ c1 x)) he
  | some x =>
    have hy : ys[k2]? = none := by rcases hend with h | h; rw [hx] at h; cases h; exact h
    refine wpAny_bind (RZ.nextOf_tuple_item (s := { s with heap := h₁ }) (h1.extBut hs₁.extBut D.i1z) (hl1.extBut hs₁.extBut D.l1z) hx fun h₂ h1₂ hs₂ => wpAny_pure ?_)
    refine wpAny_pure ?_
    refine wpAny_bind (wpAny_bind (wpAny_holding ?_))
    show wpAny _ _ (Builtin.SmallTypes.nextOf (.ref i2) >>= _) _ _ _
    refine wpAny_bind (RZ.nextOf_tuple_end (s := { s with heap := h₂ }) hh ((h2.extBut hs₁.extBut D.i2z).extBut hs₂.extBut D.i12.symm) ((hl2.extBut hs₁.extBut D.l2z).extBut hs₂.extBut D.l2i1) hy fun h₃ e hs₃ he => ?_)
    exact hE h₃ e (fun c o c1 c2 c3 x => hs₃ _ _ c3 (hs₂.extBut _ _ c2 (hs₁.extBut _ _ c1 x))) he

theorem pyNext_zipT_item_held {z TI TO T i1 i2 l1 l2 : Addr} {f : Bool} {oT : Obj} {k1 k2 : Nat} {xs ys : Array Value} {x y : Value} {Q : Option Value → Shared → Prop} (D : ZipApart z TI TO i1 i2 l1 l2)
    (hz : IsZipHeld s.heap z TI TO T f) (hT : s.heap.get? T = some oT) (hTI : IsPair s.heap TI (.ref i1) (.ref i2))
    (h1 : s.heap.IsTupleIter i1 l1 k1) (h2 : s.heap.IsTupleIter i2 l2 k2) (hl1 : s.heap.IsTuple l1 xs) (hl2 : s.heap.IsTuple l2 ys) (hx : xs[k1]? = some x) (hy : ys[k2]? = some y)
    (hQ : ∀ h', IsZipHeld h' z TI TO T true → h'.IsTupleIter i1 l1 (k1 + 1) → h'.IsTupleIter i2 l2 (k2 + 1) → IsPair h' s.heap.objs.size x y → h'.objs.size = s.heap.objs.size + 1 →
      (∀ c o, c ≠ z → c ≠ i1 → c ≠ i2 → s.heap.get? c = some o → h'.get? c = some o) → Q (some (.ref s.heap.objs.size)) { s with heap := h' }) :
    wpAny (model prog w) A (pyNext (.ref z)) Q E s := by
  have hTy : s.TypeIs (.ref z) "zip" := ⟨_, hz, rfl⟩
  unfold pyNext
  exact wpAny_bind (wpAny_attempt (wpAny_callSpecial?_slot (name := Str.ofString "__next__") hTy F.slot_zip_next
    (wpAny_call_entry F.slot_zip_next hTy F.entry_zip_next
      (zipT_next_item_held D hz hT hTI h1 h2 hl1 hl2 hx hy fun h' a1 a3 a4 a5 a6 a7 => wpAny_pure (hQ h' a1 a3 a4 a5 a6 a7)) (F.args_zip_next_1 _))))

theorem pyNext_zipT_end_held {z TI TO T i1 i2 l1 l2 : Addr} {f : Bool} {oT : Obj} {k1 k2 : Nat} {xs ys : Array Value} {Q : Option Value → Shared → Prop} (hh : A.handled = none) (D : ZipApart z TI TO i1 i2 l1 l2)
    (hz : IsZipHeld s.heap z TI TO T f) (hT : s.heap.get? T = some oT) (hTI : IsPair s.heap TI (.ref i1) (.ref i2))
    (h1 : s.heap.IsTupleIter i1 l1 k1) (h2 : s.heap.IsTupleIter i2 l2 k2) (hl1 : s.heap.IsTuple l1 xs) (hl2 : s.heap.IsTuple l2 ys) (hend : xs[k1]? = none ∨ ys[k2]? = none)
    (hQ : ∀ h', (∀ c o, c ≠ z → c ≠ i1 → c ≠ i2 → s.heap.get? c = some o → h'.get? c = some o) → Q none { s with heap := h' }) : wpAny (model prog w) A (pyNext (.ref z)) Q E s := by
  have hTy : s.TypeIs (.ref z) "zip" := ⟨_, hz, rfl⟩
  unfold pyNext
  refine wpAny_bind (wpAny_attempt (wpAny_callSpecial?_slot (name := Str.ofString "__next__") hTy F.slot_zip_next
    (wpAny_call_entry F.slot_zip_next hTy F.entry_zip_next (zipT_next_end_held hh D hz hT hTI h1 h2 hl1 hl2 hend fun h' e hk he => ?_) (F.args_zip_next_1 _))))
  obtain ⟨o, ho, hc⟩ := he
  refine wpAny_bind (wpAny_isInstance (T := "StopIteration") (b := true) ⟨o, ho, hc⟩ isSubtype_stop ?_)
  exact wpAny_pure (hQ _ hk)
end
/-- pairs, each a new tuple, while at d something is filled -/
structure NewSrc (prog : Program) (w : World) (A : Around) (I d : Addr) (wr : List Addr) (n : Nat) (Rel : Nat → Value → Value → Prop) (St : Nat → Heap → Prop) : Prop where
  off : d ∉ wr
  there : ∀ i h, St i h → ∀ b ∈ wr, b < h.objs.size
  frame : ∀ i h h', St i h → (∀ b o, b ≠ d → h.get? b = some o → h'.get? b = some o) → St i h'
  item : ∀ i (s : Shared) (Q : Option Value → Shared → Prop) (E : Value → Shared → Prop), i < n → St i s.heap → d < s.heap.objs.size →
    (∀ T k v h' tk, Rel i k v → IsPair h' T k v → s.heap.objs.size ≤ T → St (i + 1) h' → (∀ b o, b ∉ wr → s.heap.get? b = some o → h'.get? b = some o) → Q (some (.ref T)) { s with heap := h', toks := tk }) → wpAny (model prog w) A (pyNext (.ref I)) Q E s
  done : ∀ (s : Shared) (Q : Option Value → Shared → Prop) (E : Value → Shared → Prop), St n s.heap →
    (∀ h' tk, (∀ b o, b ∉ wr → s.heap.get? b = some o → h'.get? b = some o) → Q none { s with heap := h', toks := tk }) → wpAny (model prog w) A (pyNext (.ref I)) Q E s
theorem NewSrc.pairs {prog : Program} {w : World} {A : Around} {I d : Addr} {wr : List Addr} {n : Nat} {Rel : Nat → Value → Value → Prop} {St : Nat → Heap → Prop} (W : NewSrc prog w A I d wr n Rel St) : PairSrc prog w A I d wr n Rel St where
  off := W.off
  frame := W.frame
  item := fun i s Q E hi st hd h => W.item i s Q E hi st hd fun T k v h' tk r p _ st' hk => h T k v h' tk r (.inl ⟨_, p, rfl, _, rfl⟩) st' hk
  done := W.done
section
variable {prog : Program} {w : World}
abbrev ZSt (z TI TO i1 i2 l1 l2 d : Addr) (xs ys : Array Value) (i : Nat) (h : Heap) : Prop := IsPair h TI (.ref i1) (.ref i2) ∧ h.IsTupleIter i1 l1 i ∧ h.IsTupleIter i2 l2 i ∧ h.IsTuple l1 xs ∧ h.IsTuple l2 ys ∧ (∃ a b, IsPair h TO a b) ∧
  (IsZip h z TI TO .none ∨ ∃ T f oT, IsZipHeld h z TI TO T f ∧ h.get? T = some oT ∧ T ≠ z ∧ T ≠ i1 ∧ T ≠ i2 ∧ T ≠ d)
theorem NewSrc.zipT {A : Around} {z TI TO i1 i2 l1 l2 d : Addr} {xs ys : Array Value} (hA : A.handled = none) (D : ZipApart z TI TO i1 i2 l1 l2) (hdf : d ∉ [z, TI, TO, i1, i2, l1, l2]) :
    NewSrc prog w A z d [z, TO, i1, i2] (min xs.size ys.size) (fun i k v => xs[i]? = some k ∧ ys[i]? = some v) (ZSt z TI TO i1 i2 l1 l2 d xs ys) := by
  simp only [List.mem_cons, List.not_mem_nil, or_false, not_or] at hdf
  obtain ⟨dz, dTI, dTO, di1, di2, dl1, dl2⟩ := hdf
  exact {
    off := fun hm => by
      simp only [List.mem_cons, List.not_mem_nil, or_false] at hm
      rcases hm with e | e | e | e
      · exact dz e
      · exact dTO e
      · exact di1 e
      · exact di2 e
    there := fun i h st b hb => by
      obtain ⟨hTI, ⟨o1, h1, _⟩, ⟨o2, h2, _⟩, hl1, hl2, ⟨a, b', hTO⟩, hz⟩ := st
      simp only [List.mem_cons, List.not_mem_nil, or_false] at hb
      rcases hb with rfl | rfl | rfl | rfl
      · rcases hz with hz | ⟨_, _, _, hz, _⟩
        · exact Heap.lt_size hz
        · exact Heap.lt_size hz
      · exact Heap.lt_size hTO
      · exact Heap.lt_size h1
      · exact Heap.lt_size h2
    frame := fun i h₁ h₂ st hk => by
      obtain ⟨hTI, h1, h2, hl1, hl2, ⟨a, b, hTO⟩, hz⟩ := st
      refine ⟨hk _ _ (Ne.symm dTI) hTI, h1.at fun o e => hk _ o (Ne.symm di1) e, h2.at fun o e => hk _ o (Ne.symm di2) e, hl1.at fun o e => hk _ o (Ne.symm dl1) e, hl2.at fun o e => hk _ o (Ne.symm dl2) e, ⟨a, b, hk _ _ (Ne.symm dTO) hTO⟩, ?_⟩
      rcases hz with hz | ⟨T, f, oT, hz, hT, r1, r2, r3, r4⟩
      · exact .inl (hk _ _ (Ne.symm dz) hz)
      · exact .inr ⟨T, f, oT, hk _ _ (Ne.symm dz) hz, hk _ _ r4 hT, r1, r2, r3, r4⟩
    item := fun i s₁ Q₁ E₁ hi st hds hQ => by
      obtain ⟨hTI, h1, h2, hl1, hl2, ⟨a, b, hTO⟩, hz⟩ := st
      have hix : i < xs.size := Nat.lt_of_lt_of_le hi (Nat.min_le_left ..)
      have hiy : i < ys.size := Nat.lt_of_lt_of_le hi (Nat.min_le_right ..)
      have ex := Array.getElem?_eq_getElem hix
      have ey := Array.getElem?_eq_getElem hiy
      have lt : ∀ {c o}, s₁.heap.get? c = some o → s₁.heap.objs.size ≠ c := fun e => Nat.ne_of_gt (Heap.lt_size e)
      have n1 : s₁.heap.objs.size ≠ i1 := let ⟨_, e, _⟩ := h1; lt e
      have n2 : s₁.heap.objs.size ≠ i2 := let ⟨_, e, _⟩ := h2; lt e
      rcases hz with hz | ⟨T, f, oT, hz, hT, r1, r2, r3, r4⟩
      · refine RZ.pyNext_zipT_item D hz hTI hTO h1 h2 hl1 hl2 ex ey fun h' a1 a2 a3 a4 a5 a6 hk => ?_
        exact hQ s₁.heap.objs.size _ _ h' s₁.toks ⟨ex, ey⟩ a5 (Nat.le_refl _)
          ⟨hk _ _ D.TIz D.TITO D.TIi1 D.TIi2 hTI, a3, a4, hl1.at fun o e => hk _ o D.l1z D.l1TO D.l1i1 D.l1i2 e, hl2.at fun o e => hk _ o D.l2z D.l2TO D.l2i1 D.l2i2 e, ⟨_, _, a2⟩,
            .inr ⟨s₁.heap.objs.size, false, _, a1, a5, lt hz, n1, n2, Nat.ne_of_gt hds⟩⟩
          fun c o hc e => hk c o (fun x => hc (by simp [x])) (fun x => hc (by simp [x])) (fun x => hc (by simp [x])) (fun x => hc (by simp [x])) e
      · refine pyNext_zipT_item_held D hz hT hTI h1 h2 hl1 hl2 ex ey fun h' a1 a3 a4 a5 a6 hk => ?_
        exact hQ s₁.heap.objs.size _ _ h' s₁.toks ⟨ex, ey⟩ a5 (Nat.le_refl _)
          ⟨hk _ _ D.TIz D.TIi1 D.TIi2 hTI, a3, a4, hl1.at fun o e => hk _ o D.l1z D.l1i1 D.l1i2 e, hl2.at fun o e => hk _ o D.l2z D.l2i1 D.l2i2 e, ⟨a, b, hk _ _ D.TOz D.TOi1 D.TOi2 hTO⟩,
            .inr ⟨T, true, oT, a1, hk _ _ r1 r2 r3 hT, r1, r2, r3, r4⟩⟩
          fun c o hc e => hk c o (fun x => hc (by simp [x])) (fun x => hc (by simp [x])) (fun x => hc (by simp [x])) e
    done := fun s₁ Q₁ E₁ st hQ => by
      obtain ⟨hTI, h1, h2, hl1, hl2, ⟨a, b, hTO⟩, hz⟩ := st
      have hend : xs[min xs.size ys.size]? = none ∨ ys[min xs.size ys.size]? = none := by
        rcases Nat.le_total xs.size ys.size with h | h
        · exact .inl (Array.getElem?_eq_none (by rw [Nat.min_eq_left h]; exact Nat.le_refl _))
        · exact .inr (Array.getElem?_eq_none (by rw [Nat.min_eq_right h]; exact Nat.le_refl _))
      rcases hz with hz | ⟨T, f, oT, hz, hT, r1, r2, r3, r4⟩
      · exact RZ.pyNext_zipT_end hA D hz hTI hTO h1 h2 hl1 hl2 hend fun h' hk => hQ h' s₁.toks fun c o hc e => hk c o (fun x => hc (by simp [x])) (fun x => hc (by simp [x])) (fun x => hc (by simp [x])) (fun x => hc (by simp [x])) e
      · exact pyNext_zipT_end_held hA D hz hT hTI h1 h2 hl1 hl2 hend fun h' hk => hQ h' s₁.toks fun c o hc e => hk c o (fun x => hc (by simp [x])) (fun x => hc (by simp [x])) (fun x => hc (by simp [x])) e }
abbrev ZOk (z TI TO i1 i2 l1 l2 : Addr) (xs ys : Array Value) (h : Heap) : Prop := IsZip h z TI TO .none ∧ IsPair h TI (.ref i1) (.ref i2) ∧ (∃ a b, IsPair h TO a b) ∧ h.IsTupleIter i1 l1 0 ∧ h.IsTupleIter i2 l2 0 ∧ h.IsTuple l1 xs ∧ h.IsTuple l2 ys
theorem PairArg.zipT (z TI TO i1 i2 l1 l2 : Addr) (D : ZipApart z TI TO i1 i2 l1 l2) (xs ys : Array Value) :
    PairArg prog w "zip" z [z, TI, TO, i1, i2, l1, l2] [z, TO, i1, i2] (min xs.size ys.size) (fun i k v => xs[i]? = some k ∧ ys[i]? = some v) (ZOk z TI TO i1 i2 l1 l2 xs ys) where
  type := fun s ok => ⟨_, ok.1, rfl⟩
  notDict := by decide
  keep := fun h h' ok hk => by
    obtain ⟨hz, hTI, ⟨a, b, hTO⟩, h1, h2, hl1, hl2⟩ := ok
    exact ⟨hk _ _ hz, hk _ _ hTI, ⟨a, b, hk _ _ hTO⟩, h1.at fun o e => hk _ o e, h2.at fun o e => hk _ o e, hl1.at fun o e => hk _ o e, hl2.at fun o e => hk _ o e⟩
  there := fun h ok b hb => by
    obtain ⟨hz, hTI, ⟨a, c, hTO⟩, ⟨o1, h1, _⟩, ⟨o2, h2, _⟩, ⟨o3, hl1, _⟩, ⟨o4, hl2, _⟩⟩ := ok
    simp only [List.mem_cons, List.not_mem_nil, or_false] at hb
    rcases hb with rfl | rfl | rfl | rfl | rfl | rfl | rfl
    all_goals first | exact ⟨_, hz⟩ | exact ⟨_, hTI⟩ | exact ⟨_, hTO⟩ | exact ⟨_, h1⟩ | exact ⟨_, h2⟩ | exact ⟨_, hl1⟩ | exact ⟨_, hl2⟩
  sub := fun b hb => by simp at hb ⊢; rcases hb with rfl | rfl | rfl | rfl <;> simp
  noKeys := fun A s Q E hA ok h => getAttrOr_miss_zip ok.1 rfl rfl rfl zip_no_keys (by decide +kernel) hA h
  iter := fun A s d Q E hA ok hd hdf h => by
    obtain ⟨hz, hTI, ⟨a, b, hTO⟩, h1, h2, hl1, hl2⟩ := ok
    exact wpAny_pyIter_zip hz (h z [z, TO, i1, i2] _ s.heap s.toks (NewSrc.zipT hA D hdf).pairs ⟨hTI, h1, h2, hl1, hl2, ⟨a, b, hTO⟩, .inl hz⟩ (fun _ _ e => e) fun b hb => .inl hb)
end
/-! ### list(zip(a, b)) -/
section
variable {prog : Program} {w : World} {A : Around} {E : Value → Shared → Prop} {s : Shared} {R : Result → Shared → Prop} {I S : Addr} {wr : List Addr} {n : Nat} {Rel : Nat → Value → Value → Prop} {St : Nat → Heap → Prop}
def PairsOf (Rel : Nat → Value → Value → Prop) (lo : Addr) (h : Heap) (acc : Array Value) (as : List Addr) (i : Nat) : Prop := as.length = i ∧ acc.toList = as.map Value.ref ∧ as.Pairwise (· < ·) ∧ (∀ a ∈ as, lo < a) ∧ ∀ (j : Nat) (a : Addr), as[j]? = some a → ∃ k x : Value, Rel j k x ∧ IsPair h a k x
theorem PairsOf.nil {lo : Addr} {h : Heap} : PairsOf Rel lo h #[] [] 0 := ⟨rfl, rfl, .nil, fun a h => (List.not_mem_nil h).elim, fun j a h => by simp at h⟩
theorem PairsOf.size {lo : Addr} {h : Heap} {acc : Array Value} {as : List Addr} {i : Nat} (p : PairsOf Rel lo h acc as i) : acc.size = i := by rw [← Array.length_toList, p.2.1, List.length_map, p.1]
theorem PairsOf.at {lo : Addr} {h h' : Heap} {acc : Array Value} {as : List Addr} {i : Nat} (p : PairsOf Rel lo h acc as i) (k : ∀ a ∈ as, ∀ o, h.get? a = some o → h'.get? a = some o) : PairsOf Rel lo h' acc as i := ⟨p.1, p.2.1, p.2.2.1, p.2.2.2.1, fun j a e => by
  obtain ⟨x, y, r, q⟩ := p.2.2.2.2 j a e
  exact ⟨x, y, r, k a (List.mem_of_getElem? e) _ q⟩⟩
theorem PairsOf.lt {lo : Addr} {h : Heap} {acc : Array Value} {as : List Addr} {i : Nat} (p : PairsOf Rel lo h acc as i) {a : Addr} (ha : a ∈ as) : a < h.objs.size := by
  obtain ⟨j, hj⟩ := List.mem_iff_getElem?.mp ha
  obtain ⟨x, y, r, q⟩ := p.2.2.2.2 j a hj
  exact Heap.lt_size q
theorem PairsOf.push {lo : Addr} {h : Heap} {acc : Array Value} {as : List Addr} {i : Nat} {T : Addr} {k x : Value} (p : PairsOf Rel lo h acc as i) (hT : ∀ a ∈ as, a < T) (hlo : lo < T) (r : Rel i k x) (q : IsPair h T k x) : PairsOf Rel lo h (acc.push (Value.ref T)) (as ++ [T]) (i + 1) := by
  refine ⟨by rw [List.length_append, p.1]; rfl, by rw [Array.toList_push, p.2.1, List.map_append]; rfl, List.pairwise_append.mpr ⟨p.2.2.1, List.pairwise_singleton _ _, fun a ha b hb => by rw [List.mem_singleton.mp hb]; exact hT a ha⟩, fun a ha => ?_, fun j a hj => ?_⟩
  · rcases List.mem_append.mp ha with ha | ha
    · exact p.2.2.2.1 a ha
    · rw [List.mem_singleton.mp ha]; exact hlo
  · rcases Nat.lt_or_ge j as.length with hl | hl
    · rw [List.getElem?_append_left hl] at hj
      exact p.2.2.2.2 j a hj
    · rw [List.getElem?_append_right hl] at hj
      have e0 : j - as.length = 0 := by
        have := (List.getElem?_eq_some_iff.mp hj).1
        simp at this
        omega
      rw [e0] at hj
      cases hj
      have ej : j = i := by rw [← p.1]; omega
      rw [ej]
      exact ⟨k, x, r, q⟩
theorem extend_loopN (W : NewSrc prog w A.in1 I S wr n Rel St) (hn : n ≤ sizeLine) (res : Value) : ∀ (k i : Nat) (s : Shared) (acc : Array Value) (as : List Addr) (c : Nat), n - i = k → i ≤ n → St i s.heap → s.heap.get? S = some { cls := .type "list", dict := none, data := .seq acc c, slots := #[] } →
    PairsOf Rel S s.heap acc as i → (∀ a ∈ as, a ∉ wr) →
    (∀ h' tk acc' as' c', (∀ b o, b ∉ S :: wr → s.heap.get? b = some o → h'.get? b = some o) → h'.get? S = some { cls := .type "list", dict := none, data := .seq acc' c', slots := #[] } → PairsOf Rel S h' acc' as' n → R (.ok (.ret res)) { s with heap := h', toks := tk }) →
    codeAny (model prog w) A (.builtin "list.extend.loop" ⟨[.ref S, .ref I, res], []⟩) R s := by
  intro k
  induction k with
  | zero =>
    intro i s acc as c hk hi hst hS hacc hnw hR
    have hin : i = n := by omega
    subst hin
    refine codeAny_builtin F.entry_extend_loop ?_
    rw [Around.under_plainId F.plain_extend_loop _]
    show wpAny _ A.in1 (pyNext (.ref I) >>= _) _ _ s
    refine wpAny_bind (W.done s _ _ hst fun h' tk hm => ?_)
    exact wpAny_pure (hR h' tk acc as c (fun b o hb e => hm b o (fun z => hb (List.mem_cons_of_mem _ z)) e) (hm S _ W.off hS) (hacc.at fun a ha o e => hm a o (hnw a ha) e))
  | succ k ih =>
    intro i s acc as c hk hi hst hS hacc hnw hR
    have hlt : i < n := by omega
    refine codeAny_builtin F.entry_extend_loop ?_
    rw [Around.under_plainId F.plain_extend_loop _]
    show wpAny _ A.in1 (pyNext (.ref I) >>= _) _ _ s
    have wl := W.there i s.heap hst
    have Sl := Heap.lt_size hS
    refine wpAny_bind (W.item i s _ _ hlt hst Sl fun T a b h' tk hr ht hT hst' hm => ?_)
    have hS' := hm S _ W.off hS
    show wpAny _ A.in1 (updateSeq S (·.push (.ref T)) >>= _) _ _ _
    refine wpAny_bind ?_
    have ST : S < T := Nat.lt_of_lt_of_le Sl hT
    have upS : ∀ b o, b ≠ S → h'.get? b = some o → (h'.update S (Obj.mapSeq (·.push (.ref T)))).get? b = some o := fun b o hb e => (Heap.get?_update_other _ _ (Ne.symm hb)).trans e
    have h2 : PairsOf Rel S (h'.update S (Obj.mapSeq (·.push (.ref T)))) (acc.push (Value.ref T)) (as ++ [T]) (i + 1) :=
      (hacc.at fun a ha o e => upS a o (Nat.ne_of_gt (hacc.2.2.2.1 a ha)) (hm a o (hnw a ha) e)).push (fun a ha => Nat.lt_of_lt_of_le (hacc.lt ha) hT) ST hr (upS _ _ (Nat.ne_of_gt ST) ht)
    refine wpAny_updateSeq (s := { s with heap := h', toks := tk }) hS' rfl (wpAny_pure ⟨plainId_quiet F.plain_extend_loop _, ih (i + 1) _ (acc.push (.ref T)) (as ++ [T]) _ (by omega) hlt (W.frame _ h' _ hst' upS) (Heap.get?_update_self _ hS' rfl) h2 (fun x hx => ?_) fun h'' tk' acc' as' c' hm'' hS'' hacc' => ?_⟩)
      (by rw [hacc.size]; omega) (by show (acc.push (.ref T)).size ≤ sizeLine + 1; rw [Array.size_push, hacc.size]; omega)
    · rcases List.mem_append.mp hx with hx | hx
      · exact hnw x hx
      · rw [List.mem_singleton.mp hx]
        exact fun z => absurd (wl _ z) (Nat.not_lt.mpr hT)
    · refine hR h'' tk' acc' as' c' (fun b o hb e => hm'' b o hb ?_) hS'' hacc'
      exact upS b o (fun z => hb (by simp [z])) (hm b o (fun z => hb (List.mem_cons_of_mem _ z)) e)
theorem zip_no_len : typeLookup (.type "zip") "__len__" = pure none := am_miss_of_fast (by decide +kernel)
theorem zip_no_hint : typeLookup (.type "zip") "__length_hint__" = pure none := am_miss_of_fast (by decide +kernel)
theorem hint_zip {r : Addr} (hT : s.TypeIs (.ref r) "zip") {Q : Bool → Shared → Prop} (h : Q true s) : wpAny (model prog w) A (Builtin.List.listLengthHint (.ref r)) Q E s := by
  unfold Builtin.List.listLengthHint
  refine wpAny_bind (wpAny_specialOf hT zip_no_len ?_)
  show wpAny _ A (specialOf (Value.ref r) (Str.ofString "__length_hint__") >>= _) _ _ _
  refine wpAny_bind (wpAny_specialOf hT zip_no_hint ?_)
  exact wpAny_pure h
end
section
variable {prog : Program} {w : World} {A : Around} {E : Value → Shared → Prop} {s : Shared}
theorem list_zipT {z TI TO i1 i2 l1 l2 : Addr} {xs ys : Array Value} {Q : Value → Shared → Prop} (hh : A.handled = none) (D : ZipApart z TI TO i1 i2 l1 l2) (ok : ZOk z TI TO i1 i2 l1 l2 xs ys s.heap) (hn : min xs.size ys.size ≤ sizeLine)
    (hQ : ∀ h' tk acc as c, (∀ b o, b ∉ [z, TO, i1, i2] → s.heap.get? b = some o → h'.get? b = some o) → h'.get? s.heap.objs.size = some { cls := .type "list", dict := none, data := .seq acc c, slots := #[] } →
      PairsOf (fun i k v => xs[i]? = some k ∧ ys[i]? = some v) s.heap.objs.size h' acc as (min xs.size ys.size) → Q (.ref s.heap.objs.size) { s with heap := h', toks := tk }) : wpAny (model prog w) A (call (.type "list") [.ref z]) Q E s := by
  have P := PairArg.zipT (prog := prog) (w := w) z TI TO i1 i2 l1 l2 D xs ys
  have hfp : s.heap.objs.size ∉ [z, TI, TO, i1, i2, l1, l2] := fun hm => by
    obtain ⟨o, ho⟩ := P.there _ ok _ hm
    exact Nat.lt_irrefl _ (Heap.lt_size ho)
  refine callType_codes (Q₁ := fun obj s₁ => obj = .ref s.heap.objs.size ∧ s₁ = { s with heap := s.heap.push { cls := .type "list", data := .seq #[] } }) PySem.F.called_list (PySem.F.typeCall_list_1 _) PySem.F.entry_list_init
    (code_list_new _ ⟨rfl, rfl⟩) fun obj s₁ h₁ => ?_
  obtain ⟨rfl, rfl⟩ := h₁
  generalize hSd : s.heap.objs.size = S at hfp hQ ⊢
  have hS : (s.heap.push { cls := .type "list", data := .seq #[] }).get? S = some { cls := .type "list", data := .seq #[] } := by rw [← hSd]; exact Heap.get?_push_size _ rfl
  refine ⟨⟨_, hS, rfl⟩, PySem.F.args_list_init_2 _ _, ?_⟩
  have ok1 := P.keep _ _ ok fun b o e => Heap.get?_push_of_some { cls := .type "list", data := .seq #[] } e
  have W := NewSrc.zipT (prog := prog) (w := w) (A := A.in1.in1) (xs := xs) (ys := ys) hh D hfp
  have st1 : ZSt z TI TO i1 i2 l1 l2 S xs ys 0 (s.heap.push { cls := .type "list", data := .seq #[] }) := by
    obtain ⟨hz, hTI, hTO, h1, h2, hl1, hl2⟩ := ok1
    exact ⟨hTI, h1, h2, hl1, hl2, hTO, .inl hz⟩
  have old : ∀ b o, s.heap.get? b = some o → b ≠ S := fun b o e => by rw [← hSd]; exact Nat.ne_of_lt (Heap.lt_size e)
  clear ok1 P
  show wpAny _ _ (do let old ← Builtin.List.listItems (.ref S); Builtin.List.listUpdate (.ref S) (fun _ => #[]); letGo old.toList.reverse; Builtin.List.listExtendWith (.ref S) (.ref z) .none) _ _ _
  refine wpAny_bind ?_
  unfold Builtin.List.listItems
  refine wpAny_bind (wpAny_seqItems hS rfl (wpAny_pure ?_))
  show wpAny _ _ (updateSeq S (fun _ => #[]) >>= fun _ => letGo (#[] : Array Value).toList.reverse >>= fun _ => Builtin.List.listExtendWith (.ref S) (.ref z) .none) _ _ _
  refine wpAny_bind (wpAny_updateSeq hS rfl ?_)
  have hS2 := Heap.get?_update_self (Obj.mapSeq (fun _ => (#[] : Array Value))) hS rfl
  have oth1 : ∀ b o, b ≠ S → (s.heap.push { cls := .type "list", data := .seq #[] }).get? b = some o → ((s.heap.push { cls := .type "list", data := .seq #[] }).update S (Obj.mapSeq (fun _ => (#[] : Array Value)))).get? b = some o :=
    fun b o hb e => (Heap.get?_update_other _ _ (Ne.symm hb)).trans e
  have st2 := W.frame 0 _ _ st1 oth1
  have k2 : ∀ b o, b ≠ S → s.heap.get? b = some o → ((s.heap.push { cls := .type "list", data := .seq #[] }).update S (Obj.mapSeq (fun _ => (#[] : Array Value)))).get? b = some o := fun b o hb e => oth1 b o hb (Heap.get?_push_of_some _ e)
  have Sz : z ≠ S := fun e => hfp (by rw [← e]; simp)
  have hz2 := k2 z _ Sz ok.1
  clear oth1 st1 hS ok
  generalize ((s.heap.push { cls := .type "list", data := .seq #[] }).update S (Obj.mapSeq (fun _ => (#[] : Array Value)))) = hp2 at hS2 st2 k2 hz2 ⊢
  refine wpAny_bind (wpAny_letGo ?_)
  have Tz : ∀ {h : Heap} {tk : Nat}, ZSt z TI TO i1 i2 l1 l2 S xs ys 0 h → ({ s with heap := h, toks := tk } : Shared).TypeIs (.ref z) "zip" := fun st => by
    rcases st.2.2.2.2.2.2 with hz | ⟨_, _, _, hz, _⟩
    · exact ⟨_, hz, rfl⟩
    · exact ⟨_, hz, rfl⟩
  unfold Builtin.List.listExtendWith
  refine wpAny_bind (wpAny_typeOf (T := "zip") (Tz (tk := s.toks) st2) ?_)
  have h1 : Builtin.List.listSameRef (.ref S) (.ref z) = false := by simp [Builtin.List.listSameRef, Ne.symm Sz]
  have h2 : (Value.type "zip" == Value.type "list") = false := by decide
  have h3 : (Value.type "zip" == Value.type "tuple") = false := by decide
  simp only [h1, h2, h3, Bool.or_false, Bool.false_eq_true, if_false]
  refine wpAny_bind ?_
  refine wpAny_pyIter_zip hz2 ?_
  refine wpAny_bind (wpAny_holding (hint_zip (Tz (tk := s.toks) st2) ?_))
  show wpAny _ A.in1.in1 (rule "list.extend.makes-room" >>= fun _ => Builtin.List.listTouch (.ref S) >>= fun _ => again (.builtin "list.extend.loop" ⟨[.ref S, .ref z, .none], []⟩)) _ _ _
  refine wpAny_bind (wpAny_rule ?_)
  refine wpAny_bind ?_
  show wpAny _ _ (updateSeq S (·.push .none) >>= fun _ => updateSeq S (·.pop)) _ _ _
  refine wpAny_bind (wpAny_updateSeq (s := { s with heap := hp2 }) hS2 rfl ?_)
  have hS3 := Heap.get?_update_self (Obj.mapSeq (·.push Value.none)) hS2 rfl
  refine wpAny_updateSeq (hz := by seq_fits) hS3 rfl ?_
  have hS4 := Heap.get?_update_self (Obj.mapSeq (·.pop)) hS3 rfl
  have oth : ∀ b o, b ≠ S → hp2.get? b = some o → ((hp2.update S (Obj.mapSeq (·.push Value.none))).update S (Obj.mapSeq (·.pop))).get? b = some o := fun b o hb e => (Heap.get?_update_other _ _ (Ne.symm hb)).trans ((Heap.get?_update_other _ _ (Ne.symm hb)).trans e)
  refine wpAny_pure ⟨plainId_quiet PySem.F.plain_extend_loop _, extend_loopN (A := A.in1) W hn .none _ 0 _ _ [] _ rfl (Nat.zero_le _) (W.frame 0 _ _ st2 oth) hS4 PairsOf.nil (fun a h => (List.not_mem_nil h).elim) fun h' tk acc as c kp hS' pr => ?_⟩
  exact ⟨rfl, hQ h' tk acc as c (fun b o hb e => kp b o (fun m => by
    rcases List.mem_cons.mp m with m | m
    · exact old b o e m
    · exact hb m) (oth b o (old b o e) (k2 b o (old b o e) e))) hS' pr⟩
end
section
variable {X : Cx} {ρ : Env} {a b : Expr} {p p2 q pos : Pos}
theorem kv_ints (P : Program) {w : World} {K : PySem.W.Frag} {G : Hp} : ∀ {ns : List Int} {vs : List V} {us : List Value}, DxAll w K G vs (ns.map PyData.int) → Vals vs us → ∀ {ys : List V} {us2 : List Value}, Vals ys us2 → ∃ (kvs : List (Key × V)) (ws : List (Key × Value)), KV kvs ws ∧ kvs = (ns.zip ys).map (fun p => (Sum.inl p.1, p.2)) ∧ ws.length = min us.length us2.length ∧
    ∀ (i : Nat) (k v : Value), us[i]? = some k → us2[i]? = some v → ∃ key : Key, ws[i]? = some (key, v) ∧ keyIs key k = true
  | [], _, _, .nil, .nil, ys, us2, _ => ⟨[], [], .nil, rfl, by simp, fun i k v h => by simp at h⟩
  | n :: ns, _, _, .cons d dr, .cons r rr, _, _, .nil => ⟨[], [], .nil, rfl, by simp, fun i k v _ h => by simp at h⟩
  | n :: ns, _, _, .cons d dr, .cons r rr, _, _, .cons (a := y) (b := u2) r2 rr2 => by
    obtain ⟨kvs, ws, h1, h2, h3, h4⟩ := kv_ints P dr rr rr2
    cases d
    obtain ⟨t, rfl⟩ := r
    refine ⟨(Sum.inl n, y) :: kvs, (Sum.inl n, u2) :: ws, .cons ⟨rfl, r2⟩ h1, by rw [h2]; rfl, by simp [h3], fun i k v e1 e2 => ?_⟩
    cases i with
    | zero =>
      cases e1
      cases e2
      exact ⟨_, rfl, kV_is (P := P) (w := w) (k := Sum.inl n) ⟨t, rfl⟩⟩
    | succ i => exact h4 i k v e1 e2
/-- the zip of two tuples begins -/
theorem zip_start {pins : List (Addr × Obj)} {σ : L2.St} {H : Hp} {s : Shared} {a b : Addr} {xs ys : List V} {Q : Value → Shared → Prop} {E : Value → Shared → Prop} (I : Inv X pins σ H s) (ha : SqT X.K H a xs) (hb : SqT X.K H b ys)
    (h : ∀ (us us2 : List Value) (z TI TO i1 i2 : Addr) (h' : Heap), Vals xs us → Vals ys us2 → ZipApart z TI TO i1 i2 a b → ZOk z TI TO i1 i2 a b us.toArray us2.toArray h' → (∀ c ∈ [z, TO, i1, i2], s.heap.get? c = none) → Inv X pins σ H { s with heap := h' } → s.heap.objs.size ≤ h'.objs.size → (∀ c o, s.heap.get? c = some o → h'.get? c = some o) → Q (.ref z) { s with heap := h' }) :
    wpAny (model X.prog X.w) X.A (call (.type "zip") [.ref a, .ref b]) Q E s := by
  obtain ⟨its, rv, p1, _⟩ := I.tuple ha
  obtain ⟨its2, rv2, p2, _⟩ := I.tuple hb
  obtain ⟨o1, ho1, _⟩ := id p1
  obtain ⟨o2, ho2, _⟩ := id p2
  refine RZ.call_zipT (show s.heap.IsTuple a its.toArray from p1) (show s.heap.IsTuple b its2.toArray from p2) fun h' hz hTI hTO h1 h2 hsz hk => ?_
  refine h its its2 _ _ _ _ _ h' rv rv2 (PySem.W.ktu_apart s.heap.objs.size a b (Heap.lt_size ho1) (Heap.lt_size ho2)) ⟨hz, hTI, ⟨_, _, hTO⟩, h1, h2, (show s.heap.IsTuple a its.toArray from p1).at fun o e => hk _ o e, (show s.heap.IsTuple b its2.toArray from p2).at fun o e => hk _ o e⟩ (fun c hcm => ?_) (I.kept (t' := s.toks) hk) (by omega) hk
  have e' : c = s.heap.objs.size + 4 ∨ c = s.heap.objs.size + 3 ∨ c = s.heap.objs.size ∨ c = s.heap.objs.size + 1 := by simpa using hcm
  have hle : s.heap.objs.size ≤ c := by
    rcases e' with z | z | z | z
    · rw [z]; exact Nat.le_add_right _ _
    · rw [z]; exact Nat.le_add_right _ _
    · rw [z]; exact Nat.le_refl _
    · rw [z]; exact Nat.le_add_right _ _
  cases e : s.heap.get? c with
  | none => rfl
  | some o => exact absurd (Heap.lt_size e) (Nat.not_lt.mpr hle)
/-- dict(zip(a, b)): the numbers of a to what b has -/
theorem do_dictZip {ns : List Int} {es : List PyData} (hc : X.calm = true) (hg : Gl X "dict") (hm : X.mg "dict" = none) (hg2 : Gl X "zip") (hm2 : X.mg "zip" = none) (ha : DA X [a, b] ρ [.tuple (ns.map PyData.int), .tuple es])
    (s1 : starEach [a, b] X.env = (false, eval a X.env) :: starEach [b] X.env := by rfl) (s2 : (backTo q (starEach [b] X.env)).any (·.1) = false := by rfl)
    (s3 : starEach [.Call (.Name "zip" p2) [a, b] [] q] X.env = (false, eval (.Call (.Name "zip" p2) [a, b] [] q) X.env) :: starEach [] X.env := by rfl) :
    DO X (.Call (.Name "dict" p) [.Call (.Name "zip" p2) [a, b] [] q] [] pos) ρ (.ownK (dcD (fun p : Key × PyData => keyD p.1) (·.2) ((ns.zip es).map fun p => (Sum.inl p.1, p.2)) [])) := by
  refine ⟨fun pins s σ H Q I h => ?_⟩
  obtain ⟨G, sg, env, k⟩ := h
  refine Call_ (ld_blt I hg hm PyProof.Rows.boot_dict ?_)
  refine PyProof.Rows.callWith_type1 (PyProof.Rows.args_cons ?_ s3) s3 rfl
  refine Call_ (ld_blt I hg2 hm2 PyProof.Rows.boot_zip (PyProof.Rows.callWith_type1 (thn (ha.run q pins s σ H (fun vs H' => ∃ G', Grow G H G' H' ∧ DxAll X.w X.K G' vs [.tuple (ns.map PyData.int), .tuple es]) I ⟨G, sg, env, fun v G' H' g dv => ⟨G', g, dv⟩⟩) fun us s1 ⟨vs, H1, I1, r1, G1, g1, dv⟩ => ?_) s1 s2))
  cases dv with
  | cons d1 dv =>
    cases dv with
    | cons d2 dv =>
      cases dv
      cases d1 with
      | @tup a1 xs _ h1 x1 =>
        cases d2 with
        | @tup a2 ys _ h2 x2 =>
          cases r1 with
          | cons r rr =>
            cases rr with
            | cons r' rr =>
              cases rr
              cases r
              cases r'
              refine zip_start I1 (.inl (.inl (g1.s _ _ h1))) (.inl (.inl (g1.s _ _ h2))) fun us us2 z TI TO i1 i2 h' rv rv2 D ok hnew I2 hsz hk => PyProof.Rows.args_nil ?_
              obtain ⟨kvs, ws, k1, k2, k3, k4⟩ := kv_ints X.prog x1 rv rv2
              have hl : min us.toArray.size us2.toArray.size = ws.length := by rw [k3]; simp
              have hlk : kvs.length = ws.length := Paired.length k1
              have hxz : xs.length ≤ sizeLine := by obtain ⟨_, _, _, z⟩ := I1.tuple (.inl (.inl (g1.s _ _ h1))); exact z
              have hle : ws.length ≤ sizeLine := by
                rw [k3]
                have := rv.length
                omega
              refine call_dict_pairs (knd := mixKind X.prog X.w) (PairArg.zipT z TI TO i1 i2 a1 a2 D us.toArray us2.toArray) (I2.ok.hd hc) ok ⟨hl.symm, fun i key v hr => ?_⟩ (by omega) fun h2' tk hd kp => ?_
              · obtain ⟨ky, e1, e2⟩ := k4 i key v (by simpa using hr.1) (by simpa using hr.2)
                exact ⟨ky, e1, e2⟩
              · have hn : H1 h'.objs.size = none := I2.hok.fresh (Nat.le_refl _)
                have hz2 : (putAllK [] kvs).length ≤ sizeLine := by
                  have := putAllK_len kvs []
                  rw [List.length_nil] at this
                  omega
                have I3 := I1.laid (t' := tk) (h' := h2') (a := h'.objs.size) (o := .dK (putAllK [] kvs)) (fun c o e => kp c o (fun m => by rw [hnew c m] at e; cases e) (hk c o e)) hsz (dk_new hz2 (beq_eq_false_iff_ne.mpr (Ne.symm (Nat.ne_of_lt I2.big))) (kv_all k1 .nil) hd)
                refine ⟨.ref h'.objs.size, _, I3, rfl, k _ _ G1 _ (g1.trans (.own g1.s hn)) (g1.h.free hn) (g1.s.free hn) upd_same ⟨_, rfl, dxk_all ?_ .nil⟩⟩
                subst k2
                clear k hl hlk hle k4 k3 k1 hd I3 hz2 ok rv rv2 D hnew hk kp h1 h2
                have : ∀ {ns : List Int} {ys : List V} {es : List PyData}, DxAll X.w X.K G1 ys es → Paired (fun (p : Key × V) (q : Key × PyData) => p.1 = q.1 ∧ Dx X.w X.K G1 p.2 q.2) ((ns.zip ys).map fun p => (Sum.inl p.1, p.2)) ((ns.zip es).map fun p => (Sum.inl p.1, p.2)) := by
                  intro ns
                  induction ns with
                  | nil => intro ys es _; exact .nil
                  | cons n ns ih =>
                    intro ys es h
                    cases h with
                    | nil => exact .nil
                    | cons d r => exact .cons ⟨rfl, d⟩ (ih r)
                exact this x2
theorem items_laidS {pins : List (Addr × Obj)} {σ : L2.St} {H : Hp} {s : Shared} {h' : Heap} {tk : Nat} {kvs : List (Key × V)} {vs : List (Key × Value)} {acc : Array Value} {c : Nat} {as : List Addr} {S : Addr} (I : Inv X pins σ H s) (hS0 : s.heap.objs.size ≤ S) (hz : kvs.length ≤ sizeLine) (kv : KV kvs vs)
    (hk : ∀ b o, s.heap.get? b = some o → h'.get? b = some o) (hS : h'.get? S = some { cls := .type "list", dict := none, data := .seq acc c, slots := #[] }) (hl : as.length = vs.length) (hG : PySem.W.KdxG (mixKind X.prog X.w) vs S h' as) (hacc : acc.toList = as.map Value.ref) :
    ∃ H' : Hp, (∀ b o, H b = some o → H' b = some o) ∧ H S = none ∧ (∀ t ∈ as, H t = none) ∧ S ∉ as ∧ H' S = some (.lst (as.map V.ref)) ∧ Paired (fun (t : Addr) (q : Key × V) => H' t = some (.tup [kV q.1, q.2])) as kvs ∧ Inv X pins σ H' { s with heap := h', toks := tk } := by
  have lk : kvs.length = vs.length := Paired.length kv
  have hSn : S ∉ as := fun z => Nat.lt_irrefl _ (hG.above _ z)
  have nd : as.Nodup := List.Pairwise.imp (fun {a b} (h : a < b) => Nat.ne_of_lt h) hG.rise
  have new : ∀ t ∈ as, H t = none := fun t ht => I.hok.fresh (Nat.le_trans hS0 (Nat.le_of_lt (hG.above t ht)))
  have newS : H S = none := I.hok.fresh hS0
  have atP := LiI.putT_at as kvs (upd H S (.lst (as.map V.ref))) (by omega) nd
  have off : ∀ b, b ∉ as → b ≠ S → LiI.putT (upd H S (.lst (as.map V.ref))) as kvs b = H b := fun b h1 h2 => by rw [LiI.putT_off as kvs _ h1, upd_ne h2]
  have low : ∀ b o, s.heap.get? b = some o → b ∉ as ∧ b ≠ S := fun b o e => ⟨fun z => absurd (Heap.lt_size e) (Nat.not_lt.mpr (Nat.le_trans hS0 (Nat.le_of_lt (hG.above b z)))), Nat.ne_of_lt (Nat.lt_of_lt_of_le (Heap.lt_size e) hS0)⟩
  have kp : ∀ b u, H b = some u → (LiI.putT (upd H S (.lst (as.map V.ref))) as kvs) b = some u := fun b u e => by
    rw [off b (fun z => by rw [new b z] at e; cases e) (fun z => by rw [z, newS] at e; cases e)]
    exact e
  have eS : LiI.putT (upd H S (.lst (as.map V.ref))) as kvs S = some (.lst (as.map V.ref)) := by rw [LiI.putT_off as kvs _ hSn, upd_same]
  refine ⟨LiI.putT (upd H S (.lst (as.map V.ref))) as kvs, kp, newS, new, hSn, eS, atP, ?_⟩
  refine I.call' (ch := []) rfl ⟨fun b o q _ _ _ => hk b o q, fun b o q _ _ _ => ⟨o.slots, hk b o q⟩, fun b o q n _ => ?_, fun b o q _ => ⟨o, hk b o q⟩, fun b xs q => kp b _ q, fun b o u q => kp b _ q, fun b ps q => ⟨#[], by rw [kp b _ q]; simp⟩⟩ (fun b u q => ?_) I.bare fun b z => by simp at z
  · obtain ⟨z1, z2⟩ := low b o q
    rw [off b z1 z2]
    exact n
  · by_cases hb : b ∈ as
    · obtain ⟨j, pk, e1, e2, e3⟩ := LiI.paired_ix atP hb
      rw [e3] at q
      cases q
      obtain ⟨key, k, x, f1, f2, f3⟩ := hG.pairs j b e1
      obtain ⟨qv, g1, g2, g3⟩ := LiI.paired_get kv e2
      rw [f1] at g1
      cases g1
      have rk : RelV (kV pk.1) key := by
        rw [g2]
        exact relV_key (show keyIs k key = true from f2)
      exact ⟨by show 2 ≤ sizeLine; decide, [key, x], .cons rk (.cons g3 .nil), ⟨_, f3, rfl, _, rfl⟩⟩
    · by_cases hb2 : b = S
      · rw [hb2] at q ⊢
        rw [eS] at q
        cases q
        refine ⟨by rw [List.length_map]; omega, acc.toList, c, by rw [hacc]; exact LiI.vals_refs as, ?_⟩
        rw [Array.toArray_toList]
        exact hS
      · rw [off b hb hb2] at q
        exact (I.hok b u q).stay (fun d v _ y => hk d v y) (fun d y => kp d _ y) fun d xs y => kp d _ y
/-- list(zip(a, b)) -/
theorem de_listZip {ns : List Int} {es : List PyData} (hc : X.calm = true) (hg : Gl X "list") (hm : X.mg "list" = none) (hg2 : Gl X "zip") (hm2 : X.mg "zip" = none) (ha : DA X [a, b] ρ [.tuple (ns.map PyData.int), .tuple es])
    (s1 : starEach [a, b] X.env = (false, eval a X.env) :: starEach [b] X.env := by rfl) (s2 : (backTo q (starEach [b] X.env)).any (·.1) = false := by rfl)
    (s3 : starEach [.Call (.Name "zip" p2) [a, b] [] q] X.env = (false, eval (.Call (.Name "zip" p2) [a, b] [] q) X.env) :: starEach [] X.env := by rfl) :
    DE X (.Call (.Name "list" p) [.Call (.Name "zip" p2) [a, b] [] q] [] pos) ρ (.list ((ns.zip es).map fun p => .tuple [.int p.1, p.2])) := by
  refine ⟨fun pins s σ H Q I h => ?_⟩
  obtain ⟨G, sg, env, k⟩ := h
  refine Call_ (ld_blt I hg hm PyProof.Rows.boot_list ?_)
  refine PyProof.Rows.callWith_type1 (PyProof.Rows.args_cons ?_ s3) s3 rfl
  refine Call_ (ld_blt I hg2 hm2 PyProof.Rows.boot_zip (PyProof.Rows.callWith_type1 (thn (ha.run q pins s σ H (fun vs H' => ∃ G', Grow G H G' H' ∧ DxAll X.w X.K G' vs [.tuple (ns.map PyData.int), .tuple es]) I ⟨G, sg, env, fun v G' H' g dv => ⟨G', g, dv⟩⟩) fun us s1 ⟨vs, H1, I1, r1, G1, g1, dv⟩ => ?_) s1 s2))
  cases dv with
  | cons d1 dv =>
    cases dv with
    | cons d2 dv =>
      cases dv
      cases d1 with
      | @tup a1 xs _ h1 x1 =>
        cases d2 with
        | @tup a2 ys _ h2 x2 =>
          cases r1 with
          | cons r rr =>
            cases rr with
            | cons r' rr =>
              cases rr
              cases r
              cases r'
              refine zip_start I1 (.inl (.inl (g1.s _ _ h1))) (.inl (.inl (g1.s _ _ h2))) fun us us2 z TI TO i1 i2 h' rv rv2 D ok hnew I2 hsz hk => PyProof.Rows.args_nil ?_
              obtain ⟨kvs, ws, k1, k2, k3, k4⟩ := kv_ints X.prog x1 rv rv2
              have hl : min us.toArray.size us2.toArray.size = ws.length := by rw [k3]; simp
              have hlk : kvs.length = ws.length := Paired.length k1
              have hxz : xs.length ≤ sizeLine := by obtain ⟨_, _, _, z⟩ := I1.tuple (.inl (.inl (g1.s _ _ h1))); exact z
              have hle : ws.length ≤ sizeLine := by
                rw [k3]
                have := rv.length
                omega
              refine list_zipT (I2.ok.hd hc) D ok (by omega) fun h2' tk acc as c kp hS pr => ?_
              have hG : PySem.W.KdxG (mixKind X.prog X.w) ws h'.objs.size h2' as := ⟨pr.2.2.1, pr.2.2.2.1, fun j t ht => by
                obtain ⟨kx, vx, ⟨r1, r2⟩, r3⟩ := pr.2.2.2.2 j t ht
                obtain ⟨ky, e1, e2⟩ := k4 j kx vx (by simpa using r1) (by simpa using r2)
                exact ⟨kx, ky, vx, e1, e2, r3⟩⟩
              obtain ⟨H', c1, c2, c3, c4, c5, c6, J⟩ := items_laidS (tk := tk) I1 hsz (by omega) k1 (fun c o e => kp c o (fun m => by rw [hnew c m] at e; cases e) (hk c o e)) hS (by rw [pr.1, hl]) hG pr.2.1
              have fr : ∀ t ∈ as, G1 t = none := fun t ht => g1.s.free (c3 t ht)
              classical
              let G' : Hp := fun a => if a = h'.objs.size ∨ a ∈ as then H' a else G1 a
              have sG : Same G1 G' := fun a o e => by
                have z1 : a ≠ h'.objs.size := fun z => by rw [z, g1.s.free c2] at e; cases e
                have z2 : a ∉ as := fun z => by rw [fr a z] at e; cases e
                show (if a = h'.objs.size ∨ a ∈ as then H' a else G1 a) = some o
                rw [if_neg (by simp [z1, z2])]
                exact e
              have sH : Same G' H' := fun a o e => by
                have e : (if a = h'.objs.size ∨ a ∈ as then H' a else G1 a) = some o := e
                split at e
                · exact e
                · exact c1 _ _ (g1.s _ _ e)
              have g2 : Grow G1 H1 G' H' := ⟨sG, fun a o e => c1 a o e, sH, fun a e1 e2 => by
                show (if a = h'.objs.size ∨ a ∈ as then H' a else G1 a) = none
                rw [if_neg ?_]
                · exact e1
                · rintro (rfl | z)
                  · exact e2 c2
                  · exact e2 (c3 a z)⟩
              refine ⟨.ref h'.objs.size, H', J, rfl, k (.ref h'.objs.size) G' H' (g1.trans g2) (.lst (xs := as.map V.ref) ?_ ?_)⟩
              · show (if h'.objs.size = h'.objs.size ∨ h'.objs.size ∈ as then H' h'.objs.size else G1 h'.objs.size) = _
                rw [if_pos (.inl rfl)]
                exact c5
              · have hG' : ∀ t ∈ as, ∀ o, H' t = some o → G' t = some o := fun t ht o e => by
                  show (if t = h'.objs.size ∨ t ∈ as then H' t else G1 t) = some o
                  rw [if_pos (.inr ht)]
                  exact e
                subst k2
                have : ∀ {ns : List Int} {ys : List V} {es : List PyData} {as : List Addr}, (∀ t ∈ as, ∀ o, H' t = some o → G' t = some o) → DxAll X.w X.K G1 ys es → Paired (fun (t : Addr) (q : Key × V) => H' t = some (.tup [kV q.1, q.2])) as ((ns.zip ys).map fun p => (Sum.inl p.1, p.2)) → DxAll X.w X.K G' (as.map V.ref) ((ns.zip es).map fun p => .tuple [.int p.1, p.2]) := by
                  intro ns
                  induction ns with
                  | nil =>
                    intro ys es as _ _ hp
                    cases hp
                    exact .nil
                  | cons n ns ih =>
                    intro ys es as hg d hp
                    cases d with
                    | nil =>
                      cases hp
                      exact .nil
                    | cons d r =>
                      cases hp with
                      | cons q t => exact .cons (.tup (hg _ List.mem_cons_self _ q) (.cons (.int n) (.cons (d.mono sG) .nil))) (ih (fun t ht => hg t (List.mem_cons_of_mem _ ht)) r t)
                exact this hG' x2 c6
end
end K64


/-! ## K64Iter -/
/-! enumerate of a tuple; a loop over the keys of a new nested-key dict. -/
namespace K64
open PySem PySem.Spec PyProof.Rows L2
open Sem (wp)
theorem meets_enumerate_newT {v : Value} {o : Obj} {H : Heap → Prop} (B : Begins v o H) :
    Meets (Builtin.«enumerate.__new__» ⟨[.type "enumerate", v], []⟩) (fun _ R s => H s.heap ∧
      R (.ok (.ret (.ref (s.heap.push o).objs.size))) { s with heap := (s.heap.push o).push { cls := .type "enumerate", data := .fields #[.none, .bool false, .ref s.heap.objs.size, rawInt 0, .none, .none] } }) :=
  .of_wp fun prog w A R s h => by
    obtain ⟨hp, g, d, tk, os⟩ := s; obtain ⟨h1, h⟩ := h
    have hsub := sub_enumerate
    have q1 : ∀ {A' : Around} {E : Value → Shared → Prop} {Q : Value → Shared → Prop}, Q (.ref hp.objs.size) ⟨hp.push o, g, d, tk, os⟩ → wpAny (model prog w) A' (pyIter v) Q E ⟨hp, g, d, tk, os⟩ :=
      fun q => B.iter prog w _ _ ⟨hp, g, d, tk, os⟩ _ h1 q
    wp_walk using q1
    refine wpAny_stack_any fun st => wpAny_pure ?_
    split
    · rename_i c _ _ _ _ _
      cases (c == Value.type "enumerate")
      · wp_walk using q1
        exact ⟨_, rfl, h⟩
      · wp_walk using q1
        exact ⟨_, rfl, h⟩
    · wp_walk using q1
      exact ⟨_, rfl, h⟩
section
variable {prog : Program} {w : World} {A : Around} {E : Value → Shared → Prop} {s : Shared}
theorem call_enumT {v : Value} {o : Obj} {H : Heap → Prop} {Q : Value → Shared → Prop} (B : Begins v o H) (h1 : H s.heap)
    (h : ∀ h', IsEnum h' (s.heap.objs.size + 1) s.heap.objs.size 0 .none → h'.get? s.heap.objs.size = some o → h'.objs.size = s.heap.objs.size + 2 →
      (∀ b o, s.heap.get? b = some o → h'.get? b = some o) → Q (.ref (s.heap.objs.size + 1)) { s with heap := h' }) :
    wpAny (model prog w) A (call (.type "enumerate") [v]) Q E s := by
  refine callType_new F.called_enumerate (by decide) (F.typeCall_enumerate_1 _) (F.newCall_enumerate_1 _) (fun obj => F.args_object_init_2 obj _) F.entry_enumerate_new
    (meets_enumerate_newT B) ⟨h1, ?_⟩
  have hz : (s.heap.push o).objs.size = s.heap.objs.size + 1 := Heap.size_push ..
  show _ ∧ _
  rw [hz]
  have he : IsEnum ((s.heap.push o).push { cls := .type "enumerate", data := .fields #[.none, .bool false, .ref s.heap.objs.size, rawInt 0, .none, .none] }) (s.heap.objs.size + 1) s.heap.objs.size 0 .none := by
    have := Heap.get?_push_size (s.heap.push o) (o := { cls := .type "enumerate", data := .fields #[.none, .bool false, .ref s.heap.objs.size, rawInt 0, .none, .none] }) rfl
    rw [hz] at this; exact this
  refine ⟨⟨_, he, rfl⟩, h _ he (Heap.get?_push_of_some _ (Heap.get?_push_size _ B.free)) (by rw [Heap.size_push, hz]) fun b o x => Heap.get?_push_of_some _ (Heap.get?_push_of_some _ x)⟩
end
/-- the tuple at a, the items in new pairs with their place -/
def IteT (K : PySem.W.Frag) (a : Addr) : It :=
  ⟨fun i H => ∃ (xs : List V) (x : V), SqT K H a xs ∧ xs[i]? = some x,
    fun i H v H' => ∃ T x, v = .ref T ∧ H T = none ∧ H' = upd H T (.tup [.int (i : Nat), x]) ∧ ∀ xs, SqT K H a xs → xs[i]? = some x,
    fun i H => ∃ xs : List V, SqT K H a xs ∧ xs.length ≤ i⟩
theorem turn_enumT {P : Program} {w : World} {K : PySem.W.Frag} {elts : List Expr} {kk : Nat} {tpos : Pos} (a e it : Addr) :
    Turn P w K (.Tuple elts kk tpos) (IteT K a) [e, it] e (fun i h => (∃ old, IsEnum h e it ((i : Nat) : Int) old) ∧ h.IsTupleIter it a i ∧ e ≠ it ∧ e ≠ a ∧ a ≠ it) where
  mem := by simp
  obj := fun i h st b hb => by
    obtain ⟨⟨old, he⟩, ⟨o, ho, hc, hd⟩, _⟩ := st
    have e' : b = e ∨ b = it := by simpa using hb
    rcases e' with z | z
    · rw [z]; exact ⟨_, he, fun v q => nomatch q⟩
    · rw [z]; exact ⟨o, ho, fun v q => by rw [hd] at q; cases q⟩
  keep := fun i h h' st k => let ⟨⟨old, he⟩, hi, hne⟩ := st; ⟨⟨old, k e (by simp) _ he⟩, hi.at fun o q => k it (by simp) o q, hne⟩
  item := by
    intro X hP hw hK hc i pins s σ H E I hf st hg
    subst hP hw hK
    obtain ⟨⟨old, he⟩, hit, hne, hea, hai⟩ := st
    obtain ⟨xs, x, hq, hx⟩ := hg
    obtain ⟨its, rv, p, hz⟩ := I.tuple hq
    obtain ⟨u, hu, ru⟩ := rv.get hx
    have hel : e < s.heap.objs.size := Heap.lt_size he
    have hil : it < s.heap.objs.size := by obtain ⟨_, q, _⟩ := hit; exact Heap.lt_size q
    have hlt : i < its.toArray.size := by
      have := (List.getElem?_eq_some_iff.mp hu).1
      simpa using this
    refine wpAny_pyNext_enum_itemD (Draws.tuple (show X.A.in1.handled = none from I.ok.hd hc) it a hai its.toArray) he ⟨hit, p⟩ hlt hne (by simp [hne, hea]) fun v h' tk hv ho hst hT hsz hk => ?_
    have ev : v = u := by
      have hu' : its.toArray[i]? = some u := by simpa using hu
      rw [hu'] at hv
      exact (Option.some.inj hv).symm
    subst ev
    have hit' : h'.IsTupleIter it a (i + 1) := hst.1
    refine ⟨_, rfl, wpAny_letOwnedTupleGo_enum (s := { s with heap := h', toks := tk + 1 }) ho fun h'' he' sb => ?_⟩
    have hT2 : h''.get? s.heap.objs.size = some { cls := .type "tuple", data := .seq #[.int i tk, v] } := (sb.2 _ (Nat.ne_of_gt hel)).trans hT
    have new : ObjOk X.prog X.w (upd H s.heap.objs.size (.tup [.int (i : Nat), x])) h'' s.heap.objs.size (.tup [.int (i : Nat), x]) :=
      ⟨by show 2 ≤ sizeLine; decide, [.int i tk, v], .cons ⟨_, rfl⟩ (.cons ru .nil), ⟨_, hT2, rfl, _, rfl⟩⟩
    have I1 : Inv X pins σ (upd H s.heap.objs.size (.tup [.int (i : Nat), x])) { s with heap := h'', toks := tk + 1 } :=
      I.turnedNew (ch := [e, it]) (fun b ob hb q => (sb.2 b (fun z => hb (by simp [z]))).trans (hk b ob (fun z => hb (by simp [z])) (fun z => hb (by simp [z])) q)) hf (Nat.le_refl _) new
    refine ⟨.ref s.heap.objs.size, _, I1, rfl, ⟨_, x, rfl, I.hok.fresh (Nat.le_refl _), rfl, fun ys hy => by
      have : ys = xs := I.tuple_inj hy hq
      rw [this]; exact hx⟩, ⟨⟨v, ?_⟩, hit'.at fun o q => (sb.2 it (Ne.symm hne)).trans q, hne, hea, hai⟩, fun b hb => ?_⟩
    · have e1 : ((i + 1 : Nat) : Int) = (i : Int) + 1 := by omega
      rw [e1]; exact he'
    · have hb' : b < s.heap.objs.size := by
        have e' : b = e ∨ b = it := by simpa using hb
        rcases e' with z | z
        · rw [z]; exact hel
        · rw [z]; exact hil
      rw [upd_ne (Nat.ne_of_lt hb')]
      exact (hf b hb).1
  done := by
    intro X hP hw hK hc i pins s σ H E I hf st hg
    subst hP hw hK
    obtain ⟨⟨old, he⟩, hit, hne, hea, hai⟩ := st
    obtain ⟨xs, hq, hx⟩ := hg
    obtain ⟨its, rv, p, hz⟩ := I.tuple hq
    obtain ⟨f0, f1, f2, f3, f4, f5⟩ := hf it (by simp)
    have hl := rv.length
    have hT : s.TypeIs (.ref e) "enumerate" := ⟨_, he, rfl⟩
    unfold pyNext
    refine wpAny_bind (wpAny_attempt (wpAny_callSpecial?_slot (name := Str.ofString "__next__") hT F.slot_enumerate_next
      (wpAny_call_entry F.slot_enumerate_next hT F.entry_enumerate_next ?_ (F.args_enumerate_next_1 _))))
    show wpAny _ _ (field (.ref e) 2 >>= _) _ _ _
    refine wpAny_bind (wpAny_field he rfl (x := .ref it) rfl ?_)
    refine wpAny_bind (wpAny_nextOf_tuple_end (show X.A.in1.handled = none from I.ok.hd hc) hit p (by simp; omega) fun h' x he' hx' => ?_)
    obtain ⟨o, ho, hc⟩ := hx'
    refine wpAny_bind (wpAny_isInstance (T := "StopIteration") (b := true) ⟨o, ho, hc⟩ isSubtype_stop ?_)
    exact wpAny_pure ⟨rfl, I.turned (t' := s.toks) (fun b o hb q => he' b o hb q) f0 f1 f3 f4 f5⟩
  self := fun A i s Q E st h => let ⟨⟨_, he⟩, _⟩ := st; wpAny_pyIter_enum he h
def iEnumT (K : PySem.W.Frag) (ta : TA) : TI := fun σ H R => ta σ H fun vs H1 => ∃ a xs, vs = [V.ref a] ∧ SqT K H1 a xs ∧ R (IteT K a) H1
theorem pi_enumT {X : Cx} {e : Expr} {ta : TA} {p pos tpos : Pos} {elts : List Expr} {kk : Nat} (hg : Gl X "enumerate") (hm : X.mg "enumerate" = none) (ha : PA X [e] ta) (hs : starEach [e] X.env = [(false, eval e X.env)] := by rfl) :
    PI X (.Tuple elts kk tpos) (.Call (.Name "enumerate" p) [e] [] pos) (iEnumT X.K ta) := by
  refine ⟨fun pins s σ H R I h => ?_⟩
  refine Call_ (ld_blt I hg hm boot_enumerate (PyProof.Rows.callWith_type1 (thn (ha.run pos pins s σ H _ I h) fun us s1 ⟨vs, H1, I1, r1, q1⟩ => ?_) hs rfl))
  obtain ⟨a, xs, ex, hq, q⟩ := q1
  subst ex
  cases r1 with
  | cons r rr =>
    cases rr
    cases r
    obtain ⟨its, rv, p', hz⟩ := I1.tuple hq
    have hal : a < s1.heap.objs.size := p'.lt
    refine call_enumT (begins_tuple a its.toArray) p' fun h' he hit hsz hk => wpAny_pyIter_enum he ?_
    have I2 : Inv X pins σ H1 { s1 with heap := h' } := I1.kept (t' := s1.toks) hk
    refine ⟨s1.heap.objs.size + 1, [s1.heap.objs.size + 1, s1.heap.objs.size], _, _, H1, rfl, I2, turn_enumT a (s1.heap.objs.size + 1) s1.heap.objs.size, ⟨⟨.none, he⟩, ⟨_, hit, rfl, rfl⟩, Nat.succ_ne_self _, Ne.symm (Nat.ne_of_lt (Nat.lt_succ_of_lt hal)), Nat.ne_of_lt hal⟩, fun b hb => ?_, q⟩
    have e' : b = s1.heap.objs.size + 1 ∨ b = s1.heap.objs.size := by simpa using hb
    have hle : s1.heap.objs.size ≤ b := by
      rcases e' with z | z
      · rw [z]; exact Nat.le_add_right _ _
      · rw [z]; exact Nat.le_refl _
    exact I1.fpOk hle (I1.hok.fresh hle)
section
variable {w : World} {K : PySem.W.Frag} {G : Hp} {a : Addr} {xs : List V} {ds : List PyData}
theorem wk_enumT (ha : G a = some (.tup xs)) (r1 : DxAll w K G xs ds) : Wk w K (IteT K a) G (ds.zipIdx.map fun p => PyData.tuple [.int (p.2 : Nat), p.1]) where
  go := fun i H s hi => by
    simp only [List.length_map, List.length_zipIdx] at hi
    have h1 : i < xs.length := by rw [r1.length]; omega
    exact ⟨xs, xs[i], .inl (.inl (s _ _ ha)), by simp [h1]⟩
  stop := fun H s => by
    refine ⟨xs, .inl (.inl (s _ _ ha)), ?_⟩
    simp only [List.length_map, List.length_zipIdx]
    rw [r1.length]
    exact Nat.le_refl _
  yld := fun i G1 H v H' s s1 hi y => by
    obtain ⟨T, x, rfl, hT, rfl, f1⟩ := y
    obtain ⟨d, e1, dx⟩ := r1.getV (f1 xs (.inl (.inl (s1 _ _ (s _ _ ha)))))
    obtain ⟨g, q⟩ := new_pair (x := .int (i : Nat)) (d := .int (i : Nat)) s1 hT (.int _) (dx.mono s)
    exact ⟨.tuple [.int (i : Nat), d], _, by rw [List.getElem?_map, List.getElem?_zipIdx, e1]; simp, g, q⟩
end
theorem di_enumT {X : Cx} {ρ : Env} {ds : List PyData} {e : Expr} {p pos tpos : Pos} {elts : List Expr} {kk : Nat} (hg : Gl X "enumerate") (hm : X.mg "enumerate" = none) (ha : DA X [e] ρ [.tuple ds]) (hs : starEach [e] X.env = [(false, eval e X.env)] := by rfl) :
    DI X (.Tuple elts kk tpos) (.Call (.Name "enumerate" p) [e] [] pos) ρ (ds.zipIdx.map fun p => PyData.tuple [.int (p.2 : Nat), p.1]) := pi_imp (pi_enumT hg hm ha hs) fun σ H R ⟨G, s, env, q⟩ => ⟨G, s, env, fun vs G' H' g dv => by
  cases dv with
  | cons d1 dr =>
    cases dr
    cases d1 with
    | tup h1 r1 => exact ⟨_, _, rfl, .inl (.inl (g.s _ _ h1)), q _ G' H' g (wk_enumT h1 r1)⟩⟩
/-! ### the keys of a new nested-key dict -/
def Itkn (w : World) (d : Addr) (o : Obj) (es : NEs) : It :=
  ⟨fun i H => H d = some (.frz o (NDO w d es)) ∧ i < es.length, fun i H x H' => H' = H ∧ ∃ (k : NestedKey) (b : Addr) (v : V), es[i]? = some (k, b, v) ∧ x = .ref b, fun i H => H d = some (.frz o (NDO w d es)) ∧ es.length ≤ i⟩
theorem paired_at {α β : Type} {R : α → β → Prop} : ∀ {l : List α} {m : List β}, Paired R l m → ∀ {i : Nat} {a : α}, l[i]? = some a → ∃ b, m[i]? = some b ∧ R a b
  | _, _, .nil, _, _, h => by simp at h
  | _, _, .cons r _, 0, _, h => ⟨_, rfl, by
    have e := Option.some.inj h
    rw [← e]; exact r⟩
  | _, _, .cons _ t, i + 1, _, h => paired_at t (i := i) h
theorem frzN {X : Cx} {pins : List (Addr × Obj)} {σ : L2.St} {H : Hp} {s : Shared} {d : Addr} {o : Obj} {es : NEs} (I : Inv X pins σ H s) (h : H d = some (.frz o (NDO X.w d es))) :
    (d == sysModules) = false ∧ s.heap.get? d = some o ∧ o.ExactDict ∧ ∃ (ents : Array DictEntry) (ep : Nat), o.data = .dict ents ep ∧ ents.size = es.length ∧
      ∀ (i : Nat) (k : NestedKey) (b : Addr) (v : V), es[i]? = some (k, b, v) → ∃ en : DictEntry, ents[i]? = some en ∧ en.key = .ref b := by
  obtain ⟨hd, ⟨z, hs, xs, pr, nd, o', ents, ep, ho, hx, hdt, he⟩, _⟩ := I.hok d _ h
  rw [hd] at ho
  cases ho
  have hl : ents.size = es.length := by rw [← Array.length_toList, he, List.length_map, ent_len pr]
  refine ⟨hs, hd, hx, ents, ep, hdt, hl, fun i k b v e => ?_⟩
  obtain ⟨q, hq, e1, e2, e3⟩ := paired_at pr e
  refine ⟨⟨q.1.hash X.w, .ref q.2.1, q.2.2⟩, ?_, by rw [← e2]⟩
  rw [← Array.getElem?_toList, he, List.getElem?_map, hq]
  rfl
theorem turn_keysN {P : Program} {w : World} {K : PySem.W.Frag} {tg : Expr} {d : Addr} {o : Obj} {ents : Array DictEntry} {ep : Nat} {es : NEs} (it : Addr) (hod : o.data = .dict ents ep) : Turn P w K tg (Itkn w d o es) [it] it (fun i h => h.IsKeyIter it d i es.length ep) where
  mem := by simp
  obj := fun i h st b hb => by
    have e : b = it := by simpa using hb
    subst e
    obtain ⟨oi, e, c, dd⟩ := st
    exact ⟨oi, e, fun v z => by rw [dd] at z; cases z⟩
  keep := fun i h h' st k => st.at fun oi e => k it (by simp) oi e
  item := by
    intro X hP hw hK hc i pins s σ H E I hf st hg
    subst hP hw hK
    obtain ⟨hd, hi⟩ := hg
    obtain ⟨f0, f1, f2, f3, f4, f5⟩ := hf it (by simp)
    obtain ⟨hs, hgd, hx, es', ep', hdt, hsz, ent⟩ := frzN I hd
    obtain ⟨rfl, rfl⟩ := dict_ep hod hdt
    obtain ⟨⟨k, b, v⟩, hkv⟩ : ∃ p, es[i]? = some p := ⟨es[i], List.getElem?_eq_getElem hi⟩
    obtain ⟨en, hen, hkey⟩ := ent i k b v hkv
    refine next_key_item st hgd hdt hsz hen fun h' st' sb => ?_
    have I1 : Inv X pins σ H { s with heap := h' } := I.turned (t' := s.toks) (fun b ob hb e => (sb.2 b hb).trans e) f0 f1 f3 f4 f5
    obtain ⟨oi, e, c, dd⟩ := id st'
    exact ⟨en.key, rfl, go_of (s := { s with heap := h' }) e c dd (by decide) ⟨.ref b, H, I1, hkey, ⟨rfl, k, b, v, hkv, rfl⟩, st', fun b hb => (hf b hb).1⟩⟩
  done := by
    intro X hP hw hK hc i pins s σ H E I hf st hg
    subst hP hw hK
    obtain ⟨hd, hi⟩ := hg
    obtain ⟨f0, f1, f2, f3, f4, f5⟩ := hf it (by simp)
    obtain ⟨hs, hgd, hx, es', ep', hdt, hsz, ent⟩ := frzN I hd
    obtain ⟨rfl, rfl⟩ := dict_ep hod hdt
    exact next_key_end (I.ok.hd hc) st hgd hdt hsz hi fun h' eb => ⟨rfl, I.turned (t' := s.toks) (fun b ob hb e => eb b ob hb e) f0 f1 f3 f4 f5⟩
  self := fun A i s Q E st h => by
    refine wpAny_pyIter_slot st.typeIs F.slot_dict_keyiterator_iter (wpAny_call_entry F.slot_dict_keyiterator_iter st.typeIs F.entry_dict_keyiterator_iter ?_ (F.args_dict_keyiterator_iter_1 _))
    show wpAny _ _ (ret (.ref it)) _ _ s
    exact wpAny_pure ⟨_, rfl, "dict_keyiterator", _, st.typeIs, F.slot_dict_keyiterator_next.lookup, h⟩
theorem dxn_at {w : World} {K : PySem.W.Frag} {G : Hp} : ∀ {es : NEs} {ds : List (PyData × PyData)}, DxN w K G es ds → ∀ {i : Nat} {k : NestedKey} {b : Addr} {v : V}, es[i]? = some (k, b, v) → ∃ q, ds[i]? = some q ∧ Dx w K G (.ref b) q.1
  | _, _, .nil, _, _, _, _, h => by simp at h
  | _, _, .cons h1 _ _ _ _, 0, _, _, _, h => ⟨_, rfl, by
    have e := Option.some.inj h
    cases e
    exact h1⟩
  | _, _, .cons _ _ _ _ r, i + 1, _, _, _, h => dxn_at r (i := i) h
theorem wk_keysN {w : World} {K : PySem.W.Frag} {G : Hp} {d : Addr} {o : Obj} {es : NEs} {ds : List (PyData × PyData)} (h : G d = some (.frz o (NDO w d es))) (r : DxN w K G es ds) : Wk w K (Itkn w d o es) G (ds.map (·.1)) where
  go := fun i H s hi => ⟨s _ _ h, by rw [dxn_len r]; simpa using hi⟩
  stop := fun H s => ⟨s _ _ h, by rw [dxn_len r]; simp⟩
  yld := fun i G1 H x H' s s1 hi y => by
    obtain ⟨rfl, k, b, v, e, rfl⟩ := y
    obtain ⟨q, e1, dx⟩ := dxn_at r e
    exact ⟨q.1, G1, by rw [List.getElem?_map, e1]; rfl, .refl s1, dx.mono s⟩
/-- for k in e, e a new nested-key dict -/
theorem di_keysN {X : Cx} {tg e : Expr} {ρ : Env} {ds : List (PyData × PyData)} (he : DO X e ρ (.ownN ds)) : DI X tg e ρ (ds.map (·.1)) := by
  refine ⟨fun pins s σ H R I h => ?_⟩
  obtain ⟨G, sg, env, q⟩ := h
  refine thn (he.run pins s σ H (fun v H1 => ∃ p es G', v = V.ref p ∧ Grow G H G' H1 ∧ H p = none ∧ G' p = none ∧ H1 p = some (NDO X.w p es) ∧ DxN X.w X.K G' es ds) I ⟨G, sg, env, fun p b G' H' g h1 h2 h3 h4 => by
    obtain ⟨es, rfl, r⟩ := h4
    exact ⟨p, es, G', rfl, g, h1, h2, h3, r⟩⟩) fun u s1 ⟨x, H1, I1, rx, p, es, G', ex, g, h1, h2, h3, r⟩ => ?_
  subst ex
  obtain rfl : u = Value.ref p := rx
  obtain ⟨od, I2⟩ := I1.lock h3 True.intro
  obtain ⟨hs, hgd, hx, ents, ep, hdt, hsz, ent⟩ := frzN I2 upd_same
  have sG : Same G' (upd G' p (.frz od (NDO X.w p es))) := same_new h2
  have g2 : Grow G H (upd G' p (.frz od (NDO X.w p es))) (upd H1 p (.frz od (NDO X.w p es))) := by
    refine ⟨g.g.trans sG, fun a o e => ?_, fun a o e => ?_, fun a e1 e2 => ?_⟩
    · rw [upd_ne (ne_of_none e h1)]
      exact g.h _ _ e
    · by_cases z : a = p
      · subst z
        rw [upd_same] at e ⊢
        exact e
      · rw [upd_ne z] at e ⊢
        exact g.s _ _ e
    · have z : a ≠ p := fun z => e2 (by rw [z]; exact h1)
      rw [upd_ne z]
      exact g.n a e1 e2
  refine iter_keys hs hgd hx hdt (pi_one (tk := s1.toks) I2 _ (turn_keysN _ hdt) ⟨_, Heap.get?_push_size _ rfl, rfl, ?_⟩ (q _ _ _ g2 (wk_keysN upd_same (r.mono sG))))
  rw [hsz] <;> rfl
end K64

/-! ## K64Par -/
/-! Several names at once. -/
namespace K64
open PySem PySem.Spec PyProof.Rows L2
section
variable {X : Cx} {pos : Pos}
/-- a, b = x, y where a name is captured: the pair is made, then unpacked -/
theorem ps_parC {i j : Nat} {x y : Str} {a b : Expr} {ta : TA} {px py pt : Pos} {kt k2 pt2} (hc : X.calm = true) (hN : X.N.Nodup) (hi : X.N[i]? = some x) (hj : X.N[j]? = some y)
    (hx : Loc X.env.scope x) (hy : Loc X.env.scope y) (ha : PA X [a, b] ta)
    (hw : swappedStores [.Tuple [.Name x px, .Name y py] kt pt] (.Tuple [a, b] k2 pt2) X.env = pure none)
    (hs : swapsWithSole [.Tuple [.Name x px, .Name y py] kt pt] (.Tuple [a, b] k2 pt2) pos.line X.env = pure false := by rfl)
    (hfx : X.fn x = true ∨ X.env.scope.names.lookup x = some .local := by first | exact .inl rfl | exact .inr rfl) (hfy : X.fn y = true ∨ X.env.scope.names.lookup y = some .local := by first | exact .inl rfl | exact .inr rfl) :
    PS X (.Assign [.Tuple [.Name x px, .Name y py] kt pt] (.Tuple [a, b] k2 pt2) pos) (tPar i j ta) := by
  refine ⟨fun pins s σ H D I h => ?_⟩
  refine wpAny_Assign_stores ?_ hs hw
  refine Tuple_ (thn (ha.run _ pins s σ H _ I h) fun us s1 ⟨vs, H1, I1, r1, q1⟩ => ?_)
  obtain ⟨v, w, e1, q1⟩ := q1
  subst e1
  obtain ⟨u1, u2, rfl, rv, rw'⟩ : ∃ u1 u2, us = [u1, u2] ∧ RelV v u1 ∧ RelV w u2 := by
    cases r1 with
    | cons p q =>
      cases q with
      | cons p' q' =>
        cases q'
        exact ⟨_, _, rfl, p, p'⟩
  refine wpAny_newObj_type ?_ (by show 2 ≤ sizeLine; decide)
  have I2 : Inv X pins σ H1 { s1 with heap := s1.heap.push { cls := .type "tuple", data := .seq [u1, u2].toArray } } := I1.kept (t' := s1.toks) fun b o e => Heap.get?_push_of_some _ e
  show wpAny _ _ (assignAll (.ref s1.heap.objs.size) [assign (.Tuple [.Name x px, .Name y py] kt pt) X.env]) _ _ _
  refine assign_Tuple_tuple (items := #[u1, u2]) (I.ok.hd hc) (IsTup.new s1.heap _) rfl rfl fun h' hx' => ?_
  have I3 := I2.kept (h' := h') (t' := s1.toks) fun b o e => hx' b o (Nat.ne_of_lt (Heap.lt_size e)) e
  show wpAny _ _ (assignInOrder [assign (.Name x px) X.env, assign (.Name y py) X.env] [u1, u2]) _ _ _
  refine assignInOrder_cons ?_
  refine PyProof.Rows.assign_Name (store_ok I3 hN hi hx rv (fun s3 I4 => ?_) hfx)
  refine assignInOrder_cons ?_
  refine PyProof.Rows.assign_Name (store_ok I4 hN hj hy rw' (fun s4 I5 => assignInOrder_nil ?_) hfy)
  exact ⟨_, H1, I5, q1⟩
/-- three names -/
theorem ps_par3C {i j l : Nat} {x y z : Str} {a b c : Expr} {ta : TA} {px py pz pt : Pos} {kt k2 pt2} (hc : X.calm = true) (hN : X.N.Nodup) (hi : X.N[i]? = some x) (hj : X.N[j]? = some y) (hl : X.N[l]? = some z)
    (hx : Loc X.env.scope x) (hy : Loc X.env.scope y) (hz : Loc X.env.scope z) (ha : PA X [a, b, c] ta)
    (hw : swappedStores [.Tuple [.Name x px, .Name y py, .Name z pz] kt pt] (.Tuple [a, b, c] k2 pt2) X.env = pure none)
    (hs : swapsWithSole [.Tuple [.Name x px, .Name y py, .Name z pz] kt pt] (.Tuple [a, b, c] k2 pt2) pos.line X.env = pure false := by rfl)
    (hfx : X.fn x = true ∨ X.env.scope.names.lookup x = some .local := by first | exact .inl rfl | exact .inr rfl) (hfy : X.fn y = true ∨ X.env.scope.names.lookup y = some .local := by first | exact .inl rfl | exact .inr rfl) (hfz : X.fn z = true ∨ X.env.scope.names.lookup z = some .local := by first | exact .inl rfl | exact .inr rfl) :
    PS X (.Assign [.Tuple [.Name x px, .Name y py, .Name z pz] kt pt] (.Tuple [a, b, c] k2 pt2) pos) (tPar3 i j l ta) := by
  refine ⟨fun pins s σ H D I h => ?_⟩
  refine wpAny_Assign_stores ?_ hs hw
  refine Tuple_ (thn (ha.run _ pins s σ H _ I h) fun us s1 ⟨vs, H1, I1, r1, q1⟩ => ?_)
  obtain ⟨v1, v2, v3, e1, q1⟩ := q1
  subst e1
  obtain ⟨u1, u2, u3, rfl, r1', r2', r3'⟩ : ∃ u1 u2 u3, us = [u1, u2, u3] ∧ RelV v1 u1 ∧ RelV v2 u2 ∧ RelV v3 u3 := by
    cases r1 with
    | cons p q =>
      cases q with
      | cons p' q' =>
        cases q' with
        | cons p'' q'' =>
          cases q''
          exact ⟨_, _, _, rfl, p, p', p''⟩
  refine wpAny_newObj_type ?_ (by show 3 ≤ sizeLine; decide)
  have I2 : Inv X pins σ H1 { s1 with heap := s1.heap.push { cls := .type "tuple", data := .seq [u1, u2, u3].toArray } } := I1.kept (t' := s1.toks) fun b o e => Heap.get?_push_of_some _ e
  show wpAny _ _ (assignAll (.ref s1.heap.objs.size) [assign (.Tuple [.Name x px, .Name y py, .Name z pz] kt pt) X.env]) _ _ _
  refine assign_Tuple_tuple (items := #[u1, u2, u3]) (I.ok.hd hc) (IsTup.new s1.heap _) rfl rfl fun h' hx' => ?_
  have I3 := I2.kept (h' := h') (t' := s1.toks) fun b o e => hx' b o (Nat.ne_of_lt (Heap.lt_size e)) e
  show wpAny _ _ (assignInOrder [assign (.Name x px) X.env, assign (.Name y py) X.env, assign (.Name z pz) X.env] [u1, u2, u3]) _ _ _
  refine assignInOrder_cons ?_
  refine PyProof.Rows.assign_Name (store_ok I3 hN hi hx r1' (fun s3 I4 => ?_) hfx)
  refine assignInOrder_cons ?_
  refine PyProof.Rows.assign_Name (store_ok I4 hN hj hy r2' (fun s4 I5 => ?_) hfy)
  refine assignInOrder_cons ?_
  refine PyProof.Rows.assign_Name (store_ok I5 hN hl hz r3' (fun s5 I6 => assignInOrder_nil ?_) hfz)
  exact ⟨_, H1, I6, q1⟩
end
/-! ### over data -/
section
variable {X : Cx} {ρ : Sls} {N : Sls → Prop} {R : PyData → Sls → Prop} {a b c : Expr} {st : Stmt} {i j l : Nat} {Pa : PyData → Sls → Prop} {Pb : PyData → PyData → Sls → Prop}
theorem d1_parXO {sl : PyData → Sls → Sl} (hp : ∀ ta, PA X [a, b] ta → PS X st (tPar i j ta)) (ha : EX X a ρ Pa) (hb : ∀ da r, Pa da r → DO X b (er r) (sl da r)) (hn : ∀ da r, Pa da r → N ((r.set i (.dat da)).set j (sl da r)))
    (s1 : starEach [a, b] X.env = (false, eval a X.env) :: starEach [b] X.env := by rfl) (s2 : starEach [b] X.env = (false, eval b X.env) :: starEach [] X.env := by rfl) : D1 X st ρ N R := by
  have hb' : PE X b (fun σ H Q => ∃ da r, Pa da r ∧ tO X.w X.K (er r) (sl da r) σ H Q) := ⟨fun pins s σ H Q I ⟨da, r, m, q⟩ => (hb da r m).run pins s σ H Q I q⟩
  exact ps_imp (hp _ (pa_cons ha (pa_cons hb' pa_nil s2) s1)) fun D σ H ⟨F, G, S, qn, _⟩ => ⟨F, G, S, fun x da r G1 H1 p1 S1 s1 dx => ⟨da, r, p1, G1, S1.grow.s, S1.env, fun p b G' H' g h1 h2 h3 h4 => ⟨x, .ref p, rfl, qn _ _ G' H' (hn da r p1) ((S1.set dx).new h1 g h3 h2 h4) (s1.trans g.g)⟩⟩⟩
theorem d1_parXX (hp : ∀ ta, PA X [a, b] ta → PS X st (tPar i j ta)) (ha : EX X a ρ Pa) (hb : ∀ da r, Pa da r → EX X b r (Pb da)) (hn : ∀ da r db r', Pa da r → Pb da db r' → N ((r'.set i (.dat da)).set j (.dat db)))
    (s1 : starEach [a, b] X.env = (false, eval a X.env) :: starEach [b] X.env := by rfl) (s2 : starEach [b] X.env = (false, eval b X.env) :: starEach [] X.env := by rfl) : D1 X st ρ N R := by
  have hb' : PE X b (fun σ H Q => ∃ da r, Pa da r ∧ tX X.w X.K r (Pb da) σ H Q) := ⟨fun pins s σ H Q I ⟨da, r, m, q⟩ => (hb da r m).run pins s σ H Q I q⟩
  exact ps_imp (hp _ (pa_cons ha (pa_cons hb' pa_nil s2) s1)) fun D σ H ⟨F, G, S, qn, _⟩ => ⟨F, G, S, fun x da r G1 H1 p1 S1 s1 dx => ⟨da, r, p1, F, G1, S1, fun y db r2 G2 H2 p2 S2 s2 dy => ⟨x, y, rfl, qn _ _ G2 H2 (hn da r db r2 p1 p2) ((S2.set (dx.mono s2)).set dy) (s1.trans s2)⟩⟩⟩
theorem d1_par3XXO {sl : PyData → PyData → Sls → Sl} (hp : ∀ ta, PA X [a, b, c] ta → PS X st (tPar3 i j l ta)) (ha : EX X a ρ Pa) (hb : ∀ da r, Pa da r → EX X b r (Pb da)) (hd : ∀ da r db r', Pa da r → Pb da db r' → DO X c (er r') (sl da db r')) (hn : ∀ da r db r', Pa da r → Pb da db r' → N (((r'.set i (.dat da)).set j (.dat db)).set l (sl da db r')))
    (s1 : starEach [a, b, c] X.env = (false, eval a X.env) :: starEach [b, c] X.env := by rfl) (s2 : starEach [b, c] X.env = (false, eval b X.env) :: starEach [c] X.env := by rfl) (s3 : starEach [c] X.env = (false, eval c X.env) :: starEach [] X.env := by rfl) : D1 X st ρ N R := by
  have hb' : PE X b (fun σ H Q => ∃ da r, Pa da r ∧ tX X.w X.K r (Pb da) σ H Q) := ⟨fun pins s σ H Q I ⟨da, r, m, q⟩ => (hb da r m).run pins s σ H Q I q⟩
  have hd' : PE X c (fun σ H Q => ∃ da r db r', Pa da r ∧ Pb da db r' ∧ tO X.w X.K (er r') (sl da db r') σ H Q) := ⟨fun pins s σ H Q I ⟨da, r, db, r', m, m', q⟩ => (hd da r db r' m m').run pins s σ H Q I q⟩
  exact ps_imp (hp _ (pa_cons ha (pa_cons hb' (pa_cons hd' pa_nil s3) s2) s1)) fun D σ H ⟨F, G, S, qn, _⟩ => ⟨F, G, S, fun x da r G1 H1 p1 S1 s1 dx => ⟨da, r, p1, F, G1, S1, fun y db r2 G2 H2 p2 S2 s2 dy => ⟨da, r, db, r2, p1, p2, G2, S2.grow.s, S2.env, fun p b G' H' g h1 h2 h3 h4 =>
    ⟨x, y, .ref p, rfl, qn _ _ G' H' (hn da r db r2 p1 p2) (((S2.set (dx.mono s2)).set dy).new h1 g h3 h2 h4) ((s1.trans s2).trans g.g)⟩⟩⟩⟩
theorem d1_par3XOE {sl : PyData → Sls → Sl} {dc : PyData → Sls → PyData} (hp : ∀ ta, PA X [a, b, c] ta → PS X st (tPar3 i j l ta)) (ha : EX X a ρ Pa) (hb : ∀ da r, Pa da r → DO X b (er r) (sl da r)) (hd : ∀ da r, Pa da r → DE X c (er r) (dc da r)) (hn : ∀ da r, Pa da r → N (((r.set i (.dat da)).set j (sl da r)).set l (.dat (dc da r))))
    (s1 : starEach [a, b, c] X.env = (false, eval a X.env) :: starEach [b, c] X.env := by rfl) (s2 : starEach [b, c] X.env = (false, eval b X.env) :: starEach [c] X.env := by rfl) (s3 : starEach [c] X.env = (false, eval c X.env) :: starEach [] X.env := by rfl) : D1 X st ρ N R := by
  have hb' : PE X b (fun σ H Q => ∃ da r, Pa da r ∧ tO X.w X.K (er r) (sl da r) σ H Q) := ⟨fun pins s σ H Q I ⟨da, r, m, q⟩ => (hb da r m).run pins s σ H Q I q⟩
  have hd' : PE X c (fun σ H Q => ∃ da r, Pa da r ∧ tD X.w X.K (er r) (dc da r) σ H Q) := ⟨fun pins s σ H Q I ⟨da, r, m, q⟩ => (hd da r m).run pins s σ H Q I q⟩
  exact ps_imp (hp _ (pa_cons ha (pa_cons hb' (pa_cons hd' pa_nil s3) s2) s1)) fun D σ H ⟨F, G, S, qn, _⟩ => ⟨F, G, S, fun x da r G1 H1 p1 S1 s1 dx => ⟨da, r, p1, G1, S1.grow.s, S1.env, fun p b G' H' g h1 h2 h3 h4 => ⟨da, r, p1, G', g.s, S1.env.mono g.g, fun z G2 H2 g2 dz =>
    ⟨x, .ref p, z, rfl, qn _ _ G2 H2 (hn da r p1) ((((S1.set dx).new h1 g h3 h2 h4).mono g2).set dz) ((s1.trans g.g).trans g2.g)⟩⟩⟩⟩
/-! ### unpacking -/
variable {es : List Expr} {e : Expr} {kt : Nat} {pt pos : Pos} {is : List Nat} {P : PyData → Sls → Prop}
theorem d1_unpT (hc : X.calm = true) (he : EX X e ρ P) (hg : PGs X es (gNames is)) (hn : ∀ d r, P d r → ∃ ds, d = .tuple ds ∧ is.length = ds.length ∧ N (setAll r is ds))
    (hl : (assignEach es X.env).length = is.length := by rfl) (hst : (assignEach es X.env).findIdx? (·.1) = none := by rfl) (hs : swapsWithSole [.Tuple es kt pt] e pos.line X.env = pure false := by rfl) (hw : swappedStores [.Tuple es kt pt] e X.env = pure none := by rfl)
    (h1 : (assignEach [.Tuple es kt pt] X.env).map (·.2) = [assign (.Tuple es kt pt) X.env] := by rfl) : D1 X (.Assign [.Tuple es kt pt] e pos) ρ N R :=
  ps_imp (ps_asg he (pg_tup (n := is.length) hc hg hl hst) hs hw h1) fun D σ H ⟨F, G, S, qn, _⟩ => ⟨F, G, S, fun v d r G' H' p S' s' dx => by
    obtain ⟨ds, rfl, hle, hN⟩ := hn d r p
    exact tgs_tup hle v σ F G' H' _ S' dx fun σ2 S2 => qn _ σ2 G' H' hN S2 s'⟩
theorem d1_unpL (hc : X.calm = true) (he : EX X e ρ P) (hg : PGs X es (gNames is)) (hn : ∀ d r, P d r → ∃ ds, d = .list ds ∧ is.length = ds.length ∧ N (setAll r is ds))
    (hl : (assignEach es X.env).length = is.length := by rfl) (hst : (assignEach es X.env).findIdx? (·.1) = none := by rfl) (hs : swapsWithSole [.Tuple es kt pt] e pos.line X.env = pure false := by rfl) (hw : swappedStores [.Tuple es kt pt] e X.env = pure none := by rfl)
    (h1 : (assignEach [.Tuple es kt pt] X.env).map (·.2) = [assign (.Tuple es kt pt) X.env] := by rfl) : D1 X (.Assign [.Tuple es kt pt] e pos) ρ N R :=
  ps_imp (ps_asg he (pg_lst (n := is.length) hc hg hl hst) hs hw h1) fun D σ H ⟨F, G, S, qn, _⟩ => ⟨F, G, S, fun v d r G' H' p S' s' dx => by
    obtain ⟨ds, rfl, hle, hN⟩ := hn d r p
    cases dx with
    | lst h rr => exact ⟨_, _, rfl, .inl (.inl (S'.grow.s _ _ h)), by rw [rr.length, hle], tgs_names is ds r _ σ F G' H' _ hle S' rr fun σ2 S2 => qn _ σ2 G' H' hN S2 s'⟩⟩
end
end K64

/-! ## K64LcX -/
/-! List comprehensions whose elements draw or change what is owned. -/
namespace K64
open PySem PySem.Spec PyProof.Rows L2
/-- the object o at D stands in the frame -/
abbrev Fr.put (F : Fr) (D : Addr) (o : HO) : Fr := ⟨F.G0, upd F.H0 D o, F.sk⟩
section
variable {w : World} {K : PySem.W.Frag} {F : Fr} {ρ : Sls} {σ : L2.St} {G H : Hp} {D : Addr} {o o' : HO}
theorem StG.guard (S : StG w K F ρ σ G H) (h0 : F.H0 D = none) (g0 : F.G0 D = none) (hG : G D = none) (hD : H D = none) : StG w K (F.put D o) ρ σ G (upd H D o) where
  grow := ⟨S.grow.g, fun a u e => by
    have e : upd F.H0 D o a = some u := e
    by_cases z : a = D
    · subst z
      rw [upd_same] at e ⊢
      exact e
    · rw [upd_ne z] at e ⊢
      exact S.grow.h a u e, S.grow.s.trans (same_new hD), fun a e1 e2 => by
    have e2 : upd F.H0 D o a ≠ none := e2
    by_cases z : a = D
    · subst z; exact hG
    · exact S.grow.n a e1 (by rw [upd_ne z] at e2; exact e2)⟩
  len := S.len
  at_ := fun i sl h => by
    have q := S.at_ i sl h
    by_cases os : sl.isOwn = true
    · obtain ⟨p, b, f1, f2, f3, f4, f5, f6⟩ := SlOk.own os q
      have z : p ≠ D := ne_of_none f2 hD
      exact SlOk.mk (F := F.put D o) f1 (by rw [upd_ne z]; exact f2) f3 (by show upd F.H0 D o p = none; rw [upd_ne z]; exact f4) f5 f6
    · cases sl with
      | non => exact trivial
      | dat d => exact q
      | sck => exact q
      | _ => exact absurd rfl os
  dist := S.dist
  sack := fun k h => by
    obtain ⟨a, b, x, y, z, c⟩ := S.sack k h
    have zk : k ≠ D := ne_of_none c hD
    exact ⟨by show upd F.H0 D o k = none; rw [upd_ne zk]; exact a, b, x, y, z, by rw [upd_ne zk]; exact c⟩
theorem StG.guarded (S : StG w K (F.put D o) ρ σ G H) (g0 : F.G0 D = none) : H D = some o ∧ G D = none := ⟨S.grow.h D o upd_same, S.grow.n D g0 (by show upd F.H0 D o D ≠ none; rw [upd_same]; exact fun z => nomatch z)⟩
theorem StG.reguard (S : StG w K (F.put D o) ρ σ G H) (h0 : F.H0 D = none) (g0 : F.G0 D = none) : StG w K (F.put D o') ρ σ G (upd H D o') where
  grow := ⟨S.grow.g, fun a u e => by
    have e : upd F.H0 D o' a = some u := e
    by_cases z : a = D
    · subst z
      rw [upd_same] at e ⊢
      exact e
    · rw [upd_ne z] at e ⊢
      exact S.grow.h a u (by show upd F.H0 D o a = some u; rw [upd_ne z]; exact e), same_mut S.grow.s (S.guarded g0).2, fun a e1 e2 => by
    have e2 : upd F.H0 D o' a ≠ none := e2
    by_cases z : a = D
    · subst z; exact (S.guarded g0).2
    · exact S.grow.n a e1 (by show upd F.H0 D o a ≠ none; rw [upd_ne z] at e2 ⊢; exact e2)⟩
  len := S.len
  at_ := fun i sl h => by
    have q := S.at_ i sl h
    by_cases os : sl.isOwn = true
    · obtain ⟨p, b, f1, f2, f3, f4, f5, f6⟩ := SlOk.own os q
      have f4' : upd F.H0 D o p = none := f4
      have z : p ≠ D := fun z => by rw [z, upd_same] at f4'; cases f4'
      exact SlOk.mk (F := F.put D o') f1 (by rw [upd_ne z]; exact f2) f3 (by show upd F.H0 D o' p = none; rw [upd_ne z] at f4' ⊢; exact f4') f5 f6
    · cases sl with
      | non => exact trivial
      | dat d => exact q
      | sck => exact q
      | _ => exact absurd rfl os
  dist := S.dist
  sack := fun k h => by
    obtain ⟨a, b, x, y, z, c⟩ := S.sack k h
    have a' : upd F.H0 D o k = none := a
    have zk : k ≠ D := fun z => by rw [z, upd_same] at a'; cases a'
    exact ⟨by show upd F.H0 D o' k = none; rw [upd_ne zk] at a' ⊢; exact a', b, x, y, z, by rw [upd_ne zk]; exact c⟩
/-- no more of the frame: frozen -/
theorem StG.open_ (S : StG w K (F.put D o) ρ σ G H) (h0 : F.H0 D = none) (g0 : F.G0 D = none) : StG w K F ρ σ (upd G D o) H where
  grow := ⟨S.grow.g.trans (same_new (S.guarded g0).2), fun a u e => S.grow.h a u (by show upd F.H0 D o a = some u; rw [upd_ne (ne_of_none e h0)]; exact e), same_frz S.grow.s (S.guarded g0).1, fun a e1 e2 => by
    have z : a ≠ D := fun z => e2 (by rw [z]; exact h0)
    rw [upd_ne z]
    exact S.grow.n a e1 (by show upd F.H0 D o a ≠ none; rw [upd_ne z]; exact e2)⟩
  len := S.len
  at_ := fun i sl h => by
    have q := S.at_ i sl h
    have sG := same_new (o := o) (S.guarded g0).2
    by_cases os : sl.isOwn = true
    · obtain ⟨p, b, f1, f2, f3, f4, f5, f6⟩ := SlOk.own os q
      have f4' : upd F.H0 D o p = none := f4
      have z : p ≠ D := fun z => by rw [z, upd_same] at f4'; cases f4'
      rw [upd_ne z] at f4'
      exact SlOk.mk (F := F) f1 f2 (by rw [upd_ne z]; exact f3) f4' f5 (f6.mono sG)
    · cases sl with
      | non => exact trivial
      | dat d => obtain ⟨v, q1, q2⟩ := q; exact ⟨v, q1, q2.mono sG⟩
      | sck => exact q
      | _ => exact absurd rfl os
  dist := S.dist
  sack := fun k h => by
    obtain ⟨a, b, x, y, z, c⟩ := S.sack k h
    have a' : upd F.H0 D o k = none := a
    have zk : k ≠ D := fun z => by rw [z, upd_same] at a'; cases a'
    rw [upd_ne zk] at a'
    exact ⟨a', by rw [upd_ne zk]; exact b, x, y, z, c⟩
theorem StG.back {j : Nat} (S : StG w K F ρ (wipe σ [j]) G H) (hj : ρ.set j .non = ρ) : StG w K F ρ σ G H := by
  by_cases hl : j < σ.length
  · have := S.drop (i := j) (o := σ[j])
    rw [hj] at this
    have e : (wipe σ [j]).set j σ[j] = σ := by
      show ((σ.set j none).set j σ[j]) = σ
      rw [List.set_set, List.set_getElem_self]
    rwa [e] at this
  · have e : wipe σ [j] = σ := by
      show σ.set j none = σ
      exact List.set_eq_of_length_le (by omega)
    rwa [e] at S
end
section
variable {X : Cx} {ρ : Sls} {pos : Pos} {elt tg iter : Expr} {scope : Scope} {y : Str} {j : Nat}
theorem ex_lcX {α : Type} (as : List α) (enc : α → PyData) (S : List PyData → Sls → Prop) (hc : X.calm = true) (hN : X.N.Nodup) (hi : DI X tg iter (er ρ) (as.map enc)) (ok : BlkOk X.N X.env.scope scope [(y, j)])
    (hg : ∀ (s : Shared) (H : Hp) (C : Addr) (cl : List (Str × Addr)) (fp : List Addr), PG (X.blk s H scope (compEnvC scope cl C X.env) fp) tg (gName j)) (hz : as.length ≤ sizeLine)
    (h0 : S [] ρ) (hj : ∀ acc r, S acc r → r.set j .non = r)
    (he : ∀ (s : Shared) (H : Hp) (C : Addr) (cl : List (Str × Addr)) (fp : List Addr), ∀ a acc r, S acc r → as[acc.length]? = some a → EX (X.blk s H scope (compEnvC scope cl C X.env) fp) elt (r.set j (.dat (enc a))) (fun d r' => S (acc ++ [d]) (r'.set j .non)))
    (hs : ∀ x, foldedSetIterable iter X.env x = pure x := by intro _; rfl) : EX X (.ListComp elt [⟨tg, iter, [], 0⟩] scope pos) ρ (fun d r => ∃ acc, d = .list acc ∧ acc.length = as.length ∧ S acc r) := by
  refine pe_imp (pe_lc hc hN hi ok hg (fun s H C cl fp => pts_nil) (te := fun σ H Q => ∃ a acc r, as[acc.length]? = some a ∧ S acc r ∧ tX X.w X.K (r.set j (.dat (enc a))) (fun d r' => S (acc ++ [d]) (r'.set j .non)) σ H Q)
    (fun s H C cl fp => ⟨fun pins s1 σ H1 Q I ⟨a, acc, r, ea, hS, h⟩ => (he s H C cl fp a acc r hS ea).run pins s1 σ H1 Q I h⟩) hs) ?_
  rintro σ H Q ⟨F, G, S0, q⟩
  refine ⟨G, S0.grow.s, S0.env, fun J G1 H1 g1 wk D hD => ?_⟩
  have S1 := S0.mono g1
  have hGD : G1 D = none := g1.s.free hD
  have h0D : F.H0 D = none := S1.grow.h.free hD
  have g0D : F.G0 D = none := S1.grow.g.free hGD
  refine ⟨fun i m H2 => i + m = as.length ∧ ∃ acc r G2 vals, acc.length = i ∧ S acc r ∧ StG X.w X.K (F.put D (.lst vals)) r (wipe σ [j]) G2 H2 ∧ Same G1 G2 ∧ DxAll X.w X.K G2 vals acc, ⟨as.length, by omega, [], ρ, G1, [], rfl, h0, ?_, Same.refl _, .nil⟩, ?_⟩
  · have := (S1.guard (o := .lst []) h0D g0D hGD hD).drop (i := j) (o := none)
    rwa [hj [] ρ h0] at this
  rintro i m H2 ⟨him, acc, r, G2, vals, hl, hS, S2, s2, hr⟩
  by_cases hlt : i < as.length
  · refine .inr ⟨wk.go i H2 (s2.trans S2.grow.s) (by simpa using hlt), fun H3 => ∃ acc r G3 vals, acc.length = i + 1 ∧ S acc r ∧ StG X.w X.K (F.put D (.lst vals)) r (wipe σ [j]) G3 H3 ∧ Same G1 G3 ∧ DxAll X.w X.K G3 vals acc, fun H3 h => ⟨m - 1, by omega, by omega, h⟩, fun x H3 y => ?_⟩
    obtain ⟨d, G3, ed, gr, dx⟩ := wk.yld i G2 H2 x H3 s2 S2.grow.s (by simpa using hlt) y
    obtain ⟨a, ea, ma, rfl⟩ := map_get ed
    have S3 := (S2.mono gr).set (i := j) dx
    show wipe ((wipe σ [j]).set j (some x)) [j] = wipe σ [j] ∧ _
    refine ⟨by rw [wipe_set (List.mem_singleton.mpr rfl), wipe_idem], ?_⟩
    unfold tYes
    dsimp only
    rw [if_pos rfl]
    refine ⟨a, acc, r, by rw [hl]; exact ea, hS, F.put D (.lst vals), G3, S3, fun v d r' G4 H4 p S4 s4 dv => ?_⟩
    have S5 : StG X.w X.K (F.put D (.lst vals)) (r'.set j .non) (((wipe σ [j]).set j (some x)).set j none) G4 H4 := S4.drop (i := j) (o := none)
    have ew : ((wipe σ [j]).set j (some x)).set j none = wipe σ [j] := by
      show ((σ.set j none).set j (some x)).set j none = σ.set j none
      rw [List.set_set, List.set_set]
    rw [ew] at S5
    have hv : vals.length = i := by rw [hr.length, hl]
    exact ⟨vals, (S5.guarded g0D).1, by omega, acc ++ [d], r'.set j .non, G4, vals ++ [v], by rw [List.length_append, hl]; rfl, p, S5.reguard h0D g0D, s2.trans (gr.g.trans s4), (hr.mono (gr.g.trans s4)).append (.cons dv .nil)⟩
  · have ei : i = as.length := by omega
    subst ei
    refine .inl ⟨by
      have := wk.stop H2 (s2.trans S2.grow.s)
      rwa [List.length_map] at this, ?_⟩
    have sG := same_new (o := HO.lst vals) (S2.guarded g0D).2
    exact q (.ref D) (.list acc) r _ H2 ⟨acc, rfl, hl, hS⟩ ((S2.open_ h0D g0D).back (hj acc r hS)) (g1.g.trans (s2.trans sG)) (.lst upd_same (hr.mono sG))
end
end K64

/-! ## K64Keys -/
/-! Dicts whose keys are values of one Lean type. -/
namespace K64
open PySem PySem.Spec PyProof.Rows L2 PySem.W
section
variable {α : Type} [DecidableEq α] [DatumOrd α] [KeyD α]
/-- the keys of ds are bs -/
abbrev KeysAre (ds : List (PyData × PyData)) (bs : List α) : Prop := ds.map (·.1) = bs.map Datum.toD
theorem isDn_of {ds : List (PyData × PyData)} {bs : List α} (h : KeysAre ds bs) : IsDn ds := by
  cases ds with
  | nil => exact isDn_nil
  | cons p ds =>
    cases bs with
    | nil => cases h
    | cons b bs =>
      obtain ⟨k, d⟩ := p
      have e : k = Datum.toD b := (List.cons.inj h).1
      obtain ⟨xs, hx⟩ := KeyD.tup b
      rw [e, hx]
      exact isDn_cons
theorem key_inj {a b : α} : keyOf (Datum.toD a) = keyOf (Datum.toD b) ↔ a = b := by
  rw [KeyD.key, KeyD.key]
  exact ⟨fun e => KeyD.inj a b (Option.some.inj e), fun e => by rw [e]⟩
/-- one more key, if new -/
def addK (bs : List α) (a : α) : List α := if a ∈ bs then bs else bs ++ [a]
theorem any_key {ds : List (PyData × PyData)} {bs : List α} (h : KeysAre ds bs) (a : α) : (ds.any fun e => decide (keyOf e.1 = keyOf (Datum.toD a))) = decide (a ∈ bs) := by
  have e : (ds.any fun e => decide (keyOf e.1 = keyOf (Datum.toD a))) = (ds.map (·.1)).any fun e => decide (keyOf e = keyOf (Datum.toD a)) := by
    rw [List.any_map]
    rfl
  rw [e, h, List.any_map]
  rw [Bool.eq_iff_iff]
  simp only [List.any_eq_true, Function.comp, decide_eq_true_eq]
  exact ⟨fun ⟨b, hb, e⟩ => by rw [key_inj] at e; rw [← e]; exact hb, fun hb => ⟨a, hb, rfl⟩⟩
theorem keys_put {ds : List (PyData × PyData)} {bs : List α} (h : KeysAre ds bs) (a : α) (d : PyData) : KeysAre (putD ds (Datum.toD a) d) (addK bs a) := by
  unfold putD addK
  rw [any_key h a]
  by_cases hm : a ∈ bs
  · rw [if_pos (decide_eq_true hm), if_pos hm]
    show List.map _ _ = _
    rw [← h, List.map_map]
    refine List.map_congr_left fun e _ => ?_
    show (if keyOf e.1 = keyOf (Datum.toD a) then (e.1, d) else e).1 = e.1
    split <;> rfl
  · rw [if_neg (by simpa using hm), if_neg hm]
    show List.map _ _ = _
    rw [List.map_append, List.map_append, h]
    rfl
theorem addK_mem {bs : List α} {a b : α} : b ∈ addK bs a ↔ b ∈ bs ∨ b = a := by
  unfold addK
  split
  · rename_i h
    exact ⟨.inl, fun q => q.elim id fun e => by rw [e]; exact h⟩
  · rw [List.mem_append, List.mem_singleton]
theorem addK_nodup {bs : List α} {a : α} (h : bs.Nodup) : (addK bs a).Nodup := by
  unfold addK
  split
  · exact h
  · rename_i hn
    exact List.nodup_append.mpr ⟨h, by simp, fun x hx y hy e => hn (by rw [List.mem_singleton.mp hy] at e; rw [← e]; exact hx)⟩
theorem addK_len (bs : List α) (a : α) : (addK bs a).length ≤ bs.length + 1 := by
  unfold addK
  split
  · omega
  · rw [List.length_append]; exact Nat.le_refl _
def addKs (bs : List α) (as : List α) : List α := as.foldl addK bs
theorem keys_dcD (vd : α → PyData) : ∀ (as : List α) {ds : List (PyData × PyData)} {bs : List α}, KeysAre ds bs → KeysAre (dcD Datum.toD vd as ds) (addKs bs as)
  | [], _, _, h => h
  | a :: as, _, _, h => keys_dcD vd as (keys_put h a (vd a))
theorem addKs_mem : ∀ (as : List α) {bs : List α} {b : α}, b ∈ addKs bs as ↔ b ∈ bs ∨ b ∈ as
  | [], bs, b => by simp [addKs]
  | a :: as, bs, b => by
    show b ∈ addKs (addK bs a) as ↔ _
    rw [addKs_mem as, addK_mem, List.mem_cons, or_assoc]
theorem addKs_nodup : ∀ (as : List α) {bs : List α}, bs.Nodup → (addKs bs as).Nodup
  | [], _, h => h
  | a :: as, _, h => addKs_nodup as (addK_nodup h)
theorem addKs_len : ∀ (as : List α) (bs : List α), (addKs bs as).length ≤ bs.length + as.length
  | [], _ => Nat.le_refl _
  | a :: as, bs => by
    have h1 := addKs_len as (addK bs a)
    have h2 := addK_len bs a
    show (addKs (addK bs a) as).length ≤ _
    rw [List.length_cons]
    omega
/-- pairs of keys and data, joined -/
theorem keys_dcDp : ∀ (ps : List (α × PyData)) {ds : List (PyData × PyData)} {bs : List α}, KeysAre ds bs → KeysAre (dcD (·.1) (·.2) (ps.map fun p => (Datum.toD p.1, p.2)) ds) (addKs bs (ps.map (·.1)))
  | [], _, _, h => h
  | p :: ps, _, _, h => keys_dcDp ps (keys_put h p.1 p.2)
theorem look_isSome : ∀ {ds : List (PyData × PyData)} {bs : List α}, KeysAre ds bs → ∀ a : α, (lookT ds (KeyD.kf a)).isSome = decide (a ∈ bs)
  | [], [], _, a => rfl
  | [], _ :: _, h, _ => by cases h
  | _ :: _, [], h, _ => by cases h
  | p :: ds, b :: bs, h, a => by
    have e : p.1 = Datum.toD b := (List.cons.inj h).1
    have ih := look_isSome (List.cons.inj h).2 a
    unfold lookT at ih ⊢
    by_cases hb : a = b
    · rw [List.find?_cons_of_pos (by rw [e, KeyD.key, hb]; simp), decide_eq_true (by rw [hb]; exact List.mem_cons_self)]
      rfl
    · rw [List.find?_cons_of_neg (by rw [e, KeyD.key]; simpa using fun z => hb (KeyD.inj b a z).symm), ih]
      exact decide_eq_decide.mpr (by rw [List.mem_cons]; exact ⟨.inr, fun q => q.resolve_left hb⟩)
theorem rd_inKN {w : World} {K : PySem.W.Frag} {neg : Bool} {a : α} {ds : List (PyData × PyData)} {bs : List α} (h : KeysAre ds bs) : RD2 w K (rInN w K neg) (Datum.toD a) (.dict ds) (.bool (if neg then !decide (a ∈ bs) else decide (a ∈ bs))) := by
  obtain ⟨xs, hx⟩ := KeyD.tup a
  have hk := KeyD.key a
  have := rd_inN (w := w) (K := K) (neg := neg) (ks := xs) (k := KeyD.kf a) (ds := ds) (by rw [← hx]; exact hk) (KeyD.dep a) (isDn_of h)
  rw [look_isSome h a, ← hx] at this
  exact this
theorem rdc_sortKN {w : World} {K : PySem.W.Frag} {ds : List (PyData × PyData)} {bs : List α} (h : KeysAre ds bs) (ok : SortOk (bs.map Datum.toD)) : RDC w K (rSortN w K α) [.dict ds] (.list ((srt bs).map Datum.toD)) := rdc_sortN (isDn_of h) h ok
end
section
variable {X : Cx} {ρ : Env} {e : Expr} {p pos : Pos} {ds : List (PyData × PyData)}
/-- list(e), e a new dict -/
theorem de_listO (hc : X.calm = true) (he : DO X e ρ (.ownN ds)) (hm : X.mg "list" = none) (hg : Gl X "list" := by rfl) (hs : starEach [e] X.env = (false, eval e X.env) :: starEach [] X.env := by rfl) (hpl : (backTo pos (starEach [] X.env)).any (·.1) = false := by rfl) : DE X (.Call (.Name "list" p) [e] [] pos) ρ (.list (ds.map (·.1))) :=
  pe_imp (pe_callTy (call_listN hc) hg hm PyProof.Rows.boot_list (pa_cons he pa_nil hs) (by decide) (by decide) hs hpl) fun σ H Q ⟨G, s, env, q⟩ => ⟨G, s, env, fun p b G' H' g h1 h2 h3 h4 => by
    obtain ⟨es, rfl, r⟩ := h4
    refine ⟨p, es, rfl, .inl h3, fun l hl => ?_⟩
    have gl : G' l = none := g.s.free hl
    exact q (.ref l) (upd G' l (.lst (es.map fun e => .ref e.2.1))) _ (g.trans (.new g.s hl)) (.lst upd_same ((dxn_refs r).mono (same_new gl)))⟩
/-- sorted(e), e a new dict -/
theorem de_sortO {α : Type} [DecidableEq α] [DatumOrd α] [KeyD α] {bs : List α} (hc : X.calm = true) (hu : X.A.units + 64 < cLine) (hd : Datum.depth α ≤ 60) (he : DO X e ρ (.ownN ds)) (hk : KeysAre ds bs) (ok : SortOk (bs.map Datum.toD)) (hm : X.mg "sorted" = none) (hg : Gl X "sorted" := by rfl) (hs : starEach [e] X.env = (false, eval e X.env) :: starEach [] X.env := by rfl) (hpl : (backTo pos (starEach [] X.env)).any (·.1) = false := by rfl) : DE X (.Call (.Name "sorted" p) [e] [] pos) ρ (.list ((srt bs).map Datum.toD)) :=
  pe_imp (pe_callB (crD_sortN (α := α) hc hu hd) hg hm PyProof.Rows.boot_sorted (pa_cons he pa_nil hs) (by decide) (by decide) hs hpl) fun σ H Q ⟨G, s, env, q⟩ => ⟨G, s, env, fun p b G' H' g h1 h2 h3 h4 => by
    obtain ⟨es, rfl, r⟩ := h4
    refine ⟨p, G', es, bs, rfl, g.s, .inl h3, hk ▸ dxn_refs r, ok, fun l ys hl hy => ?_⟩
    have gl : G' l = none := g.s.free hl
    exact q (.ref l) (upd G' l (.lst ys)) _ (g.trans (.new g.s hl)) (.lst upd_same (hy.mono (same_new gl)))⟩
end
end K64

/-! ## K64LcS -/
/-! A comprehension given to a name on its own line; calls for their effect. -/
namespace K64
open PySem PySem.Spec PyProof.Rows L2
section
variable {X : Cx} {ρ : Sls} {N : Sls → Prop} {R : PyData → Sls → Prop} {e : Expr} {pos spos py : Pos} {elt tg iter : Expr} {ifs : List Expr} {scope : Scope} {own : List (Str × Nat)} {y : Str}
theorem d1_do {P : PyData → Sls → Prop} (he : EX X e ρ P) (hn : ∀ d r, P d r → N r) (hs : swapsWith e none pos.line X.env = pure false := by rfl) : D1 X (.Expr e pos) ρ N R :=
  ps_imp (ps_expr he hs) fun D σ H ⟨F, G, S, qn, _⟩ => ⟨F, G, S, fun v d r G' H' p S' s' _ => qn r σ G' H' (hn d r p) S' s'⟩
theorem d_letLc (i : Nat) {α : Type} (as : List α) (enc : α → PyData) (p : α → Bool) (f : α → PyData) (ρ' : α → Env) {g : TG} (hc : X.calm = true) (hN : X.N.Nodup) (hi : DI X tg iter (er ρ) (as.map enc)) (ok : BlkOk X.N X.env.scope scope own)
    (hg : ∀ (s : Shared) (H : Hp) (C : Addr) (cl : List (Str × Addr)) (fp : List Addr), PG (X.blk s H scope (compEnvC scope cl C X.env) fp) tg g) (hz : as.length ≤ sizeLine)
    (hgd : ∀ a ∈ as, TgD X.w X.K (own.map (·.2)) g (wipeR (er ρ) (own.map (·.2))) (enc a) (ρ' a))
    (ht : ∀ (s : Shared) (H : Hp) (C : Addr) (cl : List (Str × Addr)) (fp : List Addr), ∀ a ∈ as, PTs (X.blk s H scope (compEnvC scope cl C X.env) fp) ifs (tDT X.w X.K (ρ' a) (p a)))
    (he : ∀ (s : Shared) (H : Hp) (C : Addr) (cl : List (Str × Addr)) (fp : List Addr), ∀ a ∈ as, p a = true → DE (X.blk s H scope (compEnvC scope cl C X.env) fp) elt (ρ' a) (f a))
    (hn : N (ρ.set i (.dat (.list ((as.filter p).map f)))))
    (hy : X.N[i]? = some y := by rfl) (hyl : X.env.scope.names.lookup y = some .local := by rfl) (hsw : swapsWith (.ListComp elt [⟨tg, iter, ifs, 0⟩] scope pos) (some (.Name y py)) spos.line X.env = pure true := by rfl)
    (hs : ∀ x, foldedSetIterable iter X.env x = pure x := by intro _; rfl) : D1 X (.Assign [.Name y py] (.ListComp elt [⟨tg, iter, ifs, 0⟩] scope pos) spos) ρ N R :=
  ps_imp (ps_setLcD as enc p f ρ' hc hN hy hyl hsw hi ok hg hz hgd ht he hs) fun D σ H ⟨F, G, S, qn, _⟩ => ⟨G, S.grow.s, S.env, fun v G' H' g dv => qn _ _ G' H' hn ((S.mono g).set dv) g.g⟩
theorem d_ownLc (i : Nat) {α : Type} (as : List α) (enc : α → PyData) (p : α → Bool) (f : α → PyData) (ρ' : α → Env) {g : TG} (hc : X.calm = true) (hN : X.N.Nodup) (hi : DI X tg iter (er ρ) (as.map enc)) (ok : BlkOk X.N X.env.scope scope own)
    (hg : ∀ (s : Shared) (H : Hp) (C : Addr) (cl : List (Str × Addr)) (fp : List Addr), PG (X.blk s H scope (compEnvC scope cl C X.env) fp) tg g) (hz : as.length ≤ sizeLine)
    (hgd : ∀ a ∈ as, TgD X.w X.K (own.map (·.2)) g (wipeR (er ρ) (own.map (·.2))) (enc a) (ρ' a))
    (ht : ∀ (s : Shared) (H : Hp) (C : Addr) (cl : List (Str × Addr)) (fp : List Addr), ∀ a ∈ as, PTs (X.blk s H scope (compEnvC scope cl C X.env) fp) ifs (tDT X.w X.K (ρ' a) (p a)))
    (he : ∀ (s : Shared) (H : Hp) (C : Addr) (cl : List (Str × Addr)) (fp : List Addr), ∀ a ∈ as, p a = true → DE (X.blk s H scope (compEnvC scope cl C X.env) fp) elt (ρ' a) (f a))
    (hn : N (ρ.set i (.ownL ((as.filter p).map f))))
    (hy : X.N[i]? = some y := by rfl) (hyl : X.env.scope.names.lookup y = some .local := by rfl) (hsw : swapsWith (.ListComp elt [⟨tg, iter, ifs, 0⟩] scope pos) (some (.Name y py)) spos.line X.env = pure true := by rfl)
    (hs : ∀ x, foldedSetIterable iter X.env x = pure x := by intro _; rfl) : D1 X (.Assign [.Name y py] (.ListComp elt [⟨tg, iter, ifs, 0⟩] scope pos) spos) ρ N R :=
  ps_imp (⟨fun pins s σ H D I h => (ps_setLc (i := i) hc hN hy hyl hsw hi ok hg (tt := tAnyT X.w X.K as ρ' p) (te := tAnyE X.w X.K (as.filter p) ρ' f)
    (fun s H C cl fp => ⟨fun pins s1 σ H1 Q I ⟨a, ha, h⟩ => (ht s H C cl fp a ha).run pins s1 σ H1 Q I h⟩)
    (fun s H C cl fp => ⟨fun pins s1 σ H1 Q I ⟨a, ha, h⟩ => (he s H C cl fp a (List.mem_filter.mp ha).1 (List.mem_filter.mp ha).2).run pins s1 σ H1 Q I h⟩) hs).run pins s σ H D I (td_lcO as enc p f ρ' hz hgd σ H _ h)⟩ : PS X _ (fun D σ H => ∃ G, Same G H ∧ EnvD X.w X.K G σ (er ρ) ∧ ∀ L acc G' H', Grow G H G' H' → H L = none → G' L = none → H' L = some (.lst acc) → DxAll X.w X.K G' acc ((as.filter p).map f) → gName i (.ref L) σ H' D.nx))
    fun D σ H ⟨F, G, S, qn, _⟩ => ⟨G, S.grow.s, S.env, fun L acc G' H' g h1 h2 h3 h4 => qn _ _ G' H' hn (S.new h1 g h3 h2 ⟨acc, rfl, h4⟩) g.g⟩
end
end K64

/-! ## W1 -/
/-! The sack: sack, grab, one_of, shuffled. -/
namespace K64
open PySem PySem.Spec PyProof.Rows L2
section
variable {w : World} {K : PySem.W.Frag}
theorem rd_mod {i j : Int} (h : 0 < j) : RD2 w K (rI (fun _ j => 0 < j) fun i j => .int (i % j)) (.int i) (.int j) (.int (i % j)) := rd_I (C := fun _ j => 0 < j) (f := fun i j => .int (i % j)) h fun _ => .int _
theorem rd_fdiv {i j : Int} (h : CDiv i j) : RD2 w K (rI CDiv fun i j => .int (i / j)) (.int i) (.int j) (.int (i / j)) := rd_I (C := CDiv) (f := fun i j => .int (i / j)) h fun _ => .int _
theorem rd_pow {i j : Int} (h : 0 ≤ j ∧ (Builtin.Int.intBits i : Int) * j ≤ 2 ^ 27) : RD2 w K (rI (fun i j => 0 ≤ j ∧ (Builtin.Int.intBits i : Int) * j ≤ 2 ^ 27) fun i j => .int (i ^ j.toNat)) (.int i) (.int j) (.int (i ^ j.toNat)) := rd_I (C := fun i j => 0 ≤ j ∧ (Builtin.Int.intBits i : Int) * j ≤ 2 ^ 27) (f := fun i j => .int (i ^ j.toNat)) h fun _ => .int _
end
/-- the cell at a place -/
def cellAt (ns : List Int) (at_ : Nat) : Int := if h : at_ < ns.length then ns[at_] else 67 * at_ + 37
def bigM : Int := (10 ^ 47) ^ 13
def greatOf (c : Int) : Int := (if c < 0 then -c else c) % bigM
def mixedOf (c : Int) (at_ : Nat) : Int := greatOf c % 2147483237 * 96293 + 8123 * at_ + 47 * (if decide (c < 0) = true then 1 else 0) + 73
def sackL (ns : List Int) (at_ : Nat) : List PyData :=
  [.int (if greatOf (cellAt ns at_) - 10 ^ 18 > 0 then greatOf (cellAt ns at_) - 10 ^ 18 else 0), .int (mixedOf (cellAt ns at_) at_ % 2305843009213693907), .int 0]
def R_sack (ds : List PyData) (sl : Sl) : Prop := ∃ (ns : List Int) (at_ : Nat), ds = [scrD ns, .int (at_ : Nat)] ∧ sl = .ownL (sackL ns at_)
section
variable {P : Program} {w : World} {K : PySem.W.Frag} {mg : Str → Option Value} {base : Heap}
theorem cal_sack (M : Md K mg) : Cal P w K mg base 1 "_law_sack" ["_law_script", "_law_at"] (spO w K R_sack) := M.cal 19 rfl (fun _ _ _ _ _ _ us hl => match us, hl with | [_, _], _ => rfl) fun f fd F => by
  refine fnO F sc_sack (fun ds d ⟨_, _, h, _⟩ => by rw [h]; rfl) fun cdv A outer s H E hr ds sl h => ?_
  obtain ⟨ns, at_, rfl, rfl⟩ := h
  have hint : ∀ {X : Cx}, X.mg = mg → X.mg "int" = none := fun e => by rw [e]; exact M.fr 13
  refine dso_then (d_let 2 (d := .int (cellAt ns at_)) sc_sack.nd ?_) ?_
  · by_cases hlt : at_ < ns.length
    · have e1 : cellAt ns at_ = ns[at_] := by unfold cellAt; rw [dif_pos hlt]
      rw [e1]
      refine de_ifT (dt_eq (dt_cmp op_lt rd_lt (dv 1) (de_callB call_len_seq rdc_lenScr rfl (M.fr 1) PySem.boot_len (da_cons (dv 0) da_nil)) (nomark _)) ?_) (de_ix ix_list (rd_ixScr (atI_nat (List.getElem?_eq_getElem hlt))) (dv 0) (dv 1) (fun _ _ => rfl))
      exact decide_eq_true (by omega)
    · have e1 : cellAt ns at_ = 67 * at_ + 37 := by unfold cellAt; rw [dif_neg hlt]
      rw [e1]
      refine de_ifF (dt_eq (dt_cmp op_lt rd_lt (dv 1) (de_callB call_len_seq rdc_lenScr rfl (M.fr 1) PySem.boot_len (da_cons (dv 0) da_nil)) (nomark _)) ?_) (de_op op_add rd_add (de_op op_mul (rd_mul (.inl (by decide))) de_int (dv 1)) de_int)
      exact decide_eq_false (by omega)
  refine dso_then (d_let 3 (d := .int (greatOf (cellAt ns at_))) sc_sack.nd ?_) ?_
  · exact de_op op_mod (rd_mod (by decide +kernel)) (de_callTy call_int1 rdc_intI rfl (M.fr 13) PyProof.Rows.boot_int (da_cons (de_callB call_abs rdc_abs rfl (M.fr 14) PyProof.Rows.boot_abs (da_cons (dv 2) da_nil)) da_nil))
      (de_op op_powC (rd_pow (by decide +kernel)) (de_op op_powC (rd_pow (by decide +kernel)) de_int de_int) de_int)
  refine dso_then (d_let 4 (d := .int (mixedOf (cellAt ns at_) at_)) sc_sack.nd ?_) ?_
  · exact de_op op_add rd_add (de_op op_add rd_add (de_op op_add rd_add (de_op op_mul (rd_mul (.inr (by decide))) (de_op op_mod (rd_mod (by decide)) (de_callTy call_int1 rdc_intI rfl (M.fr 13) PyProof.Rows.boot_int (da_cons (dv 3) da_nil)) de_int) de_int)
      (de_op op_mul (rd_mul (.inl (by decide))) de_int (dv 1))) (de_op op_mul (rd_mul (.inl (by decide))) de_int (de_callTy call_int1 rdc_intB rfl (M.fr 13) PyProof.Rows.boot_int (da_cons (de_cmp op_lt rd_lt (dv 2) de_int (nomark _)) da_nil)))) de_int
  refine dso_retE (do_lst (da_cons (de_callB (call_max2 rfl) rdc_max2 rfl (M.fr 11) PyProof.Rows.boot_max (da_cons de_int (da_cons (de_op op_sub rd_sub (dv 3) (de_op op_powC (rd_pow (by decide +kernel)) de_int de_int)) da_nil))) (da_cons
    (de_op op_mod (rd_mod (by decide)) (de_callTy call_int1 rdc_intI rfl (M.fr 13) PyProof.Rows.boot_int (da_cons (dv 4) da_nil)) de_int) (da_cons de_int da_nil))) (show 3 ≤ sizeLine by decide))
/-- grab: a number below the total -/
def Pre_grab (ds : List PyData) : Prop := ∃ n : Nat, ds = [.int (n : Nat)] ∧ 0 < n ∧ n < 1073741824
def R_grab (ds : List PyData) (d : PyData) : Prop := ∃ n m : Nat, ds = [.int (n : Nat)] ∧ d = .int (m : Nat) ∧ m < n
theorem cal_grab (M : Md K mg) : Cal P w K mg base 1 "_law_grab" ["_law_sack_here", "_law_total"] (spK w K Pre_grab R_grab) := M.cal 20 rfl (fun _ _ _ _ _ _ us hl => match us, hl with | [_, _], _ => rfl) fun f fd F => by
  refine fnK F sc_grab (fun ds ⟨_, h, _⟩ => by rw [h]; rfl) fun cdv A outer s H E hr ds h => ?_
  obtain ⟨n, rfl, h0, h1⟩ := h
  have fin : ∀ z : Int, R_grab [.int (n : Nat)] (.int (z % (n : Nat))) := fun z => by
    have hp : (0 : Int) < (n : Nat) := by omega
    have e1 := Int.emod_nonneg z (Int.ne_of_gt hp)
    have e2 := Int.emod_lt_of_pos z hp
    refine ⟨n, (z % (n : Nat)).toNat, rfl, by rw [Int.toNat_of_nonneg e1], by omega⟩
  refine ds_cons (M := (· = iniK n_grab [.int (n : Nat)])) (d1_if (nx_gt (nx_sack (c := 0) (pv 0) rfl (by decide)) (nx_of (C := fun _ => True) de_int trivial)) (fun r hr' => ?_) fun r hr' => ds_nil hr') fun r hr' => ?_
  · subst hr'
    refine ds_cons (M := fun r => ∃ z : Int, r = (iniK n_grab [.int (n : Nat)]).set 2 (.dat (.int (z % (n : Nat))))) (d_set 2 sc_grab.nd (nx_op (C := fun m => ∃ z : Int, m = z % (n : Nat)) op_mod (nx_int (nx_sack (c := 0) (pv 0) rfl (by decide)) (M.fr 13)) (nx_of (C := fun m => m = (n : Nat)) (dv 1) rfl) (fun i j _ hj => ⟨by rw [hj]; omega, i, by rw [hj]⟩)) (fun d r ⟨⟨m, e1, z, e2⟩, e3⟩ => ⟨z, by rw [e1, e2, e3]⟩)) ?_
    rintro r ⟨z, rfl⟩
    refine ds_then (d1_sack (c := 0) (C := fun _ => True) (pv 0) rfl (by decide) (nx_op op_fdiv (nx_sack (c := 0) (pv 0) rfl (by decide)) (nx_of (C := fun m => m = (n : Nat)) (dv 1) rfl) (fun i j _ hj => ⟨by rw [hj]; exact ⟨by omega, by omega⟩, trivial⟩)) rfl) ?_
    exact ds_one (d_ret (dv 2) (fin z))
  · subst hr'
    refine ds_then (d1_sack (c := 2) (C := fun _ => True) (pv 0) rfl (by decide) (nx_op0 op_add (nx_sack (c := 2) (pv 0) rfl (by decide)) (nx_of (C := fun _ => True) de_int trivial) (fun _ _ _ _ => trivial)) rfl) ?_
    refine ds_cons (M := fun r => ∃ z : Int, r = (iniK n_grab [.int (n : Nat)]).set 3 (.dat (.int (z % 2305843009213693951)))) (d_set 3 sc_grab.nd (nx_op (C := fun m => ∃ z : Int, m = z % 2305843009213693951) op_mod (nx_int (nx_op0 op_add (C := fun _ => True) (nx_sack (c := 1) (pv 0) rfl (by decide)) (nx_op op_mul (C := fun _ => True) (nx_of (C := fun m => m = 1000427) de_int rfl) (nx_sack (c := 2) (pv 0) rfl (by decide)) (fun i j hi _ => ⟨by rw [hi]; exact .inl (by decide), trivial⟩)) (fun _ _ _ _ => trivial)) (M.fr 13)) (nx_of (C := fun m => m = 2305843009213693951) de_int rfl) (fun i j _ hj => ⟨by rw [hj]; decide, i, by rw [hj]⟩)) (fun d r ⟨⟨m, e1, z, e2⟩, e3⟩ => ⟨z, by rw [e1, e2, e3]⟩)) ?_
    rintro r ⟨z, rfl⟩
    have z1 := Int.emod_nonneg z (show (2305843009213693951 : Int) ≠ 0 by decide)
    have z2 := Int.emod_lt_of_pos z (show (0 : Int) < 2305843009213693951 by decide)
    have hz : CMul (z % 2305843009213693951) (z % 2305843009213693951) := .inl ⟨by omega, by omega⟩
    refine ds_cons (M := fun r => ∃ y : Int, r = ((iniK n_grab [.int (n : Nat)]).set 3 (.dat (.int (z % 2305843009213693951)))).set 4 (.dat (.int y))) (d_set 4 sc_grab.nd (nx_op0 op_add (C := fun _ => True) (nx_op op_mul (C := fun _ => True) (nx_op op_mod (C := fun _ => True) (nx_int (nx_of (C := fun _ => True) (de_op op_mul (rd_mul hz) (dv 3) (dv 3)) trivial) (M.fr 13)) (nx_of (C := fun m => m = 2305843009213693921) de_int rfl) (fun i j _ hj => ⟨by rw [hj]; decide, trivial⟩))
      (nx_of (C := fun m => m = z % 2305843009213693951) (dv 3) rfl) (fun i j _ hj => ⟨by rw [hj]; exact .inr ⟨by omega, by omega⟩, trivial⟩)) (nx_op op_mul (C := fun _ => True) (nx_of (C := fun m => m = 9103) de_int rfl) (nx_sack (c := 2) (pv 0) rfl (by decide)) (fun i j hi _ => ⟨by rw [hi]; exact .inl (by decide), trivial⟩)) (fun _ _ _ _ => trivial)) (fun d r ⟨⟨m, e1, _⟩, e3⟩ => ⟨m, by rw [e1, e3]⟩)) ?_
    rintro r ⟨y, rfl⟩
    refine ds_one (d_ret (d := .int (y % 2305843009213693907 / 16384 % (n : Nat))) ?_ (fin _))
    exact de_op op_mod (rd_mod (by omega)) (de_callTy call_int1 rdc_intI rfl (M.fr 13) PyProof.Rows.boot_int (da_cons (de_op op_fdiv (rd_fdiv (show CDiv _ 16384 from ⟨by decide, by decide⟩)) (de_op op_mod (rd_mod (by decide)) (de_callTy call_int1 rdc_intI rfl (M.fr 13) PyProof.Rows.boot_int (da_cons (dv 4) da_nil)) de_int) de_int) da_nil)) (dv 1)
end
end K64

/-! ## W2 -/
/-! one_of, shuffled. -/
namespace K64
open PySem PySem.Spec PyProof.Rows L2
section
variable {X : Cx} {ρ : Sls} {a b : Expr} {pos : Pos} {da : PyData} {Pb P : PyData → Sls → Prop}
theorem ex_ix2 {r : R2} (hr : IxR X r) (ha : DE X a (er ρ) da) (hb : EX X b ρ Pb) (h : ∀ db r', Pb db r' → ∃ d, RD2 X.w X.K r da db d ∧ P d r') (hs : PlainIx b) : EX X (.Subscript a b pos) ρ P :=
  pe_imp (pe_ix hr ha hb hs) fun σ H Q ⟨F, G, S, q⟩ => ⟨G, S.grow.s, S.env, fun x G1 H1 g1 dx => ⟨F, G1, S.mono g1, fun y db r2 G2 H2 p2 S2 s2 dy => by
    obtain ⟨d, hd, hp⟩ := h db r2 p2
    exact hd x y G2 H2 Q S2.grow.s (dx.mono s2) dy fun v G' H' g dv => q v d r2 G' H' hp (S2.mono g) ((g1.g.trans s2).trans g.g) dv⟩⟩
end
/-- one of some items -/
def Pre_one (ds : List PyData) : Prop := ∃ its : List PyData, (ds = [.list its] ∨ ds = [.tuple its]) ∧ its ≠ [] ∧ its.length < 1073741824
def R_one (ds : List PyData) (d : PyData) : Prop := ∃ its : List PyData, (ds = [.list its] ∨ ds = [.tuple its]) ∧ d ∈ its
def Pre_shuf (ds : List PyData) : Prop := ∃ its : List PyData, (ds = [.list its] ∨ ds = [.tuple its]) ∧ its.length < 1073741824 ∧ its.length ≤ sizeLine
def R_shuf (ds : List PyData) (d : PyData) : Prop := ∃ its out : List PyData, (ds = [.list its] ∨ ds = [.tuple its]) ∧ d = .list out ∧ out.Perm its
section
variable {P : Program} {w : World} {K : PySem.W.Frag} {mg : Str → Option Value} {base : Heap}
theorem cal_one_of (M : Md K mg) (c : Cal P w K mg base 1 "_law_grab" ["_law_sack_here", "_law_total"] (spK w K Pre_grab R_grab)) : Cal P w K mg base 2 "_law_one_of" ["_law_sack_here", "_law_items"] (spK w K Pre_one R_one) := M.cal 21 rfl (fun _ _ _ _ _ _ us hl => match us, hl with | [_, _], _ => rfl) fun f fd F => by
  refine fnK F sc_one_of (fun ds ⟨_, h, _⟩ => by rcases h with h | h <;> rw [h] <;> rfl) fun cdv A outer s H E hr ds h => ?_
  obtain ⟨its, hds, hne, hz⟩ := h
  have hpos : 0 < its.length := List.length_pos_iff.mpr hne
  rcases hds with rfl | rfl
  · refine ds_one (d1_ret (ex_ix2 ix_list (dv 1) (ex_c c hr (pv 0) rfl (xa_of (da_cons (de_callB call_len_seq rdc_lenL rfl (M.fr 1) PySem.boot_len (da_cons (dv 1) da_nil)) da_nil)) (fun ds r ⟨h1, h2⟩ => ⟨its.length, h1, hpos, hz⟩)) (P := fun d _ => R_one [.list its] d) (fun db r' ⟨ds, ⟨h1, h2⟩, n, m, e1, e2, hm⟩ => ?_) (fun _ _ => rfl)) fun d r h => h)
    subst h1
    cases e1
    subst e2
    exact ⟨its[m], rd_ixL (atI_nat (List.getElem?_eq_getElem hm)), its, .inl rfl, List.getElem_mem hm⟩
  · refine ds_one (d1_ret (ex_ix2 ix_tup (dv 1) (ex_c c hr (pv 0) rfl (xa_of (da_cons (de_callB call_len_seq rdc_lenT rfl (M.fr 1) PySem.boot_len (da_cons (dv 1) da_nil)) da_nil)) (fun ds r ⟨h1, h2⟩ => ⟨its.length, h1, hpos, hz⟩)) (P := fun d _ => R_one [.tuple its] d) (fun db r' ⟨ds, ⟨h1, h2⟩, n, m, e1, e2, hm⟩ => ?_) (fun _ _ => rfl)) fun d r h => h)
    subst h1
    cases e1
    subst e2
    exact ⟨its[m], rd_ixT (atI_nat (List.getElem?_eq_getElem hm)), its, .inr rfl, List.getElem_mem hm⟩
theorem erase_perm {α : Type} : ∀ (l : List α) (n : Nat) (h : n < l.length), (l[n] :: l.eraseIdx n).Perm l
  | [], _, h => absurd h (Nat.not_lt_zero _)
  | _ :: _, 0, _ => List.Perm.refl _
  | a :: l, n + 1, h => (List.Perm.swap a _ _).trans (List.Perm.cons a (erase_perm l n (Nat.lt_of_succ_lt_succ h)))
theorem perm_pop {acc ws its : List PyData} {n : Nat} {d : PyData} (h : (acc ++ ws).Perm its) (e : ws[n]? = some d) : ((acc ++ [d]) ++ ws.eraseIdx n).Perm its := by
  obtain ⟨hn, hd⟩ := List.getElem?_eq_some_iff.mp e
  refine List.Perm.trans ?_ h
  rw [List.append_assoc]
  refine List.Perm.append_left acc ?_
  rw [← hd]
  exact erase_perm ws n hn
theorem cal_shuffled (M : Md K mg) (c : Cal P w K mg base 1 "_law_grab" ["_law_sack_here", "_law_total"] (spK w K Pre_grab R_grab)) : Cal P w K mg base 2 "_law_shuffled" ["_law_sack_here", "_law_items"] (spK w K Pre_shuf R_shuf) := M.cal 22 rfl (fun _ _ _ _ _ _ us hl => match us, hl with | [_, _], _ => rfl) fun f fd F => by
  refine fnK F sc_shuffled (fun ds ⟨_, h, _⟩ => by rcases h with h | h <;> rw [h] <;> rfl) fun cdv A outer s H E hr ds h => ?_
  obtain ⟨its, hds, hz, hz2⟩ := h
  rcases hds with rfl | rfl
  · refine ds_then (d_own 2 sc_shuffled.nd (do_callTy call_list_of rdo_listL rfl (M.fr 6) (by decide +kernel) (da_cons (dv 1) da_nil))) ?_
    refine ds_one (d1_ret (ex_lcX its id (j := 3) (y := "_law_turn") (fun acc r => ∃ ws, r = [.sck, .dat (.list its), .ownL ws, .non] ∧ (acc ++ ws).Perm its) rfl sc_shuffled.nd (di_list (de_callTy call_list_of rdc_listL rfl (M.fr 6) (by decide +kernel) (da_cons (de_eq (dv 1) (by rw [List.map_id])) da_nil))) (blk_of rfl)
      (fun _ _ _ _ _ => pn 3 sc_shuffled.nd) hz2 ⟨its, rfl, List.Perm.refl _⟩ (fun acc r ⟨ws, e, _⟩ => by rw [e]; rfl) (fun s' H' C cl fp a acc r ⟨ws, e, hp⟩ ha => ?_)) fun d r ⟨acc, e1, e2, ws, e3, hp⟩ => ?_)
    · subst e
      have hlen : acc.length + ws.length = its.length := by rw [← hp.length_eq, List.length_append]
      have hw : 0 < ws.length := by have := (List.getElem?_eq_some_iff.mp ha).1; omega
      refine ex_imp (ex_popAt (pv 2) rfl (ex_c c hr (pv 0) rfl (xa_cons (ex_own (de_callB call_len_seq rdc_lenL rfl (M.fr 1) PySem.boot_len (da_cons (dv 2) da_nil)) rfl) (fun d r h => h.2) (xa_nil (P := fun x r => x = [] ∧ r = [.sck, .dat (.list its), .ownL ws, .dat a]) ⟨rfl, rfl⟩) (P := fun x r => x = [.int (ws.length : Nat)]  ∧ r = [.sck, .dat (.list its), .ownL ws, .dat a]) (fun d ds r h1 h2 => by rw [h1.1, h2.1, h2.2]; exact ⟨rfl, rfl⟩)) (fun ds r ⟨h1, h2⟩ => ⟨ws.length, h1, hw, by omega⟩)) (fun d r ⟨ds, ⟨h1, h2⟩, n, m, e1, e2, hm⟩ => ?_)) fun d r' ⟨n, ds, r, ⟨x, ⟨h1, h2⟩, n', m, e1, e2, hm⟩, h3, h4, h5⟩ => ?_
      · subst h1
        cases e1
        exact ⟨m, ws, e2, by rw [h2]; rfl, hm, by omega⟩
      · subst h2
        cases h3
        subst h5
        exact ⟨ws.eraseIdx n, rfl, perm_pop hp h4⟩
    · have hl : ws = [] := by
        have := hp.length_eq
        rw [List.length_append, e2] at this
        exact List.eq_nil_of_length_eq_zero (by omega)
      subst hl
      rw [List.append_nil] at hp
      exact ⟨its, acc, .inl rfl, e1, hp⟩
  · refine ds_then (d_own 2 sc_shuffled.nd (do_callTy call_list_of rdo_listT rfl (M.fr 6) (by decide +kernel) (da_cons (dv 1) da_nil))) ?_
    refine ds_one (d1_ret (ex_lcX its id (j := 3) (y := "_law_turn") (fun acc r => ∃ ws, r = [.sck, .dat (.tuple its), .ownL ws, .non] ∧ (acc ++ ws).Perm its) rfl sc_shuffled.nd (di_list (de_callTy call_list_of rdc_listT rfl (M.fr 6) (by decide +kernel) (da_cons (de_eq (dv 1) (by rw [List.map_id])) da_nil))) (blk_of rfl)
      (fun _ _ _ _ _ => pn 3 sc_shuffled.nd) hz2 ⟨its, rfl, List.Perm.refl _⟩ (fun acc r ⟨ws, e, _⟩ => by rw [e]; rfl) (fun s' H' C cl fp a acc r ⟨ws, e, hp⟩ ha => ?_)) fun d r ⟨acc, e1, e2, ws, e3, hp⟩ => ?_)
    · subst e
      have hlen : acc.length + ws.length = its.length := by rw [← hp.length_eq, List.length_append]
      have hw : 0 < ws.length := by have := (List.getElem?_eq_some_iff.mp ha).1; omega
      refine ex_imp (ex_popAt (pv 2) rfl (ex_c c hr (pv 0) rfl (xa_cons (ex_own (de_callB call_len_seq rdc_lenL rfl (M.fr 1) PySem.boot_len (da_cons (dv 2) da_nil)) rfl) (fun d r h => h.2) (xa_nil (P := fun x r => x = [] ∧ r = [.sck, .dat (.tuple its), .ownL ws, .dat a]) ⟨rfl, rfl⟩) (P := fun x r => x = [.int (ws.length : Nat)]  ∧ r = [.sck, .dat (.tuple its), .ownL ws, .dat a]) (fun d ds r h1 h2 => by rw [h1.1, h2.1, h2.2]; exact ⟨rfl, rfl⟩)) (fun ds r ⟨h1, h2⟩ => ⟨ws.length, h1, hw, by omega⟩)) (fun d r ⟨ds, ⟨h1, h2⟩, n, m, e1, e2, hm⟩ => ?_)) fun d r' ⟨n, ds, r, ⟨x, ⟨h1, h2⟩, n', m, e1, e2, hm⟩, h3, h4, h5⟩ => ?_
      · subst h1
        cases e1
        exact ⟨m, ws, e2, by rw [h2]; rfl, hm, by omega⟩
      · subst h2
        cases h3
        subst h5
        exact ⟨ws.eraseIdx n, rfl, perm_pop hp h4⟩
    · have hl : ws = [] := by
        have := hp.length_eq
        rw [List.length_append, e2] at this
        exact List.eq_nil_of_length_eq_zero (by omega)
      subst hl
      rw [List.append_nil] at hp
      exact ⟨its, acc, .inr rfl, e1, hp⟩
end
end K64

/-! ## K64Any -/
/-! Defs whose answer is not told in full; drawn tests, bounds and walks; sorted of more. -/
namespace K64
open PySem PySem.Spec PyProof.Rows L2 PySem.W
/-! ### a def whose answer is one of several -/
def spE (w : World) (K : PySem.W.Frag) (Pre : List PyData → Prop) (R : List PyData → PyData → Prop) : Sp := fun vs H Q _ => ∃ G ds, Same G H ∧ DxAll w K G vs ds ∧ Pre ds ∧ ∀ v d G' H', R ds d → Grow G H G' H' → Dx w K G' v d → Q v H'
section
variable {P : Program} {w : World} {K : PySem.W.Frag} {mg : Str → Option Value} {base : Heap} {x qual : Str} {st : Stmt} {f : Addr} {fd : FuncData} {N ps : List Str} {k : Nat}
theorem fnE {Pre : List PyData → Prop} {R : List PyData → PyData → Prop} (F : Fun K x qual st f fd) (S : FnScope N ps (defScope st)) (hl : ∀ ds, Pre ds → ds.length = ps.length)
    (hb : ∀ (cdv : Value) (A : Around) (outer : List PySem.Env) (s : Shared) (H : Hp) (E : XK), Room k (A.deeper (envOfC qual (defScope st) s.heap.objs.size f cdv)) → ∀ ds, Pre ds →
      DS (cxN P w K mg base N qual st f cdv A outer s H E) (defBody st) (ini N ds) (fun _ => R ds .none) (fun y _ => R ds y)) : FnOk P w K mg base CX0 (k + 1) f fd ps (spE w K Pre R) := by
  refine F.ok S (fun vs H Q E ⟨G, ds, _, r, h, _⟩ => by rw [r.length]; exact hl ds h) fun cdv A outer s H vs Q E hr ⟨G, ds, sg, r, h, q⟩ => ⟨_, hb cdv A outer s H E hr ds h, ?_⟩
  exact ⟨⟨G, H, none⟩, G, st_ini sg r, fun ρ' σ' G' H' e S' s' => q .non .none G' H' e S'.grow .non, fun v y ρ' σ' G' H' e S' s' dx => q v y G' H' e S'.grow dx⟩
end
section
variable {X : Cx} {ρ : Sls} {pos : Pos} {e a b c : Expr} {P : PyData → Sls → Prop}
theorem ex_e {k : Nat} {ps : List Str} {Pre : List PyData → Prop} {R : List PyData → PyData → Prop} {x : Str} {es : List Expr} {ds : List PyData} {p : Pos} (c : Cal X.prog X.w X.K X.mg X.base k x ps (spE X.w X.K Pre R)) (hr : Room k X.A) (ha : DA X (e :: es) (er ρ) ds) (h : Pre ds)
    (hg : Gl X x := by rfl) (hdb : (x == ("__debug__" : Str)) = false := by decide) (he : starEach (e :: es) X.env = (false, eval e X.env) :: starEach es X.env := by rfl) (hpl : (backTo pos (starEach es X.env)).any (·.1) = false := by rfl) : EX X (.Call (.Name x p) (e :: es) [] pos) ρ (fun d r => R ds d ∧ r = ρ) := by
  obtain ⟨f, fd, F, hm, hk, hb⟩ := c
  refine pe_imp (pe_call F hr hg hm hk hb .nil pass0 ha hdb he hpl) fun σ H Q ⟨F', G, S, q⟩ => ⟨G, S.grow.s, S.env, fun vs G1 H1 g1 dvs => ⟨G1, ds, g1.s, by rw [List.append_nil]; exact dvs, h, fun v d G' H' hR g dv => ?_⟩⟩
  exact q v d ρ G' H' ⟨hR, rfl⟩ (S.mono (g1.trans g)) (g1.trans g).g dv
/-- a drawn truth as a test -/
theorem tx_val (h : EX X e ρ P) (hb : ∀ d r, P d r → ∃ k, d = .bool k) (he : ∀ whole, isTrue e X.env whole = (do let v ← whole; standAt e.pos; holding [v] (truthy v)) := by intro _; rfl) : TX X e ρ (fun k r => P (.bool k) r) :=
  pt_imp (pt_val h he) fun σ H Q ⟨F, G, S, q⟩ => ⟨F, G, S, fun v d r G' H' p S' s' dv => by
    obtain ⟨k, rfl⟩ := hb d r p
    cases dv
    exact ⟨k, rfl, q k r G' H' p S' s'⟩⟩
/-- a if c else b, a drawn -/
theorem ex_ifT (hc : DT X c (er ρ) true) (ha : EX X a ρ P) : EX X (.IfExp c a b pos) ρ P := by
  refine ⟨fun pins s σ H Q I h => ?_⟩
  obtain ⟨F, G, S, q⟩ := h
  refine wpAny_IfExp (thn (hc.run pins s σ H (fun k H1 => k = true ∧ tX X.w X.K ρ P σ H1 Q) I ⟨G, S.grow.s, S.env, fun G1 H1 g1 => ⟨rfl, F, G1, S.mono g1, fun v d r G' H' p S' s' dv => q v d r G' H' p S' (g1.g.trans s') dv⟩⟩) fun k s1 ⟨H1, I1, ek, q1⟩ => ?_)
  subst ek
  exact ha.run pins s1 σ H1 Q I1 q1
theorem ex_ifF (hc : DT X c (er ρ) false) (hb : EX X b ρ P) : EX X (.IfExp c a b pos) ρ P := by
  refine ⟨fun pins s σ H Q I h => ?_⟩
  obtain ⟨F, G, S, q⟩ := h
  refine wpAny_IfExp (thn (hc.run pins s σ H (fun k H1 => k = false ∧ tX X.w X.K ρ P σ H1 Q) I ⟨G, S.grow.s, S.env, fun G1 H1 g1 => ⟨rfl, F, G1, S.mono g1, fun v d r G' H' p S' s' dv => q v d r G' H' p S' (g1.g.trans s') dv⟩⟩) fun k s1 ⟨H1, I1, ek, q1⟩ => ?_)
  subst ek
  exact hb.run pins s1 σ H1 Q I1 q1
/-! ### drawn walks -/
def tXI (w : World) (K : PySem.W.Frag) (ρ : Sls) (P : List PyData → Sls → Prop) : TI := fun σ H R => ∃ F G, StG w K F ρ σ G H ∧ ∀ J L r G' H', P L r → StG w K F r σ G' H' → Same G G' → Wk w K J G' L → R J H'
def XI (X : Cx) (tg it : Expr) (ρ : Sls) (P : List PyData → Sls → Prop) : Prop := PI X tg it (tXI X.w X.K ρ P)
theorem xi_range {tg : Expr} {p : Pos} {C : Nat → Sls → Prop} (hg : Gl X "range") (hm : X.mg "range" = none) (ha : EX X a ρ P) (hP : ∀ d r, P d r → ∃ n : Nat, d = .int (n : Nat) ∧ n < 2 ^ 62 ∧ C n r) (hs : starEach [a] X.env = [(false, eval a X.env)] := by rfl) :
    XI X tg (.Call (.Name "range" p) [a] [] pos) ρ (fun L r => ∃ n : Nat, L = ((List.range n).map fun (i : Nat) => PyData.int i) ∧ C n r) :=
  pi_imp (pi_range1 hg hm (pa_cons ha pa_nil hs) hs) fun σ H R ⟨F, G, S, q⟩ => ⟨F, G, S, fun v d r G' H' p S' s' dv => by
    obtain ⟨n, rfl, hn, hc⟩ := hP d r p
    cases dv
    refine ⟨(n : Int), rfl, by omega, by omega, ?_⟩
    have k := wk_range (w := X.w) (K := X.K) (G := G') (lo := 0) (n := n)
    have e : ((List.range n).map fun (i : Nat) => PyData.int (0 + i)) = (List.range n).map fun (i : Nat) => PyData.int i := List.map_congr_left fun i _ => by rw [Int.zero_add]
    rw [e] at k
    exact q (Itr 0 n) _ r G' H' ⟨n, rfl, hc⟩ S' s' k⟩
end
section
variable {X : Cx} {ρ : Sls} {N : Sls → Prop} {R : PyData → Sls → Prop} {tg iter : Expr} {body : List Stmt} {pos : Pos} {P : List PyData → Sls → Prop}
/-- a loop over a drawn walk: the walk's data by its list -/
theorem d1_forX {g : TG} (S : List PyData → Nat → Sls → Prop) (hp : PassesOwn (model X.prog X.w) X.A X.env X.xe) (hc : X.calm = true) (hi : XI X tg iter ρ P) (hg : PG X tg g) (h0 : ∀ L r, P L r → S L 0 r)
    (step : ∀ L i a r, L[i]? = some a → S L i r → ∃ r', TgS X.w X.K g r a r' ∧ DS X body r' (S L (i + 1)) R) (hN : ∀ L r, S L L.length r → N r) (hs : ∀ x, foldedSetIterable iter X.env x = pure x := by intro _; rfl) : D1 X (.For tg iter body [] pos) ρ N R := by
  have hb : PSs X body (fun D σ H => ∃ L i r', DS X body r' (S L (i + 1)) R ∧ tS X.w X.K r' (S L (i + 1)) R D σ H) := ⟨fun pins s σ H D I ⟨L, i, r', h, z⟩ => h.run pins s σ H D I z⟩
  refine ps_imp (ps_for hp hc hi hg hb hs) fun D σ H ⟨F, G, S0, qn, qr⟩ => ⟨F, G, S0, fun J L r1 G1 H1 p1 S1 s1 wk => ?_⟩
  refine ⟨fun i m σ2 H2 => i + m = L.length ∧ ∃ r G2, S L i r ∧ StG X.w X.K F r σ2 G2 H2 ∧ Same G1 G2, ⟨L.length, by omega, r1, G1, h0 L r1 p1, S1, Same.refl _⟩, ?_⟩
  rintro i m σ2 H2 ⟨him, r, G2, hS, S2, s2⟩
  by_cases hlt : i < L.length
  · refine .inr ⟨wk.go i H2 (s2.trans S2.grow.s) hlt, fun σ3 H3 => ∃ r3 G3, S L (i + 1) r3 ∧ StG X.w X.K F r3 σ3 G3 H3 ∧ Same G1 G3, fun σ3 H3 ⟨r3, G3, a1, a2, a3⟩ => ⟨m - 1, by omega, by omega, r3, G3, a1, a2, a3⟩, fun x H3 y => ?_⟩
    obtain ⟨d, G3, ed, gr, dx⟩ := wk.yld i G2 H2 x H3 s2 S2.grow.s hlt y
    obtain ⟨r', tgd, hbd⟩ := step L i d r ed hS
    refine tgd x σ2 F G3 H3 _ (S2.mono gr) dx fun σ3 S3 => ⟨L, i, r', hbd, F, G3, S3, fun ρ4 σ4 G4 H4 n S4 s4 => ⟨ρ4, G4, n, S4, (s2.trans gr.g).trans s4⟩, fun v d4 ρ4 σ4 G4 H4 h4 S4 s4 dx4 => qr v d4 ρ4 σ4 G4 H4 h4 S4 (s1.trans ((s2.trans gr.g).trans s4)) dx4⟩
  · have ei : i = L.length := by omega
    subst ei
    exact .inl ⟨wk.stop H2 (s2.trans S2.grow.s), qn r σ2 G2 H2 (hN L r hS) S2 (s1.trans s2)⟩
end
/-! ### a drawn list cut at a drawn bound -/
section
variable {X : Cx} {ρ : Sls} {a b : Expr} {p2 p3 : Pos} {Pa : PyData → Sls → Prop} {Pb : PyData → PyData → Sls → Prop} {tb : TE}
theorem ex_takeL (ha : EX X a ρ Pa) (hPa : ∀ d r, Pa d r → ∃ ds, d = .list ds) (hb : PE X b tb) (tb' : ∀ d r, Pa d r → ∀ σ H Q, tX X.w X.K r (Pb d) σ H Q → tb σ H Q) (hPb : ∀ da r db r', Pa da r → Pb da db r' → ∃ n : Nat, db = .int (n : Nat)) :
    EX X (.Subscript a (.Slice none (some b) none p2) p3) ρ (fun d r' => ∃ (ds : List PyData) (r : Sls) (n : Nat), Pa (.list ds) r ∧ Pb (.list ds) (.int (n : Nat)) r' ∧ d = .list (ds.take n)) :=
  pe_imp (pe_slice sl_list ha po_none (po_some hb)) fun σ H Q ⟨F, G, S, q⟩ => ⟨F, G, S, fun x da r G1 H1 p1 S1 s1 dx => tb' da r p1 σ H1 _ ⟨F, G1, S1, fun y db r' G2 H2 p2 S2 s2 dy => by
    obtain ⟨ds, rfl⟩ := hPa da r p1
    obtain ⟨n, rfl⟩ := hPb _ r db r' p1 p2
    cases dy
    refine ⟨(n : Int), rfl, ?_⟩
    cases dx with
    | lst h rx =>
      refine ⟨_, _, rfl, .inl (.inl (S2.grow.s _ _ (s2 _ _ h))), fun p hp => ?_⟩
      rw [cutV_to]
      rename_i xs
      have gn : Grow G2 H2 (upd G2 p (.lst (xs.take n))) (upd H2 p (.lst (xs.take n))) := .new S2.grow.s hp
      exact q _ _ r' (upd G2 p _) _ ⟨ds, r, n, p1, p2, rfl⟩ (S2.mono gn) ((s1.trans s2).trans gn.g) (.lst upd_same (((rx.mono s2).take n).mono gn.g))⟩⟩
end
/-! ### sorted of a dict with texts as keys -/
theorem sortedS_pw : ∀ {l : List Str}, sortedS l = true → l.Pairwise fun a b => (!DatumOrd.lt b a) = true
  | [], _ => List.Pairwise.nil
  | x :: l, h => by
    have go : ∀ (l : List Str) (p : Str), risingS p l = true → (p :: l).Pairwise fun a b => (!DatumOrd.lt b a) = true := by
      intro l
      induction l with
      | nil => exact fun p _ => List.pairwise_cons.mpr ⟨(fun _ h => nomatch h), List.Pairwise.nil⟩
      | cons y l ih =>
        intro p h
        rw [risingS, Bool.and_eq_true] at h
        have h2 := ih y h.2
        have h1 : (!DatumOrd.lt y p) = true := by
          show (!decide (y.cps.toList < p.cps.toList)) = true
          rw [← ltCps_eq]
          exact h.1
        refine List.pairwise_cons.mpr ⟨fun z hz => ?_, h2⟩
        rcases List.mem_cons.mp hz with rfl | hz
        · exact h1
        · exact le_tra p y z h1 (List.rel_of_pairwise_cons h2 hz)
    exact go l x h
theorem sortedS_srt {l ks : List Str} (h : sortedS l = true) (hp : l.Perm ks) (hn : ks.Nodup) : l = srt ks := by
  have hl : Asc l := by
    refine List.Pairwise.imp_of_mem (R := fun a b => (!DatumOrd.lt b a) = true ∧ a ≠ b) (fun {a b} _ _ ⟨z1, z2⟩ => ?_) (List.Pairwise.and (sortedS_pw h) (hp.nodup_iff.mpr hn))
    cases e : DatumOrd.lt a b with
    | true => rfl
    | false => exact absurd (OrdLaw.tot a b e (by simpa using z1)) z2
  exact asc_ext hl (srt_asc hn) fun a => by rw [srt_mem]; exact hp.mem_iff
def rSortK (w : World) (K : PySem.W.Frag) : List V → Hp → VK → Prop := fun xs H Q => ∃ (a : Addr) (kvs : List (Key × V)) (ks : List Str), xs = [.ref a] ∧ Rd H a (.dK kvs) ∧ kvs.map (·.1) = ks.map Sum.inr ∧ ks.length < 64 ∧
    ∀ ys p, ys.Perm ks → sortedS ys = true → H p = none → Q (.ref p) (upd H p (.lst (ys.map V.str)))
theorem dx_strs {w : World} {K : PySem.W.Frag} {G : Hp} : ∀ l : List Str, DxAll w K G (l.map V.str) (l.map PyData.str)
  | [] => .nil
  | x :: l => .cons (.str x) (dx_strs l)
theorem dxk_names {w : World} {K : PySem.W.Frag} {G : Hp} : ∀ {kvs : List (Key × V)} {ds : List (PyData × PyData)} {ks : List Str}, DxK w K G kvs ds → ds.map (·.1) = ks.map PyData.str → kvs.map (·.1) = ks.map Sum.inr
  | [], [], [], .nil, _ => rfl
  | [], [], _ :: _, .nil, h => by cases h
  | _ :: _, _ :: _, [], .cons _ _, h => by cases h
  | (k, v) :: kvs, _ :: ds, x :: ks, .cons _ r, h => by
    rw [List.map_cons, List.map_cons] at h
    injection h with h1 h2
    rw [List.map_cons, List.map_cons, dxk_names r h2]
    cases k with
    | inl i => cases h1
    | inr y => cases h1; rfl
theorem rdc_sortK {w : World} {K : PySem.W.Frag} {ds : List (PyData × PyData)} {ks : List Str} (h : ds.map (·.1) = ks.map PyData.str) (hn : ks.Nodup) (h64 : ks.length < 64) (hk : ∀ w K G v, Dx w K G v (.dict ds) → ∃ p kvs, v = .ref p ∧ G p = some (.dK kvs) ∧ DxK w K G kvs ds) : RDC w K (rSortK w K) [.dict ds] (.list ((srt ks).map PyData.str)) := fun xs G H Q s dx q => by
  cases dx with
  | cons d1 dr =>
    cases dr
    obtain ⟨p, kvs, rfl, hG, r⟩ := hk _ _ _ _ d1
    refine ⟨p, kvs, ks, rfl, .inl (s _ _ hG), dxk_names r h, h64, fun ys l hp hs hl => ?_⟩
    rw [sortedS_srt hs hp hn]
    exact q _ (upd G l _) _ (.new s hl) (.lst upd_same (dx_strs _))
end K64

/-! ## K64Any2 -/
/-! list(range(a)); sorted(a), a tuple. -/
namespace K64
open PySem PySem.Spec PyProof.Rows L2 PySem.W
theorem dx_nats {w : World} {K : PySem.W.Frag} {G : Hp} {n : Nat} : DxAll w K G (rgV 0 (n : Int)) ((List.range n).map fun (i : Nat) => PyData.int i) := by
  unfold rgV
  rw [show ((n : Int) - 0).toNat = n by omega]
  generalize List.range n = l
  induction l with
  | nil => exact .nil
  | cons a l ih =>
    refine .cons ?_ ih
    show Dx w K G (.int (0 + (a : Nat))) (.int (a : Nat))
    rw [Int.zero_add]
    exact .int _
section
variable {X : Cx} {ρ : Env} {a : Expr} {p p2 pos q : Pos}
theorem de_listRange {n : Nat} (hc : X.calm = true) (ha : DE X a ρ (.int (n : Nat))) (hz : n ≤ 1000000) (hm : X.mg "list" = none) (hm2 : X.mg "range" = none) (hg : Gl X "list" := by rfl) (hg2 : Gl X "range" := by rfl)
    (na : starEach [a] X.env = (false, eval a X.env) :: starEach [] X.env := by rfl) (nb : starEach [.Call (.Name "range" p2) [a] [] q] X.env = (false, eval (.Call (.Name "range" p2) [a] [] q) X.env) :: starEach [] X.env := by rfl) :
    DE X (.Call (.Name "list" p) [.Call (.Name "range" p2) [a] [] q] [] pos) ρ (.list ((List.range n).map fun (i : Nat) => .int i)) :=
  pe_imp (pe_listRg hc hg hm (prg_1 hg2 hm2 ha na) nb) fun σ H Q ⟨G, s, env, k⟩ => ⟨G, s, env, fun v G1 H1 g1 dv => by
    cases dv
    refine ⟨(n : Int), rfl, RgOk.of_le (by omega) (by omega) (by omega) (by omega), fun l hl => ?_⟩
    exact k _ (upd G1 l _) _ (g1.trans (.new g1.s hl)) (.lst upd_same dx_nats)⟩
end
section
variable {P : Program} {w : World} {A : Around} {E : Value → Shared → Prop} {s : Shared}
theorem collect_tup {a : Addr} {o : Obj} {its : Array Value} {n : Nat} {R : List Value → Shared → Prop} (ho : s.heap.get? a = some o) (hc : o.cls = .type "tuple") (hd : o.data = .seq its n) (hz : its.size ≤ sizeLine)
    (h : ∀ (h' : Heap), (∀ b u, s.heap.get? b = some u → h'.get? b = some u) → s.heap.objs.size ≤ h'.objs.size → R its.toList { s with heap := h' }) : wpAny (model P w) A (collect (.ref a)) R E s := by
  let h1 : Heap := s.heap.push { cls := .type "list", data := .seq ([] : List Value).toArray }
  let h2 : Heap := h1.update s.heap.objs.size (Obj.mapSeq (· ++ its))
  have g1 : h1.get? s.heap.objs.size = some { cls := .type "list", data := .seq #[] 0 } := Heap.get?_push_size _ rfl
  have g2 := Heap.get?_update_self (Obj.mapSeq (· ++ its)) g1 rfl
  have keep : ∀ b u, s.heap.get? b = some u → h2.get? b = some u := fun b u hb => (Heap.get?_update_other _ _ (Nat.ne_of_gt (Heap.lt_size hb))).trans (Heap.get?_push_of_some _ hb)
  have big : s.heap.objs.size ≤ h2.objs.size := Nat.le_of_lt (Heap.lt_size g2)
  have last : wpAny (model P w) A (load s.heap.objs.size >>= fun o => match o.data with | .seq xs _ => pure xs.toList | _ => unsupported "internal:collect") R E { s with heap := h2 } := by
    refine wpAny_bind (wpAny_load g2 (wpAny_pure ?_))
    have e : ((#[] : Array Value) ++ its).toList = its.toList := by simp
    show R ((#[] : Array Value) ++ its).toList _
    rw [e]
    exact h h2 keep big
  unfold collect
  refine wpAny_bind (wpAny_runValue (codeAny_builtin F.entry_proto_collect ?_))
  rw [Around.under_plainId F.plain_proto_collect _]
  show wpAny _ A.in1 (newList [] >>= fun y => again (.builtin "list.__iadd__" ⟨[y, .ref a], []⟩)) _ _ s
  refine wpAny_bind (wpAny_newObj_type (wpAny_pure ⟨plainId_quiet F.plain_list_iadd _, codeAny_builtin F.entry_list_iadd ?_⟩))
  rw [Around.under_plainId F.plain_list_iadd _]
  show wpAny _ A.in1 (Builtin.List.listExtendWith (.ref s.heap.objs.size) (.ref a) (.ref s.heap.objs.size)) _ _ { s with heap := h1 }
  refine wpAny_mono (wpAny_extend_seq (hsz := hz) (A := A) (R := fun r z => r = .ok (.ret (.ref s.heap.objs.size)) ∧ z = { s with heap := h2 }) (s := { s with heap := h1 }) _ a _ 0 (.inr rfl) g1 (Heap.get?_push_of_some _ ho) hc hd ⟨rfl, rfl⟩) (fun fin z x => ?_) fun e z x => absurd x.1 (by simp)
  cases fin with
  | done f =>
    obtain ⟨e, rfl⟩ := x
    cases e
    exact last
  | again c => exact ⟨x.1, codeAny_mono x.2 fun r z hr => by obtain ⟨rfl, rfl⟩ := hr; exact last⟩
end
/-- sorted(a), a tuple -/
def rSortT (w : World) (K : PySem.W.Frag) (α : Type) [DecidableEq α] [DatumOrd α] : List V → Hp → VK → Prop := fun xs H Q => ∃ (a : Addr) (G : Hp) (bs : List α), xs = [.ref a] ∧ Same G H ∧ Dx w K G (.ref a) (.tuple (bs.map Datum.toD)) ∧ SortOk (bs.map Datum.toD) ∧
  ∀ p ys, H p = none → DxAll w K G ys ((srt bs).map Datum.toD) → Q (.ref p) (upd H p (.lst ys))
section
variable {X : Cx} {α : Type} [DecidableEq α] [DatumOrd α]
theorem crD_sortT (hu : X.A.units + 64 < cLine) (hd : Datum.depth α ≤ 60) : CallR X (.builtin "sorted") (rSortT X.w X.K α) := by
  intro pins s σ H vs us Q I r h
  obtain ⟨a, G, bs, rfl, sg, dx, ok, q⟩ := h
  rw [Vals.ref1 r]
  cases dx with
  | tup hG hdx =>
  obtain ⟨its, rv, ⟨o, ho, hcls, n, hdat⟩, hz⟩ := I.tuple (.inl (.inl (sg _ _ hG)))
  have hvz : its.length ≤ sizeLine := by rw [← rv.length]; exact hz
  refine Calls.call_function_entry kind_sorted plain_sorted entry_sorted (args_sorted1 _) ?_
  unfold Builtin.«sorted»
  refine wpAny_bind (m := checkCount "sorted" 1 1 _) (wpAny_pure ?_)
  refine wpAny_bind (collect_tup (A := X.A.in1) ho hcls hdat (by rw [List.size_toArray]; exact hvz) fun h' kp sz => ?_)
  obtain ⟨as, ra⟩ := dx_readsAll I sg hdx (plainAll_map bs) rv
  have er := each_reads ra
  have e := dx_vals rv hdx
  refine wpAny_bind (wpAny_newList ?_ hvz)
  let hl : Heap := h'.push (seqObj "list" its.toArray 0)
  let hs : Heap := sortingHeap hl h'.objs.size its
  have hoL : hl.get? h'.objs.size = some (seqObj "list" its.toArray 0) := Heap.get?_push_size _ rfl
  have er' : EachIs (fun v b => ∃ as, Reads hs v (Datum.toD b) as) its bs := er.mono fun _ _ ⟨as, r⟩ => ⟨as, PyProof.Rows.Reads.keeps (fun b o e => sortingHeap_old (Nat.ne_of_lt (Heap.lt_size (kp b o e))) (Heap.get?_push_of_some _ (kp b o e))) r⟩
  have em := each_map (R := fun v d => ∃ as, Reads hs v d as) Datum.toD er'
  have hb : ∀ d, d ∈ bs.map Datum.toD → X.A.in1.in1.units + d.depth < cLine := fun d hd' => by
    obtain ⟨b, _, rfl⟩ := List.mem_map.mp hd'
    have := Datum.depth_le b
    show X.A.units + 1 + 1 + _ < cLine
    omega
  have S0 : SortsAt X.prog X.w X.A.in1.in1 { s with heap := hs } (dataKind hs (bs.map Datum.toD)) its := by
    rcases ok with ok | ⟨rest, er0, ht⟩
    · exact SortsAt.data (s := { s with heap := hs }) em (alike_all bs) ok hb
    · have al := alike_all bs
      rw [er0] at em hb al ⊢
      exact sortsAt0 (s := { s with heap := hs }) em ht al hb
  refine wpAny_bind (wpAny_holding (wpAny_call_entry slot_list_sort ⟨_, hoL, rfl⟩ entry_list_sort (list_sort_vals (s := { s with heap := hl }) hoL S0 hvz ?_) (args_list_sort _)))
  refine ⟨_, rfl, wpAny_pure ⟨_, rfl, ?_⟩⟩
  have ho' := sortVals_data (R := fun u b => ∃ x, RelV x u ∧ Dx X.w X.K G x (Datum.toD b)) false e er' (alike_all bs)
  rw [srt_eq] at ho'
  obtain ⟨ys, v1, v2⟩ := vals_dx ho'
  obtain ⟨c, hc'⟩ := sortedHeap_at (vs := its) (out := (sortVals (dataKind hs (bs.map Datum.toD)) false its its).toArray) hoL
  have hn : H h'.objs.size = none := I.hok.fresh sz
  have hl' : ys.length ≤ sizeLine := by
    rw [v2.length, List.length_map, srt, List.length_mergeSort, ← e.length]
    exact hvz
  refine ⟨.ref h'.objs.size, upd H h'.objs.size (.lst ys), I.laid (t' := s.toks) (fun b o e => ?_) sz ⟨hl', _, c, v1, hc'⟩, rfl, q _ ys hn v2⟩
  have e1 := kp b o e
  have hlt := Heap.lt_size e1
  rw [sortedHeap_old (Nat.ne_of_lt hlt) (by rw [size_push']; exact Nat.lt_succ_of_lt hlt)]
  exact Heap.get?_push_of_some _ e1
end
theorem rdc_sortT {w : World} {K : PySem.W.Frag} {α : Type} [DecidableEq α] [DatumOrd α] {bs : List α} (ok : SortOk (bs.map Datum.toD)) : RDC w K (rSortT w K α) [.tuple (bs.map Datum.toD)] (.list ((srt bs).map Datum.toD)) := fun xs G H Q s dx q => by
  cases dx with
  | cons d1 dr =>
    cases dr
    cases d1 with
    | tup h r => exact ⟨_, G, bs, rfl, s, .tup h r, ok, fun p ys hp hy => q _ (upd G p _) _ (.new s hp) (.lst upd_same (hy.mono (same_new (s.free hp))))⟩
end K64

/-! ## P1 -/
namespace K64
open PySem PySem.Spec PyProof.Rows L2
/-- a tuple of numbers -/
abbrev tN (r : List Nat) : PyData := .tuple (r.map fun n => .int (n : Nat))
abbrev rowsL (rs : List (List Nat)) : PyData := .list (rs.map tN)
def allRows (size : Nat) : Nat → List (List Nat)
  | 0 => [[]]
  | k + 1 => (allRows size k).flatMap fun r => (List.range size).map fun v => r ++ [v]
theorem allRows_len (size : Nat) : ∀ k, (allRows size k).length = size ^ k
  | 0 => rfl
  | k + 1 => by
    rw [allRows, List.length_flatMap]
    simp only [List.length_map, List.length_range, List.map_const', List.sum_replicate_nat, allRows_len size k]
    rw [Nat.pow_succ]
theorem tN_snoc (r : List Nat) (a : Nat) : PyData.tuple ((r.map fun n => PyData.int (n : Nat)) ++ [.int (a : Nat)]) = tN (r ++ [a]) := by rw [tN, List.map_append]; rfl
theorem take_flat {α β : Type} {l : List α} {f : α → List β} {i : Nat} {a : α} (h : l[i]? = some a) : (l.take (i + 1)).flatMap f = (l.take i).flatMap f ++ f a := by
  rw [List.take_add_one, h, List.flatMap_append]
  simp
theorem take_flat_len {α β : Type} (l : List α) (f : α → List β) (i : Nat) : ((l.take i).flatMap f).length ≤ (l.flatMap f).length := by
  conv => rhs; rw [← List.take_append_drop i l, List.flatMap_append, List.length_append]
  omega
theorem hlen (size : Nat) : ∀ (k : Nat) (r : List Nat), r ∈ allRows size k → r.length = k
  | 0, r, h => by
    rw [allRows, List.mem_singleton] at h
    rw [h]; rfl
  | k + 1, r, h => by
    rw [allRows] at h
    obtain ⟨r', h1, h2⟩ := List.mem_flatMap.mp h
    obtain ⟨v, _, rfl⟩ := List.mem_map.mp h2
    rw [List.length_append, hlen size k r' h1]; rfl
/-- what all_rows promises -/
def R_all_rows (ds : List PyData) (d : PyData) : Prop := ∃ size places : Nat, ds = [.int (size : Nat), .int (places : Nat)] ∧ size ≤ 1000 ∧ places ≤ 1000 ∧ (∀ k, k ≤ places → size ^ k ≤ 100000) ∧ d = rowsL (allRows size places)
section
variable {P : Program} {w : World} {K : PySem.W.Frag} {mg : Str → Option Value} {base : Heap} {f : Addr} {fd : FuncData}
theorem ok_all_rows (F : Fun K "_law_all_rows" "_law_all_rows" s_all_rows f fd) (gr : mg "range" = none) (gl : mg "list" = none) : FnOk P w K mg base CX0 1 f fd ["_law_size", "_law_places"] (spD w K R_all_rows) := by
  refine fnD F sc_all_rows (fun ds d ⟨_, _, h, _⟩ => by rw [h]; rfl) fun cdv A outer s H E hr ds d h => ?_
  obtain ⟨size, places, rfl, hs1, hp1, hz, rfl⟩ := h
  refine ds_then (d_let 2 (d := rowsL [[]]) sc_all_rows.nd (de_lst (da_cons (de_tup da_nil (by decide)) da_nil) (by decide))) ?_
  refine ds_for (List.range places) (fun (i : Nat) => .int (i : Nat)) (fun k => [.dat (.int (size : Nat)), .dat (.int (places : Nat)), .dat (rowsL (allRows size k)), .non, .non, .non, .non]) PassesOwn.never rfl (di_range rfl gr (da_cons (dv 1) da_nil) (by omega)) (pn 3 sc_all_rows.nd) (fun i a ha => ?_) ?_
  · have hi : i < places := by have := (List.getElem?_eq_some_iff.mp ha).1; simpa using this
    refine ⟨_, tgs_name, ?_⟩
    refine ds_then (d_own 4 sc_all_rows.nd do_nilL) ?_
    refine ds_for (allRows size i) tN (fun j => [.dat (.int (size : Nat)), .dat (.int (places : Nat)), .dat (rowsL (allRows size i)), .non, .ownL ((((allRows size i).take j).flatMap fun r => (List.range size).map fun v => r ++ [v]).map tN), .non, .non]) PassesOwn.never rfl
      (di_list (de_callTy call_list_of rdc_listL rfl gl rfl (da_cons (dv 2) da_nil))) (pn 5 sc_all_rows.nd) (fun j r hr => ?_) ?_
    · have hj : j < (allRows size i).length := (List.getElem?_eq_some_iff.mp hr).1
      refine ⟨_, tgs_name, ds_one (d1_ext (pv 4) rfl (ex_of (de_map (List.range size) (fun (i : Nat) => .int (i : Nat)) (fun v => tN (r ++ [v])) _ rfl sc_all_rows.nd (di_range rfl gr (da_cons (dv 0) da_nil) (by omega)) (own := [("_law_value", 6)]) (blk_of rfl)
        (fun _ _ _ _ _ => pn 6 sc_all_rows.nd) (by rw [List.length_range]; exact Nat.le_trans hs1 (by decide)) (fun a _ => tg_name (by decide)) (fun _ _ _ _ _ a _ => de_eq (de_op op_catA (rd_catT (szl (by rw [List.length_map, hlen _ _ _ (List.mem_of_getElem? hr)]; show i + 1 ≤ _; omega))) (dv 5) (de_tup (da_cons (dv 6) da_nil) (by show 1 ≤ sizeLine; decide))) (tN_snoc r a)))) (fun d r' h => ?_))⟩
      obtain ⟨rfl, rfl⟩ := h
      refine ⟨_, _, rfl, rfl, ?_, ?_⟩
      · have h1 := take_flat_len (allRows size i) (fun r => (List.range size).map fun v => r ++ [v]) (j + 1)
        rw [take_flat hr, List.length_append, List.length_map] at h1
        rw [List.length_map, List.length_map]
        exact Nat.le_trans h1 (Nat.le_trans (show ((allRows size (i + 1)).length ≤ 100000) by rw [allRows_len]; exact hz (i + 1) hi) (by decide))
      · rw [take_flat hr, List.map_append, List.map_map]
        exact .same (.same (.same (.non (.same (.non (.non .nil))))))
    · rw [List.take_length]
      refine ds_frz (i := 4) rfl rfl rfl ?_
      exact ds_imp (ds_one (d_let 2 sc_all_rows.nd (dv 4))) (fun r h => by rw [h]; exact .same (.same (.same (.non (.non (.non (.non .nil))))))) fun _ _ h => h
  · rw [List.length_range]
    exact ds_one (d_ret (dv 2) rfl)
end
end K64

/-! ## W3 -/
/-! is_integer .. are_applied_of: what they say of good values. -/
namespace K64
open PySem PySem.Spec PyProof.Rows L2
theorem kit_int_int : kitB "int" "int" = some true := by decide +kernel
theorem kit_int_bool : kitB "int" "bool" = some false := by decide +kernel
theorem kit_tup_tup : kitB "tuple" "tuple" = some true := by decide +kernel
theorem kit_str_str : kitB "str" "str" = some true := by decide +kernel
def R_is_integer (ds : List PyData) (d : PyData) : Prop := ∃ n : Int, ds = [.int n] ∧ -(10 ^ 60 - 1) ≤ n ∧ n ≤ 10 ^ 60 - 1 ∧ d = .bool true
def R_within (ds : List PyData) (d : PyData) : Prop := ∃ n lo hi : Int, ds = [.int n, .int lo, .int hi] ∧ -(10 ^ 60 - 1) ≤ n ∧ n ≤ 10 ^ 60 - 1 ∧ lo ≤ n ∧ n ≤ hi ∧ d = .bool true
section
variable {P : Program} {w : World} {K : PySem.W.Frag} {mg : Str → Option Value} {base : Heap}
theorem cal_is_integer (M : Md K mg) : Cal P w K mg base 1 "is_integer" ["value"] (spD w K R_is_integer) := M.cal 0 rfl (fun _ _ _ _ _ _ us hl => match us, hl with | [_], _ => rfl) fun f fd F => by
  refine fnD F sc_is_integer (fun ds d ⟨_, h, _⟩ => by rw [h]; rfl) fun cdv A outer s H E hr ds d h => ?_
  obtain ⟨n, rfl, h1, h2, rfl⟩ := h
  obtain ⟨t, ht⟩ := M.iGreatest
  refine ds_one (d_ret (de_eq (de_and (de_isi (d := .int n) (T := "int") (k := true) (dv 0) rfl kit_int_int rfl (M.fr 0) rfl (M.fr 13) (by decide +kernel)) fun _ => de_and (de_not (de_isi (d := .int n) (T := "bool") (k := false) (dv 0) rfl kit_int_bool rfl (M.fr 0) rfl (M.fr 16) (by decide +kernel))) fun _ => de_one (de_chain op_le op_le rd_le (fun _ => rd_le) (de_neg (de_gint rfl ht)) (dv 0) (de_gint rfl ht))) ?_) rfl)
  rw [decide_eq_true h1, decide_eq_true h2]
  rfl
theorem cal_within (M : Md K mg) (c : Cal P w K mg base 1 "is_integer" ["value"] (spD w K R_is_integer)) : Cal P w K mg base 2 "is_integer_within" ["value", "low", "high"] (spD w K R_within) := M.cal 1 rfl (fun _ _ _ _ _ _ us hl => match us, hl with | [_, _, _], _ => rfl) fun f fd F => by
  refine fnD F sc_is_integer_within (fun ds d ⟨_, _, _, h, _⟩ => by rw [h]; rfl) fun cdv A outer s H E hr ds d h => ?_
  obtain ⟨n, lo, hi, rfl, h1, h2, h3, h4, rfl⟩ := h
  refine ds_one (d_ret (de_eq (de_and (de_c c hr (da_cons (dv 0) da_nil) ⟨n, rfl, h1, h2, rfl⟩) fun _ => de_one (de_chain op_le op_le rd_le (fun _ => rd_le) (dv 1) (dv 0) (dv 2))) ?_) rfl)
  rw [decide_eq_true h3, decide_eq_true h4]
  rfl
end
section
variable {X : Cx} {ρ : Env} {pos : Pos} {elt tg iter : Expr} {scope : Scope} {own : List (Str × Nat)}
/-- truths of items -/
theorem de_mapB {α : Type} (as : List α) (enc : α → PyData) (f : α → Bool) (ρ' : α → Env) {g : TG} (hc : X.calm = true) (hN : X.N.Nodup) (hi : DI X tg iter ρ (as.map enc)) (ok : BlkOk X.N X.env.scope scope own)
    (hg : ∀ (s : Shared) (H : Hp) (C : Addr) (cl : List (Str × Addr)) (fp : List Addr), PG (X.blk s H scope (compEnvC scope cl C X.env) fp) tg g) (hz : as.length ≤ sizeLine)
    (hgd : ∀ a ∈ as, TgD X.w X.K (own.map (·.2)) g (wipeR ρ (own.map (·.2))) (enc a) (ρ' a))
    (he : ∀ (s : Shared) (H : Hp) (C : Addr) (cl : List (Str × Addr)) (fp : List Addr), ∀ a ∈ as, DE (X.blk s H scope (compEnvC scope cl C X.env) fp) elt (ρ' a) (.bool (f a)))
    (hs : ∀ x, foldedSetIterable iter X.env x = pure x := by intro _; rfl) : DE X (.ListComp elt [⟨tg, iter, [], 0⟩] scope pos) ρ (.list ((as.map f).map PyData.bool)) :=
  de_eq (de_map as enc (fun a => .bool (f a)) ρ' hc hN hi ok hg hz hgd he hs) (by rw [List.map_map]; rfl)
end
/-! ### names -/
def NameOk (x : Str) : Prop := 1 ≤ x.length ∧ x.length ≤ 8 ∧ ∀ c ∈ x.cps.toList, (!decide ([c] < ("a" : Str).cps.toList)) = true ∧ (!decide (("z" : Str).cps.toList < [c])) = true
def R_is_name (ds : List PyData) (d : PyData) : Prop := ∃ x : Str, ds = [.str x] ∧ NameOk x ∧ d = .bool true
theorem rd_leS {w : World} {K : PySem.W.Frag} {i j : Str} : RD2 w K (fun x y H Q => ∃ i j, x = .str i ∧ y = .str j ∧ Q (.bl (!decide (j.cps.toList < i.cps.toList))) H) (.str i) (.str j) (.bool (!decide (j.cps.toList < i.cps.toList))) := fun x y G H Q s dx dy q => by
  cases dx
  cases dy
  exact ⟨i, j, rfl, rfl, q _ G H (.refl s) (.bl _)⟩
theorem all_true {α : Type} {l : List α} {f : α → Bool} (h : ∀ a ∈ l, f a = true) : (l.map f).all id = true := by
  rw [List.all_map]
  exact List.all_eq_true.mpr fun a ha => h a ha
section
variable {P : Program} {w : World} {K : PySem.W.Frag} {mg : Str → Option Value} {base : Heap}
theorem cal_is_name (M : Md K mg) : Cal P w K mg base 1 "is_name" ["value"] (spD w K R_is_name) := M.cal 2 rfl (fun _ _ _ _ _ _ us hl => match us, hl with | [_], _ => rfl) fun f fd F => by
  refine fnD F sc_is_name (fun ds d ⟨_, h, _⟩ => by rw [h]; rfl) fun cdv A outer s H E hr ds d h => ?_
  obtain ⟨x, rfl, ⟨h1, h2, h3⟩, rfl⟩ := h
  obtain ⟨t, ht⟩ := M.iLetters
  refine ds_then (ρ' := ini n_is_name [.str x]) (d1_ifF (tx_imp (tx_of (DW.dt (dw_or (k := false) (dt_not (k := true) (dt_val (de_isi (d := .str x) (T := "str") (k := true) (dv 0) rfl kit_str_str rfl (M.fr 0) rfl (M.fr 17) (by decide +kernel)))) fun _ => dw_or1 (k := false) (dt_not (k := true) (dt_eq (dt_chain op_le op_le rd_le (fun _ => rd_le) de_int (de_callB call_len_str (rdc_lenS (z := x) (szl (by omega))) rfl (M.fr 1) PySem.boot_len (da_cons (dv 0) da_nil)) (de_gint rfl ht)) ?_))))) (fun _ _ h => h)) (ds_nil rfl)) ?_
  · rw [decide_eq_true (show (1 : Int) ≤ (x.length : Nat) by omega), decide_eq_true (show ((x.length : Nat) : Int) ≤ 8 by omega)]
    rfl
  · refine ds_one (d_ret (de_eq (de_callB (cr_all rfl) rdc_all rfl (M.fr 2) (by decide +kernel) (da_cons (de_mapB x.cps.toList (fun c => .str ⟨#[c]⟩) (fun c => (!decide ([c] < ("a" : Str).cps.toList)) && !decide (("z" : Str).cps.toList < [c])) _ rfl sc_is_name.nd (di_str (dv 0)) (own := [("letter", 1)]) (blk_of rfl)
      (fun _ _ _ _ _ => pn 1 sc_is_name.nd) (szl (by rw [show x.cps.toList.length = x.length by simp [Str.length]]; omega)) (fun a _ => tg_name (by decide)) (fun _ _ _ _ _ a _ => de_chain op_le_str op_le_str rd_leS (fun _ => rd_leS) de_str (dv 1) de_str)) da_nil)) ?_) rfl)
    rw [all_true fun c hc => ?_]
    rw [(h3 c hc).1, (h3 c hc).2]
    rfl
end
end K64

/-! ## W4 -/
/-! are_ascending .. are_applied_of. -/
namespace K64
open PySem PySem.Spec PyProof.Rows L2 PySem.W
abbrev rowD (r : Row) : PyData := .tuple (r.items.map fun n => .int (n : Nat))
abbrev tieD (t : Tie) : PyData := .tuple [.str t.1, rowD t.2]
abbrev tiesD (ts : List Tie) : List PyData := ts.map tieD
theorem toD_row (r : Row) : Datum.toD r = rowD r := rfl
theorem toD_tie (t : Tie) : Datum.toD t = tieD t := rfl
theorem plain_row (r : Row) : (rowD r).plain = true := Datum.plain r
theorem plain_tie (t : Tie) : (tieD t).plain = true := Datum.plain t
theorem plain_ties (ts : List Tie) : (PyData.tuple (tiesD ts)).plain = true := Datum.plain (⟨ts⟩ : Tup Tie)
def RowOk (size : Nat) (r : Row) : Prop := 1 ≤ r.items.length ∧ r.items.length ≤ 3 ∧ ∀ n ∈ r.items, n < size
def TieOk (size : Nat) (t : Tie) : Prop := NameOk t.1 ∧ RowOk size t.2
def R_asc (ds : List PyData) (d : PyData) : Prop := ∃ ts : List Tie, ds = [.tuple (tiesD ts)] ∧ Asc ts ∧ ts.length ≤ 100000 ∧ d = .bool true
def R_is_row (ds : List PyData) (d : PyData) : Prop := ∃ (r : Row) (size : Nat), ds = [rowD r, .int (size : Nat), .int (r.items.length : Nat)] ∧ r.items.length ≤ 100000 ∧ size ≤ 100000 ∧ (∀ n ∈ r.items, n < size) ∧ d = .bool true
def R_is_row_of (ds : List PyData) (d : PyData) : Prop := ∃ (r : Row) (size : Nat), ds = [rowD r, .int (size : Nat), .int 3] ∧ RowOk size r ∧ size ≤ 100000 ∧ d = .bool true
def R_applied (ds : List PyData) (d : PyData) : Prop := ∃ (t : Tie) (size : Nat), ds = [.int (size : Nat), tieD t] ∧ TieOk size t ∧ size ≤ 100000 ∧ d = .bool true
def R_are_applied (ds : List PyData) (d : PyData) : Prop := ∃ (ts : List Tie) (size : Nat), ds = [.int (size : Nat), .tuple (tiesD ts)] ∧ (∀ t ∈ ts, TieOk size t) ∧ Asc ts ∧ ts.length ≤ 30000 ∧ size ≤ 100000 ∧ d = .bool true
theorem zip_map2 {α β γ : Type} (f : α → γ) : ∀ (l m : List α), (l.map f).zip (m.map f) = (l.zip m).map fun p => (f p.1, f p.2)
  | [], _ => rfl
  | _ :: _, [] => rfl
  | a :: l, b :: m => by simp only [List.map_cons, List.zip_cons_cons, zip_map2 (β := β) f l m]
theorem asc_zip : ∀ {ts : List Tie}, Asc ts → ∀ p ∈ ts.zip (ts.drop 1), DatumOrd.lt p.1 p.2 = true
  | [], _, p, hp => by simp at hp
  | [_], _, p, hp => by simp at hp
  | a :: b :: ts, h, p, hp => by
    rw [List.drop_succ_cons, List.drop_zero, List.zip_cons_cons] at hp
    rcases List.mem_cons.mp hp with rfl | hp
    · exact List.rel_of_pairwise_cons h List.mem_cons_self
    · exact asc_zip (List.Pairwise.of_cons h) p hp
section
variable {P : Program} {w : World} {K : PySem.W.Frag} {mg : Str → Option Value} {base : Heap}
theorem cal_asc (M : Md K mg) : Cal P w K mg base 1 "are_ascending" ["values"] (spD w K R_asc) := M.cal 3 rfl (fun _ _ _ _ _ _ us hl => match us, hl with | [_], _ => rfl) fun f fd F => by
  refine fnD F sc_are_ascending (fun ds d ⟨_, h, _⟩ => by rw [h]; rfl) fun cdv A outer s H E hr ds d h => ?_
  obtain ⟨ts, rfl, h1, h2, rfl⟩ := h
  have hu : A.units + 3 + 64 < cLine := by have := hr.un; exact Nat.lt_of_le_of_lt (by show A.units + 3 + 64 ≤ A.units + 3 + 16 * 0 + 200; omega) this
  have e0 : (((tiesD ts).zip ((tiesD ts).drop 1)).map fun p => PyData.tuple [p.1, p.2]) = (ts.zip (ts.drop 1)).map fun p => PyData.tuple [tieD p.1, tieD p.2] := by
    rw [← List.map_drop, zip_map2 (β := Unit), List.map_map]
    rfl
  refine ds_one (d_ret (de_eq (de_callB (cr_all rfl) rdc_all rfl (M.fr 2) (by decide +kernel) (da_cons (de_mapB (ts.zip (ts.drop 1)) (fun p => .tuple [tieD p.1, tieD p.2]) (fun p => DatumOrd.lt p.1 p.2) _ rfl sc_are_ascending.nd (e0 ▸ di_zipT rfl (M.fr 3) (da_cons (dv 0) (da_cons (de_drop1T (dv 0)) da_nil))) (own := [("one", 1), ("other", 2)]) (blk_of rfl)
      (fun _ _ _ _ _ => pg_tup rfl (pgs_cons (pn 1 sc_are_ascending.nd) (pgs_cons (pn 2 sc_are_ascending.nd) pgs_nil))) (szl ?_) (fun a _ => tg_pair (by decide) (by decide)) (fun _ _ _ _ _ a _ => de_cmp (opD_lt (α := Tie) hu (by decide)) rd_ltD2 (dv 1) (dv 2) (nomark _))) da_nil)) ?_) rfl)
  · rw [List.length_zip]; omega
  · rw [all_true fun p hp => asc_zip h1 p hp]
theorem cal_is_row (M : Md K mg) (c : Cal P w K mg base 2 "is_integer_within" ["value", "low", "high"] (spD w K R_within)) : Cal P w K mg base 3 "is_row" ["value", "size", "places"] (spD w K R_is_row) := M.cal 4 rfl (fun _ _ _ _ _ _ us hl => match us, hl with | [_, _, _], _ => rfl) fun f fd F => by
  refine fnD F sc_is_row (fun ds d ⟨_, _, h, _⟩ => by rw [h]; rfl) fun cdv A outer s H E hr ds d h => ?_
  obtain ⟨r, size, rfl, h1, h2, h3, rfl⟩ := h
  refine ds_then (ρ' := ini n_is_row [rowD r, .int (size : Nat), .int (r.items.length : Nat)]) (d1_ifF (tx_imp (tx_of (DW.dt (dw_or (k := false) (dt_not (k := true) (dt_val (de_isi (d := rowD r) (T := "tuple") (k := true) (dv 0) (plain_row r) kit_tup_tup rfl (M.fr 0) rfl (M.fr 4) (by decide +kernel)))) fun _ => dw_or1 (k := false) (dt_eq (dt_cmp op_ne rd_neI (de_callB call_len_seq rdc_lenT rfl (M.fr 1) PySem.boot_len (da_cons (dv 0) da_nil)) (dv 2) (nomark _)) ?_)))) (fun _ _ h => h)) (ds_nil rfl)) ?_
  · rw [List.length_map, decide_eq_true rfl]
    rfl
  · refine ds_one (d_ret (de_eq (de_callB (cr_all rfl) rdc_all rfl (M.fr 2) (by decide +kernel) (da_cons (de_mapB r.items (fun n => .int (n : Nat)) (fun _ => true) _ rfl sc_is_row.nd (di_tup (dv 0)) (own := [("number", 3)]) (blk_of rfl)
      (fun _ _ _ _ _ => pn 3 sc_is_row.nd) (szl h1) (fun a _ => tg_name (by decide)) (fun _ _ _ _ _ a ha => de_c c hr (da_cons (dv 3) (da_cons de_int (da_cons (de_op op_sub rd_sub (dv 1) de_int) da_nil))) ⟨_, _, _, rfl, by omega, by have := h3 a ha; omega, by omega, by have := h3 a ha; omega, rfl⟩)) da_nil)) ?_) rfl)
    rw [all_true fun _ _ => rfl]
theorem cal_is_row_of (M : Md K mg) (c : Cal P w K mg base 3 "is_row" ["value", "size", "places"] (spD w K R_is_row)) : Cal P w K mg base 4 "is_row_of" ["value", "size", "most"] (spD w K R_is_row_of) := M.cal 5 rfl (fun _ _ _ _ _ _ us hl => match us, hl with | [_, _, _], _ => rfl) fun f fd F => by
  refine fnD F sc_is_row_of (fun ds d ⟨_, _, h, _⟩ => by rw [h]; rfl) fun cdv A outer s H E hr ds d h => ?_
  obtain ⟨r, size, rfl, ⟨h1, h2, h3⟩, h4, rfl⟩ := h
  refine ds_one (d_ret (de_eq (de_and (de_isi (d := rowD r) (T := "tuple") (k := true) (dv 0) (plain_row r) kit_tup_tup rfl (M.fr 0) rfl (M.fr 4) (by decide +kernel)) fun _ => de_and (de_chain op_le op_le rd_le (fun _ => rd_le) de_int (de_callB call_len_seq rdc_lenT rfl (M.fr 1) PySem.boot_len (da_cons (dv 0) da_nil)) (dv 2)) fun _ => de_one (de_c c hr (da_cons (dv 0) (da_cons (dv 1) (da_cons (de_callB call_len_seq rdc_lenT rfl (M.fr 1) PySem.boot_len (da_cons (dv 0) da_nil)) da_nil))) ⟨r, size, by rw [List.length_map], by omega, h4, h3, rfl⟩)) ?_) rfl)
  rw [List.length_map, decide_eq_true (show (1 : Int) ≤ (r.items.length : Nat) by omega), decide_eq_true (show ((r.items.length : Nat) : Int) ≤ 3 by omega)]
  rfl
theorem cal_applied (M : Md K mg) (c1 : Cal P w K mg base 1 "is_name" ["value"] (spD w K R_is_name)) (c2 : Cal P w K mg base 4 "is_row_of" ["value", "size", "most"] (spD w K R_is_row_of)) : Cal P w K mg base 5 "is_applied_of" ["size", "value"] (spD w K R_applied) := M.cal 6 rfl (fun _ _ _ _ _ _ us hl => match us, hl with | [_, _], _ => rfl) fun f fd F => by
  refine fnD F sc_is_applied_of (fun ds d ⟨_, _, h, _⟩ => by rw [h]; rfl) fun cdv A outer s H E hr ds d h => ?_
  obtain ⟨t, size, rfl, ⟨h1, h2⟩, h3, rfl⟩ := h
  obtain ⟨tk, ht⟩ := M.iPlaces
  refine ds_then (ρ' := ini n_is_applied_of [.int (size : Nat), tieD t]) (d1_ifF (tx_imp (tx_of (DW.dt (dw_or (k := false) (dt_not (k := true) (dt_val (de_isi (d := tieD t) (T := "tuple") (k := true) (dv 1) (plain_tie t) kit_tup_tup rfl (M.fr 0) rfl (M.fr 4) (by decide +kernel)))) fun _ => dw_or1 (k := false) (dt_cmp op_ne rd_neI (de_callB call_len_seq rdc_lenT rfl (M.fr 1) PySem.boot_len (da_cons (dv 1) da_nil)) de_int (nomark _))))) (fun _ _ h => h)) (ds_nil rfl)) ?_
  refine ds_one (d_ret (de_and (k := true) (l := true) (de_c c1 (hr.mono (by decide)) (da_cons (de_ix ix_tup (rd_ixT (i := 0) rfl) (dv 1) de_int (fun _ _ => rfl)) da_nil) ⟨t.1, rfl, h1, rfl⟩) fun _ => de_one (de_c c2 hr (da_cons (de_ix ix_tup (rd_ixT (i := 1) rfl) (dv 1) de_int (fun _ _ => rfl)) (da_cons (dv 0) (da_cons (de_gint rfl ht) da_nil))) ⟨t.2, size, rfl, h2, h3, rfl⟩)) rfl)
theorem cal_are_applied (M : Md K mg) (c1 : Cal P w K mg base 5 "is_applied_of" ["size", "value"] (spD w K R_applied)) (c2 : Cal P w K mg base 1 "are_ascending" ["values"] (spD w K R_asc)) : Cal P w K mg base 6 "are_applied_of" ["size", "value"] (spD w K R_are_applied) := M.cal 7 rfl (fun _ _ _ _ _ _ us hl => match us, hl with | [_, _], _ => rfl) fun f fd F => by
  refine fnD F sc_are_applied_of (fun ds d ⟨_, _, h, _⟩ => by rw [h]; rfl) fun cdv A outer s H E hr ds d h => ?_
  obtain ⟨ts, size, rfl, h1, h2, h3, h4, rfl⟩ := h
  obtain ⟨tk, ht⟩ := M.iApplied
  refine ds_then (ρ' := ini n_are_applied_of [.int (size : Nat), .tuple (tiesD ts)]) (d1_ifF (tx_imp (tx_of (DW.dt (dw_or (k := false) (dt_not (k := true) (dt_val (de_isi (d := .tuple (tiesD ts)) (T := "tuple") (k := true) (dv 1) (plain_ties ts) kit_tup_tup rfl (M.fr 0) rfl (M.fr 4) (by decide +kernel)))) fun _ => dw_or1 (k := false) (dt_eq (dt_cmp op_gt rd_gt (de_callB call_len_seq rdc_lenT rfl (M.fr 1) PySem.boot_len (da_cons (dv 1) da_nil)) (de_gint rfl ht) (nomark _)) ?_)))) (fun _ _ h => h)) (ds_nil rfl)) ?_
  · rw [List.length_map]
    exact decide_eq_false (by omega)
  · refine ds_one (d_ret (de_eq (de_and (de_callB (cr_all rfl) rdc_all rfl (M.fr 2) (by decide +kernel) (da_cons (de_mapB ts tieD (fun _ => true) _ rfl sc_are_applied_of.nd (di_tup (dv 1)) (own := [("tie", 2)]) (blk_of rfl)
      (fun _ _ _ _ _ => pn 2 sc_are_applied_of.nd) (szl (by omega)) (fun a _ => tg_name (by decide)) (fun _ _ _ _ _ a ha => de_c c1 hr (da_cons (dv 0) (da_cons (dv 2) da_nil)) ⟨a, size, rfl, h1 a ha, h4, rfl⟩)) da_nil)) fun _ => de_one (de_c c2 (hr.mono (by decide)) (da_cons (dv 1) da_nil) ⟨ts, rfl, h2, by omega, rfl⟩)) ?_) rfl)
    rw [all_true fun _ _ => rfl]
    rfl
end
end K64

/-! ## W5 -/
/-! joined, Net, require_net, require_unknowns, made_net, is_net. -/
namespace K64
open PySem PySem.Spec PyProof.Rows L2 PySem.W
theorem hu64 {k : Nat} {A : Around} (hr : Room k A) : A.units + 64 < cLine := by have := hr.un; omega
theorem hu9 {k : Nat} {A : Around} (hr : Room k A) : A.units + 9 < cLine := by have := hr.un; omega
theorem hu1 {k : Nat} {A : Around} (hr : Room k A) : A.units + 1 < cLine := by have := hr.un; omega
/-- a plain net -/
abbrev pnD (n : Nat) (ts : List Tie) : PyData := .dict [(.str "size", .int (n : Nat)), (.str "ties", .tuple (tiesD ts))]
def NetOk (n : Nat) (ts : List Tie) : Prop := n ≤ 60 ∧ (∀ t ∈ ts, TieOk n t) ∧ Asc ts ∧ ts.length ≤ 30000
theorem lookD_head {x : Str} {d : PyData} {ds : List (PyData × PyData)} : lookD ((.str x, d) :: ds) (.inr x) = some d := by
  unfold lookD
  rw [List.find?_cons_of_pos (by simp)]
  rfl
theorem lookD_tail {x y : Str} {d : PyData} {ds : List (PyData × PyData)} (h : x ≠ y) : lookD ((.str x, d) :: ds) (.inr y) = lookD ds (.inr y) := by
  unfold lookD
  rw [List.find?_cons_of_neg (by simpa using h)]
theorem ne_size_ties : ("size" : Str) ≠ "ties" := by decide +kernel
theorem putF_len (f : Str) (v : V) : ∀ fs : List (Str × V), (putF f v fs).length ≤ fs.length + 1
  | [] => Nat.le_refl _
  | (g, x) :: r => by
    unfold putF
    split
    · rw [List.length_cons, List.length_cons]; omega
    · rw [List.length_cons, List.length_cons]; have := putF_len f v r; omega
theorem de_key {X : Cx} {ρ : Env} {a : Expr} {x : Str} {d : PyData} {x0 : Str} {d0 : PyData} {ds : List (PyData × PyData)} {k : Nat} {p1 p2 : Pos} (hu : X.A.units + 1 < cLine) (ha : DE X a ρ (.dict ((.str x0, d0) :: ds))) (hl : lookD ((.str x0, d0) :: ds) (.inr x) = some d) : DE X (.Subscript a (.Constant (.str x) k p1) p2) ρ d :=
  de_dget (kd := .none) (k := .inr x) hu ha de_str hl dk_of_str (fun _ _ => rfl)
theorem pn_size {X : Cx} {ρ : Env} {a : Expr} {n : Nat} {ts : List Tie} {k : Nat} {p1 p2 : Pos} (hu : X.A.units + 1 < cLine) (ha : DE X a ρ (pnD n ts)) : DE X (.Subscript a (.Constant (.str "size") k p1) p2) ρ (.int (n : Nat)) := de_key hu ha lookD_head
theorem pn_ties {X : Cx} {ρ : Env} {a : Expr} {n : Nat} {ts : List Tie} {k : Nat} {p1 p2 : Pos} (hu : X.A.units + 1 < cLine) (ha : DE X a ρ (pnD n ts)) : DE X (.Subscript a (.Constant (.str "ties") k p1) p2) ρ (.tuple (tiesD ts)) := de_key hu ha (by rw [lookD_tail ne_size_ties]; exact lookD_head)
theorem sort_ties (ts : List Tie) : SortOk (ts.map Datum.toD) := .inl (Sortable.tuples fun t => ⟨_, _, rfl⟩)
def R_joined (ds : List PyData) (d : PyData) : Prop := ∃ ts : List Tie, ds = [.list (tiesD ts)] ∧ ts.length ≤ 100000 ∧ d = .tuple (tiesD (sset ts))
def R_size (ds : List PyData) (d : PyData) : Prop := ∃ (n : Int) (ties : List PyData), ds = [netD n ties] ∧ d = .int n
def R_ties (ds : List PyData) (d : PyData) : Prop := ∃ (n : Int) (ties : List PyData), ds = [netD n ties] ∧ d = .tuple ties
def R_reqNet (ds : List PyData) (d : PyData) : Prop := ∃ (n : Int) (ties : List PyData), ds = [netD n ties] ∧ d = .none
def R_reqUnk (ds : List PyData) (d : PyData) : Prop := ∃ (n : Nat) (ties : List PyData) (r : Row), ds = [netD (n : Nat) ties, rowD r] ∧ RowOk n r ∧ n ≤ 100000 ∧ d = .none
def R_made (ds : List PyData) (d : PyData) : Prop := ∃ (n : Nat) (ts : List Tie), ds = [pnD n ts] ∧ NetOk n ts ∧ d = netD (n : Nat) (tiesD ts)
theorem raise_no {X : Cx} {sts : List Stmt} : PSs X sts (fun _ _ _ => False) := ⟨fun _ _ _ _ _ _ h => h.elim⟩
section
variable {P : Program} {w : World} {K : PySem.W.Frag} {mg : Str → Option Value} {base : Heap}
theorem cal_joined (M : Md K mg) : Cal P w K mg base 1 "joined" ["ties"] (spD w K R_joined) := M.cal 8 rfl (fun _ _ _ _ _ _ us hl => match us, hl with | [_], _ => rfl) fun f fd F => by
  refine fnD F sc_joined (fun ds d ⟨_, h, _⟩ => by rw [h]; rfl) fun cdv A outer s H E hr ds d h => ?_
  obtain ⟨ts, rfl, h1, rfl⟩ := h
  have hk : KeysAre (dcD tieD (fun _ => .bool true) ts []) (addKs [] ts) := keys_dcD (α := Tie) (fun _ => .bool true) ts rfl
  have e : srt (addKs [] ts) = sset ts := sset_eq (addKs_nodup ts List.nodup_nil) fun a => by rw [addKs_mem]; simp
  refine ds_one (d_ret (de_callTy call_tuple_of rdc_tupleL rfl (M.fr 4) (by decide +kernel) (da_cons (de_eq (de_callB (crD_sorted (α := Tie) (hu64 hr) (by decide)) (rdc_sorted (bs := addKs [] ts) (sort_ties _) (szl (by have := addKs_len ts []; simp at this; omega))) rfl (M.fr 5) (by decide +kernel) (da_cons (de_eq (de_listO rfl (do_dcN ts tieD tieD (fun _ => .bool true) _ rfl (hu9 hr) sc_joined.nd (di_list (dv 0)) (own := [("tie", 1)]) (blk_of rfl)
    (fun _ _ _ _ _ => pn 1 sc_joined.nd) (szl' (by omega)) (fun a _ => tg_name (by decide)) (fun _ _ _ _ _ a _ => dv 1) (fun _ _ _ _ _ a _ => de_bl) (fun a _ => ⟨_, _, rfl, KeyD.key a, KeyD.dep a⟩)) (M.fr 6)) (by rw [hk])) da_nil)) (by rw [e]; rfl)) da_nil)) rfl)
theorem ok_size (M : Md K mg) {f : Addr} {fd : FuncData} (F : Fun K "size" "Net.size" s_Net_size f fd) : FnOk P w K mg base CX0 1 f fd ["self"] (spD w K R_size) := by
  refine fnD F sc_Net_size (fun ds d ⟨_, _, h, _⟩ => by rw [h]; rfl) fun cdv A outer s H E hr ds d h => ?_
  obtain ⟨n, ties, rfl, rfl⟩ := h
  exact ds_one (d_ret (de_ownSize M.nk (dv 0)) rfl)
theorem ok_ties (M : Md K mg) {f : Addr} {fd : FuncData} (F : Fun K "ties" "Net.ties" s_Net_ties f fd) : FnOk P w K mg base CX0 1 f fd ["self"] (spD w K R_ties) := by
  refine fnD F sc_Net_ties (fun ds d ⟨_, _, h, _⟩ => by rw [h]; rfl) fun cdv A outer s H E hr ds d h => ?_
  obtain ⟨n, ties, rfl, rfl⟩ := h
  exact ds_one (d_ret (de_ownTies M.nk (dv 0)) rfl)
theorem cal_reqNet (M : Md K mg) : Cal P w K mg base 1 "require_net" ["value"] (spD w K R_reqNet) := M.cal 9 rfl (fun _ _ _ _ _ _ us hl => match us, hl with | [_], _ => rfl) fun f fd F => by
  refine fnD F sc_require_net (fun ds d ⟨_, _, h, _⟩ => by rw [h]; rfl) fun cdv A outer s H E hr ds d h => ?_
  obtain ⟨n, ties, rfl, rfl⟩ := h
  exact ds_one (d1_ifF (tx_imp (tx_of (dt_not (k := true) (dt_val (de_isNet M.nk (dv 0) rfl (M.fr 0) rfl M.net)))) (fun _ _ h => h)) (ds_nil rfl))
theorem cal_reqUnk (M : Md K mg) (c : Cal P w K mg base 4 "is_row_of" ["value", "size", "most"] (spD w K R_is_row_of)) : Cal P w K mg base 5 "require_unknowns" ["net", "value"] (spD w K R_reqUnk) := M.cal 10 rfl (fun _ _ _ _ _ _ us hl => match us, hl with | [_, _], _ => rfl) fun f fd F => by
  refine fnD F sc_require_unknowns (fun ds d ⟨_, _, _, h, _⟩ => by rw [h]; rfl) fun cdv A outer s H E hr ds d h => ?_
  obtain ⟨n, ties, r, rfl, h1, h2, rfl⟩ := h
  obtain ⟨tk, ht⟩ := M.iPlaces
  exact ds_one (d1_ifF (tx_imp (tx_of (dt_not (k := true) (dt_val (de_c c hr (da_cons (dv 1) (da_cons (de_ownSize M.nk (dv 0)) (da_cons (de_gint rfl ht) da_nil))) ⟨r, n, rfl, h1, h2, rfl⟩)))) (fun _ _ h => h)) (ds_nil rfl))
/-- what __init__ promises -/
def CalI (P : Program) (w : World) (K : PySem.W.Frag) (mg : Str → Option Value) (base : Heap) : Prop := ∃ fd, FnOk P w K mg base CX0 7 (He.ma K (netC K) "__init__") fd ["self", "size", "ties"] (spInit w K fun n ties => ∃ (m : Nat) (ts : List Tie), n = (m : Nat) ∧ ties = tiesD ts ∧ NetOk m ts) ∧ Binds K fd ["self", "size", "ties"] []
theorem cal_made (M : Md K mg) (c : CalI P w K mg base) : Cal P w K mg base 9 "_law_made_net" ["_law_net_here"] (spD w K R_made) := M.cal 33 rfl (fun _ _ _ _ _ _ us hl => match us, hl with | [_], _ => rfl) fun f fd F => by
  refine fnD F sc_made_net (fun ds d ⟨_, _, h, _⟩ => by rw [h]; rfl) fun cdv A outer s H E hr ds d h => ?_
  obtain ⟨n, ts, rfl, h1, rfl⟩ := h
  obtain ⟨fdI, cI, hb⟩ := c
  exact ds_one (d_ret (de_make M.mkr cI hr rfl M.net hb (da_cons (pn_size (hu1 hr) (dv 0)) (da_cons (pn_ties (hu1 hr) (dv 0)) da_nil)) ⟨n, ts, rfl, rfl, h1⟩ pass0) rfl)
theorem cal_init (M : Md K mg) (c1 : Cal P w K mg base 2 "is_integer_within" ["value", "low", "high"] (spD w K R_within)) (c2 : Cal P w K mg base 6 "are_applied_of" ["size", "value"] (spD w K R_are_applied)) : CalI P w K mg base := by
  obtain ⟨fd, F⟩ := M.init
  refine ⟨fd, ?_, F.binds fun _ _ _ _ _ _ us hl => match us, hl with | [_, _, _], _ => rfl⟩
  obtain ⟨tk, ht⟩ := M.iUnknowns
  refine F.ok sc_Net_init (fun vs H Q E ⟨_, _, _, _, _, _, h, _⟩ => by rw [h]; rfl) fun cdv A outer s H vs Q E hr ⟨G, x, dx, n, ties, v, e, sg, gx, hx, dv', ⟨m, ts, e1, e2, h1, h2, h3, h4⟩, q⟩ => ?_
  subst e e1 e2
  let X := cxN P w K mg base n_Net_init "Net.__init__" s_Net_init (He.ma K (netC K) "__init__") cdv A outer s H E
  let ρ0 : Env := [none, some (.int (m : Nat)), some (.tuple (tiesD ts)), none]
  refine ⟨_, pss_cons (ps_if (X := X) (dt_not (k := true) (dt_val (ρ := ρ0) (de_c c1 (hr.mono (by decide)) (da_cons (dv 1) (da_cons de_int (da_cons (de_gint rfl ht) da_nil))) ⟨_, _, _, rfl, by omega, by omega, by omega, by omega, rfl⟩))) raise_no pss_nil)
    (pss_cons (ps_if (X := X) (dt_not (k := true) (dt_val (ρ := ρ0) (de_c c2 hr (da_cons (dv 1) (da_cons (dv 2) da_nil)) ⟨ts, m, rfl, h2, h3, h4, by omega, rfl⟩))) raise_no pss_nil)
    (pss_cons (ps_fld (pv 0) (pv 1) rfl) (pss_cons (ps_fld (pv 0) (pv 2) rfl) (pss_one (ps_fld (pv 0) (do_dcN (X := X) ts tieD tieD (fun _ => .bool true) _ rfl (hu9 hr) sc_Net_init.nd (di_tup (ρ := ρ0) (dv 2)) (own := [("tie", 3)]) (blk_of rfl)
      (fun _ _ _ _ _ => pn 3 sc_Net_init.nd) (szl' (by omega)) (fun a _ => tg_name (by decide)) (fun _ _ _ _ _ a _ => dv 3) (fun _ _ _ _ _ a _ => de_bl) (fun a _ => ⟨_, _, rfl, KeyD.key a, KeyD.dep a⟩)) rfl))))), ?_⟩
  have env0 : EnvD w K G (L2.start n_Net_init [.ref x, .int (m : Nat), v]) ρ0 := ⟨.int _, dv', trivial⟩
  refine ⟨G, sg, env0, fun G1 H1 g1 => iteF ⟨G1, g1.s, env0.mono g1.g, fun G2 H2 g2 => iteF ?_⟩⟩
  have g12 := g1.trans g2
  have hx2 : H2 x = some (.ins (netC K) dx []) := g12.h _ _ hx
  have gx2 : G2 x = none := g12.n x gx (by rw [hx]; exact fun z => nomatch z)
  refine ⟨.int (m : Nat), rfl, .ref x, rfl, x, netC K, dx, [], rfl, hx2, M.nk.cls, M.nk.size, by decide, ?_⟩
  refine ⟨v, rfl, .ref x, rfl, x, netC K, dx, _, rfl, upd_same, M.nk.cls, M.nk.ties, Nat.lt_of_le_of_lt (putF_len _ _ _) (by decide), ?_⟩
  refine ⟨G2, same_mut (same_mut g12.s gx2) gx2, env0.mono g12.g, fun p b G' H' g h5 h6 h7 h8 => ?_⟩
  refine ⟨.ref x, rfl, x, netC K, dx, _, rfl, g.h _ _ upd_same, M.nk.cls, M.nk.known, Nat.lt_of_le_of_lt (Nat.le_trans (putF_len _ _ _) (Nat.succ_le_succ (putF_len _ _ _))) (by decide), ?_⟩
  refine q (.ref p) _ (fun a o na e => ?_) ?_
  · rw [upd_ne na]
    refine g.h _ _ ?_
    rw [upd_ne na, upd_ne na]
    exact g12.h _ _ e
  · rw [upd_same]
    rfl
end
end K64

/-! ## W9 -/
/-! sets_of, all_rows, all_tuples, places_of. -/
namespace K64
open PySem PySem.Spec PyProof.Rows L2 PySem.W
abbrev rowsD (rs : List Row) : List PyData := rs.map rowD
def snocR (r : Row) (a : Nat) : Row := ⟨r.items ++ [a]⟩
theorem rowD_snoc (r : Row) (a : Nat) : PyData.tuple ((r.items.map fun n => PyData.int (n : Nat)) ++ [.int (a : Nat)]) = rowD (snocR r a) := by
  show _ = PyData.tuple ((r.items ++ [a]).map _)
  rw [List.map_append]
  rfl
/-- all sets, the empty one too -/
def subsL : Nat → List Row
  | 0 => [⟨[]⟩]
  | k + 1 => subsL k ++ (subsL k).map fun r => snocR r k
theorem subsL_len : ∀ k, (subsL k).length = 2 ^ k
  | 0 => rfl
  | k + 1 => by rw [subsL, List.length_append, List.length_map, subsL_len k, Nat.pow_succ]; omega
theorem subsL_row : ∀ (k : Nat) (r : Row), r ∈ subsL k → r.items.length ≤ k
  | 0, r, h => by
    rw [subsL, List.mem_singleton] at h
    rw [h]; exact Nat.le_refl _
  | k + 1, r, h => by
    rw [subsL] at h
    rcases List.mem_append.mp h with h | h
    · exact Nat.le_succ_of_le (subsL_row k r h)
    · obtain ⟨q, hq, rfl⟩ := List.mem_map.mp h
      have := subsL_row k q hq
      show (q.items ++ [k]).length ≤ k + 1
      rw [List.length_append]
      exact Nat.succ_le_succ this
theorem subsL_head : ∀ k, ∃ rest, subsL k = ⟨[]⟩ :: rest
  | 0 => ⟨[], rfl⟩
  | k + 1 => by
    obtain ⟨rest, e⟩ := subsL_head k
    exact ⟨rest ++ (subsL k).map fun r => snocR r k, by rw [subsL]; conv => lhs; arg 1; rw [e]
                                                        rfl⟩
def setsOf (size : Nat) : List Row := (srt (subsL size)).drop 1
def R_sets (ds : List PyData) (d : PyData) : Prop := ∃ size : Nat, ds = [.int (size : Nat)] ∧ size ≤ 4 ∧ d = .list (rowsD (setsOf size))
theorem pow4 {k : Nat} (h : k ≤ 4) : 2 ^ k ≤ 16 := Nat.pow_le_pow_right (by decide) h
section
variable {P : Program} {w : World} {K : PySem.W.Frag} {mg : Str → Option Value} {base : Heap}
theorem cal_sets_of (M : Md K mg) : Cal P w K mg base 1 "_law_sets_of" ["_law_size"] (spD w K R_sets) := M.cal 23 rfl (fun _ _ _ _ _ _ us hl => match us, hl with | [_], _ => rfl) fun f fd F => by
  refine fnD F sc_sets_of (fun ds d ⟨_, h, _⟩ => by rw [h]; rfl) fun cdv A outer s H E hr ds d h => ?_
  obtain ⟨size, rfl, h1, rfl⟩ := h
  refine ds_then (d_let 1 (d := .list (rowsD (subsL 0))) sc_sets_of.nd (de_lst (da_cons (de_tup da_nil (by decide)) da_nil) (by decide))) ?_
  refine ds_for (List.range size) (fun (i : Nat) => .int (i : Nat)) (fun k => [.dat (.int (size : Nat)), .dat (.list (rowsD (subsL k))), .non, .non]) PassesOwn.never rfl (di_range rfl (M.fr 9) (da_cons (dv 0) da_nil) (by omega)) (pn 2 sc_sets_of.nd) (fun i a ha => ?_) ?_
  · have hi := List.getElem?_eq_some_iff.mp ha
    have ea : a = i := by rw [← hi.2]; simp
    subst ea
    have hlt : a < size := by have := hi.1; simpa using this
    have hp := pow4 (k := a + 1) (by omega)
    have hl1 := subsL_len (a + 1)
    have hl0 := subsL_len a
    refine ⟨_, tgs_name, ?_⟩
    have e0 : rowsD (subsL a) ++ (subsL a).map (fun r => rowD (snocR r a)) = rowsD (subsL (a + 1)) := by
      show _ = List.map rowD (subsL a ++ (subsL a).map fun r => snocR r a)
      rw [List.map_append, List.map_map]
      rfl
    refine ds_imp (ds_one (d_let 1 (d := .list (rowsD (subsL (a + 1)))) sc_sets_of.nd (de_eq (de_op op_cat (rd_catL (szl ?_)) (dv 1) (de_map (subsL a) rowD (fun r => rowD (snocR r a)) _ rfl sc_sets_of.nd (di_list (dv 1)) (own := [("_law_some", 3)]) (blk_of rfl)
      (fun _ _ _ _ _ => pn 3 sc_sets_of.nd) (szl ?_) (fun a _ => tg_name (by decide)) (fun _ _ _ _ _ r hr' => de_eq (de_op op_catA (rd_catT (szl ?_)) (dv 3) (de_tup (da_cons (dv 2) da_nil) (show 1 ≤ sizeLine by decide))) (rowD_snoc r a)))) (by rw [e0])))) (fun r h => by rw [h]; exact .same (.same (.non (.same .nil)))) fun _ _ h => h
    · rw [List.length_map, List.length_map]
      have : 2 ^ (a + 1) = 2 * 2 ^ a := by rw [Nat.pow_succ]; omega
      omega
    · have : 2 ^ (a + 1) = 2 * 2 ^ a := by rw [Nat.pow_succ]; omega
      omega
    · have := subsL_row a r hr'
      rw [List.length_map]
      show r.items.length + 1 ≤ 100000
      omega
  · rw [List.length_range]
    have hp := pow4 h1
    have hl := subsL_len size
    obtain ⟨rest, hh⟩ := subsL_head size
    refine ds_one (d_ret (de_eq (de_drop1L (de_callB (crD_sorted (α := Row) (hu64 hr) (by decide)) (rdc_sorted (bs := subsL size) (.inr ⟨rest.map Datum.toD, by rw [hh]; rfl, fun d hd => ?_⟩) (szl (by omega))) rfl (M.fr 5) (by decide +kernel) (da_cons (dv 1) da_nil))) ?_) rfl)
    · obtain ⟨r, _, rfl⟩ := List.mem_map.mp hd
      exact ⟨_, rfl⟩
    · unfold setsOf
      rw [rowsD, List.map_drop]
      rfl
theorem cal_all_rows (M : Md K mg) : Cal P w K mg base 1 "_law_all_rows" ["_law_size", "_law_places"] (spD w K R_all_rows) := M.cal 24 rfl (fun _ _ _ _ _ _ us hl => match us, hl with | [_, _], _ => rfl) fun f fd F => ok_all_rows F (M.fr 9) (M.fr 6)
end
/-- all tuples of items -/
def allTup (its : List Row) : Nat → List (Tup Row)
  | 0 => [⟨[]⟩]
  | k + 1 => (allTup its k).flatMap fun l => its.map fun r => ⟨l.items ++ [r]⟩
abbrev tupD (l : Tup Row) : PyData := .tuple (rowsD l.items)
theorem allTup_len (its : List Row) : ∀ k, (allTup its k).length = its.length ^ k
  | 0 => rfl
  | k + 1 => by
    rw [allTup, List.length_flatMap]
    simp only [List.length_map, List.map_const', List.sum_replicate_nat, allTup_len its k]
    rw [Nat.pow_succ]
theorem allTup_row (its : List Row) : ∀ (k : Nat) (l : Tup Row), l ∈ allTup its k → l.items.length = k
  | 0, l, h => by
    rw [allTup, List.mem_singleton] at h
    rw [h]; rfl
  | k + 1, l, h => by
    rw [allTup] at h
    obtain ⟨q, h1, h2⟩ := List.mem_flatMap.mp h
    obtain ⟨v, _, rfl⟩ := List.mem_map.mp h2
    show (q.items ++ [v]).length = k + 1
    rw [List.length_append, allTup_row its k q h1]; rfl
theorem tupD_snoc (l : Tup Row) (r : Row) : PyData.tuple (rowsD l.items ++ [rowD r]) = tupD ⟨l.items ++ [r]⟩ := by
  show _ = PyData.tuple (List.map rowD (l.items ++ [r]))
  rw [List.map_append]
  rfl
def R_allTup (ds : List PyData) (d : PyData) : Prop := ∃ (its : List Row) (places : Nat), ds = [.list (rowsD its), .int (places : Nat)] ∧ its.length ≤ 20 ∧ places ≤ 3 ∧ d = .list ((allTup its places).map tupD)
/-- what stands at a place, sorted -/
def placesL (rs : List Row) (at_ : Nat) : List Nat := sset (rs.map fun r => r.items.getD at_ 0)
def R_placesOf (ds : List PyData) (d : PyData) : Prop := ∃ (rs : List Row) (at_ : Nat), ds = [.list (rowsD rs), .int (at_ : Nat)] ∧ rs.length < 64 ∧ (∀ r ∈ rs, at_ < r.items.length) ∧ d = rowD ⟨placesL rs at_⟩
theorem pow20 {n k : Nat} (hn : n ≤ 20) (hk : k ≤ 3) : n ^ k ≤ 8000 := Nat.le_trans (Nat.pow_le_pow_left hn k) (Nat.le_trans (Nat.pow_le_pow_right (by decide) hk) (by decide))
section
variable {P : Program} {w : World} {K : PySem.W.Frag} {mg : Str → Option Value} {base : Heap}
theorem cal_all_tuples (M : Md K mg) : Cal P w K mg base 1 "_law_all_tuples" ["_law_items", "_law_places"] (spD w K R_allTup) := M.cal 28 rfl (fun _ _ _ _ _ _ us hl => match us, hl with | [_, _], _ => rfl) fun f fd F => by
  refine fnD F sc_all_tuples (fun ds d ⟨_, _, h, _⟩ => by rw [h]; rfl) fun cdv A outer s H E hr ds d h => ?_
  obtain ⟨its, places, rfl, hs1, hp1, rfl⟩ := h
  refine ds_then (d_let 2 (d := .list ((allTup its 0).map tupD)) sc_all_tuples.nd (de_lst (da_cons (de_tup da_nil (by decide)) da_nil) (show 1 ≤ sizeLine by decide))) ?_
  refine ds_for (List.range places) (fun (i : Nat) => .int (i : Nat)) (fun k => [.dat (.list (rowsD its)), .dat (.int (places : Nat)), .dat (.list ((allTup its k).map tupD)), .non, .non, .non, .non]) PassesOwn.never rfl (di_range rfl (M.fr 9) (da_cons (dv 1) da_nil) (by omega)) (pn 3 sc_all_tuples.nd) (fun i a ha => ?_) ?_
  · have hi : i < places := by have := (List.getElem?_eq_some_iff.mp ha).1; simpa using this
    refine ⟨_, tgs_name, ?_⟩
    refine ds_then (d_own 4 sc_all_tuples.nd do_nilL) ?_
    refine ds_for (allTup its i) tupD (fun j => [.dat (.list (rowsD its)), .dat (.int (places : Nat)), .dat (.list ((allTup its i).map tupD)), .non, .ownL ((((allTup its i).take j).flatMap fun l => its.map fun r => (⟨l.items ++ [r]⟩ : Tup Row)).map tupD), .non, .non]) PassesOwn.never rfl
      (di_list (de_callTy call_list_of rdc_listL rfl (M.fr 6) (by decide +kernel) (da_cons (dv 2) da_nil))) (pn 5 sc_all_tuples.nd) (fun j l hl => ?_) ?_
    · have hj : j < (allTup its i).length := (List.getElem?_eq_some_iff.mp hl).1
      have hlr := allTup_row its i l (List.mem_of_getElem? hl)
      refine ⟨_, tgs_name, ds_one (d1_ext (pv 4) rfl (ex_of (de_map its rowD (fun r => tupD ⟨l.items ++ [r]⟩) _ rfl sc_all_tuples.nd (di_list (dv 0)) (own := [("_law_item", 6)]) (blk_of rfl)
        (fun _ _ _ _ _ => pn 6 sc_all_tuples.nd) (szl (by omega)) (fun a _ => tg_name (by decide)) (fun _ _ _ _ _ a _ => de_eq (de_op op_catA (rd_catT (szl (by rw [List.length_map, hlr]; show i + 1 ≤ _; omega))) (dv 5) (de_tup (da_cons (dv 6) da_nil) (by show 1 ≤ sizeLine; decide))) (tupD_snoc l a)))) (fun d r' h => ?_))⟩
      obtain ⟨rfl, rfl⟩ := h
      have ht := take_flat (f := fun l : Tup Row => its.map fun r => (⟨l.items ++ [r]⟩ : Tup Row)) hl
      refine ⟨_, _, rfl, rfl, ?_, ?_⟩
      · have h1 := take_flat_len (allTup its i) (fun l : Tup Row => its.map fun r => (⟨l.items ++ [r]⟩ : Tup Row)) (j + 1)
        rw [ht, List.length_append, List.length_map] at h1
        rw [List.length_map, List.length_map]
        exact szl (Nat.le_trans h1 (Nat.le_trans (show ((allTup its (i + 1)).length ≤ 8000) by rw [allTup_len]; exact pow20 hs1 (by omega)) (by decide)))
      · rw [ht, List.map_append, List.map_map]
        exact .same (.same (.same (.non (.same (.non (.non .nil))))))
    · rw [List.take_length]
      refine ds_frz (i := 4) rfl rfl rfl ?_
      exact ds_imp (ds_one (d_let 2 sc_all_tuples.nd (dv 4))) (fun r h => by rw [h]; exact .same (.same (.same (.non (.non (.non (.non .nil))))))) fun _ _ h => h
  · rw [List.length_range]
    exact ds_one (d_ret (dv 2) rfl)
theorem cal_places_of (M : Md K mg) : Cal P w K mg base 1 "_law_places_of" ["_law_rows", "_law_at"] (spD w K R_placesOf) := M.cal 26 rfl (fun _ _ _ _ _ _ us hl => match us, hl with | [_, _], _ => rfl) fun f fd F => by
  refine fnD F sc_places_of (fun ds d ⟨_, _, h, _⟩ => by rw [h]; rfl) fun cdv A outer s H E hr ds d h => ?_
  obtain ⟨rs, at_, rfl, h1, h2, rfl⟩ := h
  refine ds_one (d_ret (de_callTy call_tuple_of rdc_tupleL rfl (M.fr 4) (by decide +kernel) (da_cons (de_ssetI (bs := rs.map fun r => r.items.getD at_ 0) rfl rfl (M.fr 5) rfl (M.fr 7) (de_eq (de_map rs rowD (fun r => .int (r.items.getD at_ 0 : Nat)) _ rfl sc_places_of.nd (di_list (dv 0)) (own := [("_law_row", 2)]) (blk_of rfl)
    (fun _ _ _ _ _ => pn 2 sc_places_of.nd) (szl (by omega)) (fun a _ => tg_name (by decide)) (fun _ _ _ _ _ r hr' => de_ix ix_tup (rd_ixT (atI_nat ?_)) (dv 2) (dv 1) (fun _ _ => rfl))) ?_) (by rw [List.length_map]; exact h1)) da_nil)) rfl)
  · have hl := h2 r hr'
    rw [List.getElem?_map, List.getElem?_eq_getElem hl, List.getD_eq_getElem?_getD, List.getElem?_eq_getElem hl]
    rfl
  · rw [List.map_map]
    rfl
end
end K64

/-! ## W11 -/
/-! Records; with; books. -/
namespace K64
open PySem PySem.Spec PyProof.Rows L2 PySem.W
/-- a record: texts to data -/
abbrev strD (l : List (Str × PyData)) : List (PyData × PyData) := l.map fun p => (.str p.1, p.2)
theorem strD_cons (p : Str × PyData) (l : List (Str × PyData)) : strD (p :: l) = (.str p.1, p.2) :: strD l := rfl
theorem strD_app (l m : List (Str × PyData)) : strD (l ++ m) = strD l ++ strD m := List.map_append
theorem key_str {x y : Str} : (keyOf (.str x) = keyOf (keyD (.inr y))) ↔ x = y := by
  show (some (NestedKey.text x) = some (NestedKey.text y)) ↔ _
  exact ⟨fun h => by injection h with h; injection h, fun h => by rw [h]⟩
theorem any_str (l : List (Str × PyData)) (x : Str) : ((strD l).any fun e => decide (keyOf e.1 = keyOf (keyD (.inr x)))) = l.any fun p => decide (p.1 = x) := by
  rw [List.any_map]
  refine congrArg (fun f => l.any f) (funext fun p => ?_)
  exact decide_eq_decide.mpr key_str
/-- one more, or in its place -/
def putS (l : List (Str × PyData)) (x : Str) (d : PyData) : List (Str × PyData) := if (l.any fun p => decide (p.1 = x)) = true then l.map (fun p => if p.1 = x then (p.1, d) else p) else l ++ [(x, d)]
theorem put_str (l : List (Str × PyData)) (x : Str) (d : PyData) : putD (strD l) (keyD (.inr x)) d = strD (putS l x d) := by
  unfold putD putS
  rw [any_str]
  split
  · rw [List.map_map]
    show _ = List.map _ (List.map _ l)
    rw [List.map_map]
    refine List.map_congr_left fun p _ => ?_
    show (if keyOf (.str p.1) = keyOf (keyD (.inr x)) then ((PyData.str p.1, d) : PyData × PyData) else (.str p.1, p.2)) = ((fun p : Str × PyData => ((PyData.str p.1, p.2) : PyData × PyData)) (if p.1 = x then (p.1, d) else p))
    by_cases h : p.1 = x
    · rw [if_pos (key_str.mpr h), if_pos h]
    · rw [if_neg fun z => h (key_str.mp z), if_neg h]
  · rw [strD_app]
    rfl
theorem dc_str : ∀ (l acc : List (Str × PyData)), (l.map (·.1)).Nodup → (∀ p ∈ l, (acc.any fun q => decide (q.1 = p.1)) = false) → dcD (fun p : Key × PyData => keyD p.1) (·.2) (l.map fun p => (Sum.inr p.1, p.2)) (strD acc) = strD (acc ++ l)
  | [], acc, _, _ => by rw [List.append_nil]; rfl
  | p :: l, acc, hn, ha => by
    have hn' := List.nodup_cons.mp hn
    have e : putD (strD acc) (keyD (Sum.inr p.1)) p.2 = strD (acc ++ [p]) := by
      rw [put_str]
      unfold putS
      rw [if_neg (by rw [ha p List.mem_cons_self]; exact Bool.false_ne_true)]
    show dcD (fun p : Key × PyData => keyD p.1) (·.2) (l.map fun p => (Sum.inr p.1, p.2)) (putD (strD acc) (keyD (Sum.inr p.1)) p.2) = _
    rw [e, dc_str l _ hn'.2 fun q hq => ?_, List.append_assoc]
    · rfl
    · rw [List.any_append, ha q (List.mem_cons_of_mem _ hq), Bool.false_or]
      simp only [List.any_cons, List.any_nil, Bool.or_false, decide_eq_false_iff_not]
      exact fun z => hn'.1 (List.mem_map.mpr ⟨q, hq, z.symm⟩)
def R_with (ds : List PyData) (d : PyData) : Prop := ∃ (l : List (Str × PyData)) (x : Str) (v : PyData), ds = [.dict (strD l), .str x, v] ∧ l ≠ [] ∧ (l.map (·.1)).Nodup ∧ l.length ≤ 1000 ∧ d = .dict (strD (putS l x v))
theorem putS_ne {l : List (Str × PyData)} {x : Str} {v : PyData} (h : l ≠ []) : putS l x v ≠ [] := by
  unfold putS
  split
  · intro e; exact h (List.map_eq_nil_iff.mp e)
  · simp
section
variable {P : Program} {w : World} {K : PySem.W.Frag} {mg : Str → Option Value} {base : Heap}
theorem cal_with (M : Md K mg) : Cal P w K mg base 1 "_law_with" ["_law_record", "_law_word", "_law_value"] (spD w K R_with) := M.cal 35 rfl (fun _ _ _ _ _ _ us hl => match us, hl with | [_, _, _], _ => rfl) fun f fd F => by
  refine fnD F sc_with (fun ds d ⟨_, _, _, h, _⟩ => by rw [h]; rfl) fun cdv A outer s H E hr ds d h => ?_
  obtain ⟨l, x, v, rfl, h1, h2, h3, rfl⟩ := h
  have hz : dcD (fun p : Key × PyData => keyD p.1) (·.2) (l.map fun p => (Sum.inr p.1, p.2)) [] = strD l := dc_str l [] h2 fun _ _ => rfl
  have hn : ∀ w K G v, Dx w K G v (.dict (strD l)) → ∃ p kvs, v = .ref p ∧ G p = some (.dK kvs) ∧ DxK w K G kvs (strD l) := by
    cases l with
    | nil => exact absurd rfl h1
    | cons p l => exact dk_of_str
  refine ds_then (d_own 3 (sl := .ownK (strD l)) sc_with.nd ?_) ?_
  · refine Eq.mp (congrArg (fun z => DO _ _ _ (Sl.ownK z)) hz) ?_
    refine do_callTy (call_dictK rfl) rdo_dictK rfl (M.fr 8) (by decide +kernel) (da_cons (de_eq (de_items rfl (dv 0) hn rfl (M.fr 6)) ?_) da_nil)
    rw [List.map_map, List.map_map]
    rfl
  refine ds_cons (M := fun r => r = [.dat (.dict (strD l)), .dat (.str x), .dat v, .ownK (strD (putS l x v))]) (d1_putK (j := 3) (ds0 := strD l) (hu1 hr) (pv 3) rfl (szl' (by rw [List.length_map]; omega)) (ex_of (dv 2)) (fun d r h => h.2) (ex_of (dv 1)) (fun d r h => h.2) fun d kd h8 h9 => ⟨.inr x, h9.1, ?_⟩) fun r hr' => ?_
  · obtain ⟨h8, _⟩ := h8
    obtain ⟨h9, _⟩ := h9
    subst h8 h9
    exact congrArg (fun z => ([.dat (.dict (strD l)), .dat (.str x), .dat d, .ownK z] : Sls)) (put_str l x d)
  · subst hr'
    have hp := putS_ne (x := x) (v := v) h1
    generalize putS l x v = l' at hp ⊢
    cases l' with
    | nil => exact absurd rfl hp
    | cons p l' =>
      refine ds_frz (i := 3) rfl rfl rfl ?_
      exact ds_one (d_ret (dv 3) rfl)
end
end K64

/-! ## W12 -/
/-! Books; is_listed. -/
namespace K64
open PySem PySem.Spec PyProof.Rows L2 PySem.W
structure Bk where
  size : Nat
  ties : List (Str × Nat × List Row)
abbrev tieE (b : Str × Nat × List Row) : Str × PyData := (b.1, .tuple [.int (b.2.1 : Nat), .tuple (rowsD b.2.2)])
abbrev tiesE (ts : List (Str × Nat × List Row)) : List (PyData × PyData) := strD (ts.map tieE)
abbrev bookD (B : Bk) : PyData := .dict [(.str "size", .int (B.size : Nat)), (.str "ties", .dict (tiesE B.ties))]
theorem lookD_str : ∀ (l : List (Str × PyData)) (x : Str), lookD (strD l) (.inr x) = l.lookup x
  | [], _ => rfl
  | p :: l, x => by
    rw [strD_cons, List.lookup_cons]
    by_cases h : p.1 = x
    · subst h
      rw [lookD_head, show (p.1 == p.1) = true by simp]
    · rw [lookD_tail h, lookD_str l x, show (x == p.1) = false by simpa using fun e => h e.symm]
theorem look_tieE : ∀ (ts : List (Str × Nat × List Row)) (x : Str), (ts.map tieE).lookup x = (ts.lookup x).map fun q => .tuple [.int (q.1 : Nat), .tuple (rowsD q.2)]
  | [], _ => rfl
  | t :: ts, x => by
    rw [List.map_cons, List.lookup_cons, List.lookup_cons, look_tieE ts x]
    show (match x == t.1 with | true => _ | false => _) = _
    cases x == t.1 <;> rfl
section
variable {X : Cx} {ρ : Env} {a e : Expr} {k k2 : Nat} {p1 p2 p3 p4 p5 p6 : Pos} {B : Bk} {x : Str} {n : Nat} {rs : List Row}
theorem bk_size (hu : X.A.units + 1 < cLine) (ha : DE X a ρ (bookD B)) : DE X (.Subscript a (.Constant (.str "size") k p1) p2) ρ (.int (B.size : Nat)) := de_key hu ha lookD_head
theorem bk_ties (hu : X.A.units + 1 < cLine) (ha : DE X a ρ (bookD B)) : DE X (.Subscript a (.Constant (.str "ties") k p1) p2) ρ (.dict (tiesE B.ties)) := de_key hu ha (by rw [lookD_tail ne_size_ties]; exact lookD_head)
theorem dk_ties {ts : List (Str × Nat × List Row)} (h : ts ≠ []) : ∀ w K G v, Dx w K G v (.dict (tiesE ts)) → ∃ p kvs, v = .ref p ∧ G p = some (.dK kvs) ∧ DxK w K G kvs (tiesE ts) := by
  cases ts with
  | nil => exact absurd rfl h
  | cons t ts => exact dk_of_str
/-- book["ties"][e] -/
theorem bk_tie (hu : X.A.units + 1 < cLine) (ha : DE X a ρ (bookD B)) (he : DE X e ρ (.str x)) (hl : B.ties.lookup x = some (n, rs)) (hs : NoSl e) : DE X (.Subscript (.Subscript a (.Constant (.str "ties") k p1) p2) e p3) ρ (.tuple [.int (n : Nat), .tuple (rowsD rs)]) :=
  de_dget (kd := .none) (k := .inr x) hu (bk_ties hu ha) he (by rw [lookD_str, look_tieE, hl]; rfl) (dk_ties (by intro z; rw [z] at hl; cases hl)) hs
/-- book["ties"][e][1] -/
theorem bk_rows (hu : X.A.units + 1 < cLine) (ha : DE X a ρ (bookD B)) (he : DE X e ρ (.str x)) (hl : B.ties.lookup x = some (n, rs)) (hs : NoSl e) : DE X (.Subscript (.Subscript (.Subscript a (.Constant (.str "ties") k p1) p2) e p3) (.Constant (.int 1) k2 p4) p5) ρ (.tuple (rowsD rs)) :=
  de_ix ix_tup (rd_ixT (i := 1) rfl) (bk_tie hu ha he hl hs) de_int (fun _ _ => rfl)
theorem bk_places (hu : X.A.units + 1 < cLine) (ha : DE X a ρ (bookD B)) (he : DE X e ρ (.str x)) (hl : B.ties.lookup x = some (n, rs)) (hs : NoSl e) : DE X (.Subscript (.Subscript (.Subscript a (.Constant (.str "ties") k p1) p2) e p3) (.Constant (.int 0) k2 p4) p5) ρ (.int (n : Nat)) :=
  de_ix ix_tup (rd_ixT (i := 0) rfl) (bk_tie hu ha he hl hs) de_int (fun _ _ => rfl)
/-- an item of a row -/
theorem row_ix {r : Row} {i : Nat} {b : Expr} (ha : DE X a ρ (rowD r)) (hb : DE X b ρ (.int (i : Nat))) (h : i < r.items.length) (hs : PlainIx b) : DE X (.Subscript a b p1) ρ (.int (r.items.getD i 0 : Nat)) :=
  de_ix ix_tup (rd_ixT (atI_nat (by rw [List.getElem?_map, List.getElem?_eq_getElem h, List.getD_eq_getElem?_getD, List.getElem?_eq_getElem h]; rfl))) ha hb hs
end
abbrev natsD (l : List Nat) : PyData := .list (l.map fun n => .int (n : Nat))
abbrev knownD (ks : List (List Nat)) : PyData := .list (ks.map natsD)
def badL (known : List (List Nat)) (some_ r : Row) (at_ : Nat) : List Nat := (List.range r.items.length).filter fun p => decide (p ≠ at_) && !decide (r.items.getD p 0 ∈ known.getD (some_.items.getD p 0) [])
def isListed (rs : List Row) (known : List (List Nat)) (some_ : Row) (at_ v : Nat) : Bool := rs.any fun r => decide (r.items.getD at_ 0 = v) && decide (badL known some_ r at_ = [])
def R_listed (ds : List PyData) (d : PyData) : Prop := ∃ (B : Bk) (known : List (List Nat)) (x : Str) (some_ : Row) (at_ v : Nat) (rs : List Row), ds = [bookD B, knownD known, .str x, rowD some_, .int (at_ : Nat), .int (v : Nat)] ∧ B.ties.lookup x = some (some_.items.length, rs) ∧
  (∀ r ∈ rs, r.items.length = some_.items.length) ∧ at_ < some_.items.length ∧ some_.items.length ≤ 3 ∧ (∀ p ∈ some_.items, p < known.length) ∧ d = .bool (isListed rs known some_ at_ v)
section
variable {P : Program} {w : World} {K : PySem.W.Frag} {mg : Str → Option Value} {base : Heap}
theorem cal_listed (M : Md K mg) : Cal P w K mg base 1 "_law_is_listed" ["_law_book_here", "_law_known", "_law_name", "_law_some", "_law_at", "_law_value"] (spD w K R_listed) := M.cal 13 rfl (fun _ _ _ _ _ _ us hl => match us, hl with | [_, _, _, _, _, _], _ => rfl) fun f fd F => by
  refine fnD F sc_is_listed (fun ds d ⟨_, _, _, _, _, _, _, h, _⟩ => by rw [h]; rfl) fun cdv A outer s H E hr ds d h => ?_
  obtain ⟨B, known, x, some_, at_, v, rs, rfl, h1, h2, h3, h4, h5, rfl⟩ := h
  let ρ0 : Sls := ini n_is_listed [bookD B, knownD known, .str x, rowD some_, .int (at_ : Nat), .int (v : Nat)]
  refine ds_cons (M := fun r => WeakL r ρ0 ∧ isListed rs known some_ at_ v = false) (d1_for rs rowD (fun i r => WeakL r ρ0 ∧ isListed (rs.take i) known some_ at_ v = false) PassesOwn.never rfl (di_tup (bk_rows (hu1 hr) (dv 0) (dv 2) h1 (fun _ _ => rfl))) (pn 6 sc_is_listed.nd) ⟨WeakL.refl _, rfl⟩ (fun i r ρ hri ⟨hw, hf⟩ => ?_) fun r ⟨hw, hf⟩ => ⟨hw, by rwa [List.take_length] at hf⟩) fun r ⟨hw, hf⟩ => ?_
  · have hlen := h2 r (List.mem_of_getElem? hri)
    refine ⟨ρ0.set 6 (.dat (rowD r)), fun x σ F G H Q S dx q => tgs_name x σ F G H Q (S.weak hw.weak.1 hw.weak.2) dx q, ?_⟩
    have hnext : ∀ b, (decide (r.items.getD at_ 0 = v) && decide (badL known some_ r at_ = [])) = b → isListed (rs.take (i + 1)) known some_ at_ v = b := fun b hb => by
      show ((rs.take (i + 1)).any _) = b
      rw [List.take_add_one, hri, List.any_append]
      rw [show (rs.take i).any (fun r => decide (r.items.getD at_ 0 = v) && decide (badL known some_ r at_ = [])) = false from hf, Bool.false_or]
      simpa using hb
    have hwk : WeakL (ρ0.set 6 (.dat (rowD r))) ρ0 := .same (.same (.same (.same (.same (.same (.non (.same .nil)))))))
    have hu := hu64 hr
    have hne : ∀ p : Nat, (!decide ((p : Int) = (at_ : Nat))) = decide (p ≠ at_) := fun p => by
      by_cases h : p = at_
      · rw [decide_eq_true (show ((p : Nat) : Int) = (at_ : Nat) by omega), decide_eq_false (by simpa using h)]; rfl
      · rw [decide_eq_false (show ¬ ((p : Nat) : Int) = (at_ : Nat) by omega), decide_eq_true h]; rfl
    have hpl : ∀ p ∈ List.range r.items.length, p < r.items.length := fun p hp => List.mem_range.mp hp
    have hkn : ∀ p ∈ List.range r.items.length, atI (known.map natsD) ((some_.items.getD p 0 : Nat) : Int) = some (natsD (known.getD (some_.items.getD p 0) [])) := fun p hp => by
      have hp' : p < some_.items.length := by rw [← hlen]; exact hpl p hp
      have hm : some_.items.getD p 0 ∈ some_.items := by rw [List.getD_eq_getElem?_getD, List.getElem?_eq_getElem hp']; exact List.getElem_mem hp'
      have hk := h5 _ hm
      refine atI_nat ?_
      rw [List.getElem?_map, List.getElem?_eq_getElem hk, List.getD_eq_getElem?_getD (l := known), List.getElem?_eq_getElem hk]
      rfl
    by_cases hv : r.items.getD at_ 0 = v
    · refine ds_one (d1_ifT (r := ρ0.set 6 (.dat (rowD r))) (tx_of (dt_eq (dt_cmp op_eq rd_eqI (row_ix (dv 6) (dv 4) (by omega) (fun _ _ => rfl)) (dv 5) (nomark _)) (decide_eq_true (by rw [hv])))) ?_)
      by_cases hb : badL known some_ r at_ = []
      · refine ds_one (d1_ifT (r := ρ0.set 6 (.dat (rowD r))) (tx_of (dt_eq (dt_cmp (opD_eq (α := List Nat) hu (by decide)) (rd_eqD2 (a := badL known some_ r at_) (b := [])) (de_eq (de_lc (List.range r.items.length) (fun (p : Nat) => .int (p : Nat)) (fun p => decide (p ≠ at_) && !decide (r.items.getD p 0 ∈ known.getD (some_.items.getD p 0) [])) (fun (p : Nat) => .int (p : Nat)) _ rfl sc_is_listed.nd (di_range rfl (M.fr 9) (da_cons (de_eq (d := .int (r.items.length : Nat)) (de_callB call_len_seq rdc_lenT rfl (M.fr 1) PySem.boot_len (da_cons (dv 6) da_nil)) (by rw [List.length_map])) da_nil) (by omega)) (own := [("_law_place", 7)]) (blk_of rfl) (fun _ _ _ _ _ => pn 7 sc_is_listed.nd) (szl (by rw [List.length_range]; omega)) (fun a _ => tg_name (by decide))
          (fun _ _ _ _ _ p hp => pts_if (DW.dt (dw_and (dt_eq (dt_cmp op_ne rd_neI (dv 7) (dv 4) (nomark _)) (hne p)) (fun _ => dw_and1 (dt_cmp (opD_notIn (α := Nat) hu (by decide)) (rd_ninL (a := r.items.getD p 0) (bs := known.getD (some_.items.getD p 0) [])) (row_ix (dv 6) (dv 7) (hpl p hp) (fun _ _ => rfl)) (de_ix ix_list (rd_ixL (hkn p hp)) (dv 1) (row_ix (dv 3) (dv 7) (by rw [← hlen]; exact hpl p hp) (fun _ _ => rfl)) (fun _ _ => rfl)) rfl))))) (fun _ _ _ _ _ p _ _ => dv 7)) rfl) (de_lst da_nil (by decide)) (nomark _)) (decide_eq_true hb))) (ds_one (d_ret (de_bl (k := true)) ?_)))
        have ht : isListed rs known some_ at_ v = true := List.any_eq_true.mpr ⟨r, List.mem_of_getElem? hri, by rw [decide_eq_true hv, decide_eq_true hb]; rfl⟩
        rw [ht]
      · refine ds_one (d1_ifF (r := ρ0.set 6 (.dat (rowD r))) (tx_of (dt_eq (dt_cmp (opD_eq (α := List Nat) hu (by decide)) (rd_eqD2 (a := badL known some_ r at_) (b := [])) (de_eq (de_lc (List.range r.items.length) (fun (p : Nat) => .int (p : Nat)) (fun p => decide (p ≠ at_) && !decide (r.items.getD p 0 ∈ known.getD (some_.items.getD p 0) [])) (fun (p : Nat) => .int (p : Nat)) _ rfl sc_is_listed.nd (di_range rfl (M.fr 9) (da_cons (de_eq (d := .int (r.items.length : Nat)) (de_callB call_len_seq rdc_lenT rfl (M.fr 1) PySem.boot_len (da_cons (dv 6) da_nil)) (by rw [List.length_map])) da_nil) (by omega)) (own := [("_law_place", 7)]) (blk_of rfl) (fun _ _ _ _ _ => pn 7 sc_is_listed.nd) (szl (by rw [List.length_range]; omega)) (fun a _ => tg_name (by decide))
          (fun _ _ _ _ _ p hp => pts_if (DW.dt (dw_and (dt_eq (dt_cmp op_ne rd_neI (dv 7) (dv 4) (nomark _)) (hne p)) (fun _ => dw_and1 (dt_cmp (opD_notIn (α := Nat) hu (by decide)) (rd_ninL (a := r.items.getD p 0) (bs := known.getD (some_.items.getD p 0) [])) (row_ix (dv 6) (dv 7) (hpl p hp) (fun _ _ => rfl)) (de_ix ix_list (rd_ixL (hkn p hp)) (dv 1) (row_ix (dv 3) (dv 7) (by rw [← hlen]; exact hpl p hp) (fun _ _ => rfl)) (fun _ _ => rfl)) rfl))))) (fun _ _ _ _ _ p _ _ => dv 7)) rfl) (de_lst da_nil (by decide)) (nomark _)) (decide_eq_false hb))) (ds_nil ⟨hwk, hnext false (by rw [decide_eq_false hb, Bool.and_false])⟩))
    · exact ds_one (d1_ifF (r := ρ0.set 6 (.dat (rowD r))) (tx_of (dt_eq (dt_cmp op_eq rd_eqI (row_ix (dv 6) (dv 4) (by omega) (fun _ _ => rfl)) (dv 5) (nomark _)) (decide_eq_false (by omega)))) (ds_nil ⟨hwk, hnext false (by rw [decide_eq_false hv, Bool.false_and])⟩))
  · refine ds_wk hw ?_
    rw [hf]
    exact ds_one (d_ret (de_bl (k := false)) rfl)
end
end K64

/-! ## W13 -/
/-! strikes_of, lists_of. -/
namespace K64
open PySem PySem.Spec PyProof.Rows L2 PySem.W
abbrev npD (p : Nat × Nat) : PyData := .tuple [.int (p.1 : Nat), .int (p.2 : Nat)]
theorem toD_np (p : Nat × Nat) : Datum.toD p = npD p := rfl
instance : KeyD (Nat × Nat) where
  kf p := .tup [.num (p.1 : Nat), .num (p.2 : Nat)]
  key p := rfl
  dep p := by
    show NestedKey.depth (.tup [.num _, .num _]) ≤ 8
    simp only [NestedKey.depth, NestedKey.depthAll]
    decide
  tup p := ⟨_, rfl⟩
  inj a b h := by
    injection h with h
    injection h with h1 h2
    injection h1 with h1
    injection h2 with h2 _
    injection h2 with h2
    exact Prod.ext (Int.ofNat.inj h1) (Int.ofNat.inj h2)
def smallP : List (Nat × Nat) := (List.range 16).flatMap fun u => (List.range 4).map fun v => (u, v)
theorem smallP_mem {p : Nat × Nat} (h1 : p.1 < 16) (h2 : p.2 < 4) : p ∈ smallP := List.mem_flatMap.mpr ⟨p.1, List.mem_range.mpr h1, List.mem_map.mpr ⟨p.2, List.mem_range.mpr h2, rfl⟩⟩
/-- a small pair's hash -/
def npH (p : Nat × Nat) : Int := reduceHash (Builtin.Tuple.tupleHashOf [hashInt (p.1 : Nat), hashInt (p.2 : Nat)])
theorem npH_of (w : World) (p : Nat × Nat) : (NestedKey.tup [.num (p.1 : Nat), .num (p.2 : Nat)]).hash w = npH p := by
  simp only [NestedKey.hash, NestedKey.hashes]
  rfl
def npHs : List Int := [-8458139203682520985, -1950498447580522560, 7204814214171964562, -4734289103435588629, -5164621852614943976, 8389048192121911274, -3550055125485641917, -1440771752368011620, 4685526799349444076, 6794810172467074373, 1901736143494378007, 8409376899596376432, 2248468952609198383, 8756109708711196808, 3863035679738500442, 5972319052856130739, -6348126469135965181, 159514286966033244, -9131917124991031250, -2624276368889032825, -3054609118068388172, 3453031638033610253, -5838399773923454241, 669240982178544184, -5491666964808633865, 8062003079928221385, -3877100237679331806, 2630540518422666619, 4358481687155754187, -7580621630451799004, 5973048414285056246, 8082331787402686543, 1921423840415508494, 8429064596517506919, 3535990567544810553, -8403112750062742638, -6675171581329655070, -167530825227656645, -5060604854200353011, -2951321481082722714, -3381654230262078061, 3125986525839920364, -1767087503132776002, 342195869984854295, 6468494421702309991, -5470608895905243200, 3684703765847243922, -8254399551760309269, 4031436574962064298, -7907666742645488893, 5646003302091366357, -6293100015516186834, 5992736111206186733, 8102019484323817030, 3208945455351120664, -8730157862256432527, -1271641495715522257, 5235999260386476168, 342925231413779802, 2452208604531410099, -3708699342455767950, 2798941413646230475, -2094132615326465891, 4413508140775532534]
theorem npH_zip : ((smallP.zip npHs).all fun p => npH p.1 == p.2) = true := by decide +kernel
theorem map_of_zip {α : Type} (f : α → Int) : ∀ (l : List α) (m : List Int), l.length = m.length → ((l.zip m).all fun p => f p.1 == p.2) = true → l.map f = m
  | [], [], _, _ => rfl
  | [], _ :: _, h, _ => by cases h
  | _ :: _, [], h, _ => by cases h
  | a :: l, b :: m, h, z => by
    rw [List.zip_cons_cons, List.all_cons, Bool.and_eq_true] at z
    rw [List.map_cons, map_of_zip f l m (by simpa using h) z.2, eq_of_beq z.1]
theorem npH_all : smallP.map npH = npHs := map_of_zip _ _ _ (by decide +kernel) npH_zip
def nodupB : List Int → Bool
  | [] => true
  | a :: l => (l.all fun b => !(a == b)) && nodupB l
theorem nodup_of_B : ∀ {l : List Int}, nodupB l = true → l.Nodup
  | [], _ => List.nodup_nil
  | a :: l, h => by
    rw [nodupB, Bool.and_eq_true] at h
    refine List.nodup_cons.mpr ⟨fun hm => ?_, nodup_of_B h.2⟩
    have := List.all_eq_true.mp h.1 a hm
    simp at this
theorem npHs_nodup : npHs.Nodup := nodup_of_B (by decide +kernel)
theorem inj_of_nodup {α β : Type} {f : α → β} : ∀ {l : List α}, (l.map f).Nodup → ∀ p ∈ l, ∀ q ∈ l, f p = f q → p = q
  | [], _, p, hp => nomatch hp
  | a :: l, h, p, hp => fun q hq e => by
    rw [List.map_cons, List.nodup_cons] at h
    rcases List.mem_cons.mp hp with hp1 | hp
    · rcases List.mem_cons.mp hq with hq1 | hq
      · rw [hp1, hq1]
      · exact absurd (List.mem_map.mpr ⟨q, hq, by rw [← e, hp1]⟩) h.1
    · rcases List.mem_cons.mp hq with hq1 | hq
      · exact absurd (List.mem_map.mpr ⟨p, hp, by rw [e, hq1]⟩) h.1
      · exact inj_of_nodup h.2 p hp q hq e
theorem npH_inj : ∀ p ∈ smallP, ∀ q ∈ smallP, npH p = npH q → p = q := inj_of_nodup (by rw [npH_all]; exact npHs_nodup)
theorem map_fst {f : PyData → Int} {fs : List (PyData × PyData)} : (fs.map fun p => f p.1) = (fs.map (·.1)).map f := by rw [List.map_map]; rfl
theorem np_nodup {w : World} {fs : List (PyData × PyData)} {bs : List (Nat × Nat)} (h : KeysAre fs bs) (hn : bs.Nodup) (hs : ∀ p ∈ bs, p.1 < 16 ∧ p.2 < 4) : (fs.map fun p => ((keyOf p.1).map (·.hash w)).getD 0).Nodup := by
  have e : (fs.map fun p => ((keyOf p.1).map (·.hash w)).getD 0) = bs.map npH := by
    rw [map_fst (f := fun k => ((keyOf k).map (·.hash w)).getD 0), h, List.map_map]
    refine List.map_congr_left fun p _ => ?_
    have hk : keyOf (Datum.toD p) = some (.tup [.num (p.1 : Nat), .num (p.2 : Nat)]) := KeyD.key p
    rw [Function.comp_apply, hk, Option.map_some, Option.getD_some, npH_of]
  rw [e]
  refine List.pairwise_map.mpr (List.Pairwise.imp_of_mem (fun {a b} ha hb hab z => hab (npH_inj a (smallP_mem (hs a ha).1 (hs a ha).2) b (smallP_mem (hs b hb).1 (hs b hb).2) z)) hn)
/-! ### what is struck -/
def rowsAt (B : Bk) (x : Str) : List Row := ((B.ties.lookup x).map (·.2)).getD []
structure BkOk (B : Bk) : Prop where
  size : B.size ≤ 3
  tie : ∀ x n rs, B.ties.lookup x = some (n, rs) → 1 ≤ n ∧ n ≤ 3 ∧ ∀ r ∈ rs, r.items.length = n ∧ ∀ v ∈ r.items, v < B.size
/-- the net's ties are the book's -/
def FitB (B : Bk) (n : Nat) (ts : List Tie) : Prop := ∀ t ∈ ts, B.ties.lookup t.1 = some (t.2.items.length, rowsAt B t.1) ∧ ∀ u ∈ t.2.items, u < n
def knownOf (size n : Nat) (found : List (Nat × Nat)) : List (List Nat) := (List.range n).map fun u => (List.range size).filter fun v => !decide ((u, v) ∈ found)
def freshV (B : Bk) (known : List (List Nat)) (t : Tie) (i : Nat) (vs : List Nat) : List (Nat × Nat) := (vs.filter fun v => !isListed (rowsAt B t.1) known t.2 i v).map fun v => (t.2.items.getD i 0, v)
def freshA (B : Bk) (known : List (List Nat)) (t : Tie) (is : List Nat) : List (Nat × Nat) := is.flatMap fun i => freshV B known t i (known.getD (t.2.items.getD i 0) [])
def freshT (B : Bk) (known : List (List Nat)) (ts : List Tie) : List (Nat × Nat) := ts.flatMap fun t => freshA B known t (List.range t.2.items.length)
def freshOf (B : Bk) (n : Nat) (ts : List Tie) (found : List (Nat × Nat)) : List (Nat × Nat) := addKs [] (freshT B (knownOf B.size n found) ts)
def strikeR (B : Bk) (n : Nat) (ts : List Tie) : Nat → List (Nat × Nat) → List (Nat × Nat)
  | 0, found => found
  | k + 1, found => if freshOf B n ts found = [] then found else strikeR B n ts k (addKs found (freshOf B n ts found))
def strikesOf (B : Bk) (n : Nat) (ts : List Tie) : List (Nat × Nat) := strikeR B n ts (B.size * n + 1) []
def R_strikes (ds : List PyData) (d : PyData) : Prop := ∃ (B : Bk) (n : Nat) (ts : List Tie), ds = [bookD B, pnD n ts] ∧ BkOk B ∧ FitB B n ts ∧ n ≤ 15 ∧ ts.length ≤ 1000 ∧ ∃ dd, d = .dict dd ∧ KeysAre dd (strikesOf B n ts)
def listsOf (B : Bk) (n : Nat) (ts : List Tie) : List (List Nat) := knownOf B.size n (strikesOf B n ts)
def R_lists (ds : List PyData) (d : PyData) : Prop := ∃ (B : Bk) (n : Nat) (ts : List Tie), ds = [bookD B, pnD n ts] ∧ BkOk B ∧ FitB B n ts ∧ n ≤ 15 ∧ ts.length ≤ 1000 ∧ d = .tuple ((listsOf B n ts).map fun l => rowD ⟨l⟩)
theorem freshV_small {B : Bk} {known : List (List Nat)} {t : Tie} {i : Nat} {vs : List Nat} : (freshV B known t i vs).length ≤ vs.length := by
  unfold freshV
  rw [List.length_map]
  exact List.length_filter_le _ _
theorem known_len {size n : Nat} {found : List (Nat × Nat)} : (knownOf size n found).length = n := by unfold knownOf; rw [List.length_map, List.length_range]
theorem known_get {size n : Nat} {found : List (Nat × Nat)} {u : Nat} (h : u < n) : (knownOf size n found).getD u [] = (List.range size).filter fun v => !decide ((u, v) ∈ found) := by
  unfold knownOf
  rw [List.getD_eq_getElem?_getD, List.getElem?_map, List.getElem?_range h]
  rfl
theorem known_le {size n : Nat} {found : List (Nat × Nat)} {u v : Nat} (h : v ∈ (knownOf size n found).getD u []) : v < size := by
  by_cases hu : u < n
  · rw [known_get hu] at h
    exact List.mem_range.mp (List.mem_filter.mp h).1
  · unfold knownOf at h
    rw [List.getD_eq_getElem?_getD, List.getElem?_eq_none (by rw [List.length_map, List.length_range]; omega)] at h
    cases h
/-- what is fresh is small -/
theorem fresh_small {B : Bk} {n : Nat} {ts : List Tie} {found : List (Nat × Nat)} (hf : FitB B n ts) {p : Nat × Nat} (h : p ∈ freshOf B n ts found) : p.1 < n ∧ p.2 < B.size := by
  unfold freshOf at h
  rw [addKs_mem] at h
  rcases h with h | h
  · cases h
  · obtain ⟨t, ht, h⟩ := List.mem_flatMap.mp h
    obtain ⟨i, hi, h⟩ := List.mem_flatMap.mp h
    obtain ⟨v, hv, rfl⟩ := List.mem_map.mp h
    have hv := (List.mem_filter.mp hv).1
    have hi := List.mem_range.mp hi
    refine ⟨(hf t ht).2 _ ?_, known_le hv⟩
    show t.2.items.getD i 0 ∈ _
    rw [List.getD_eq_getElem?_getD, List.getElem?_eq_getElem hi]
    exact List.getElem_mem hi
theorem known_nil (size n : Nat) : knownOf size n [] = (List.range n).map fun _ => List.range size := by
  unfold knownOf
  refine List.map_congr_left fun u _ => ?_
  exact List.filter_eq_self.mpr fun v _ => by simp
theorem flat_nats (l : List Nat) : flat (natsD l) = true := by
  show flats _ = true
  induction l with
  | nil => rfl
  | cons a l ih => exact ih
end K64

/-! ## W14 -/
/-! Walks: strikes_of, lists_of. -/
namespace K64
open PySem PySem.Spec PyProof.Rows L2 PySem.W
theorem WeakL.trans : ∀ {a b c : Sls}, WeakL a b → WeakL b c → WeakL a c
  | _, _, _, _, .nil => .nil
  | _, _, _, .same h, .same k => .same (h.trans k)
  | _, _, _, .same h, .non k => .non (h.trans k)
  | _, _, _, .non h, .same k => .non (h.trans k)
  | _, _, _, .non h, .non k => .non (h.trans k)
theorem nodup_len {α : Type} [DecidableEq α] : ∀ {l m : List α}, l.Nodup → (∀ a ∈ l, a ∈ m) → l.length ≤ m.length
  | [], _, _, _ => Nat.zero_le _
  | a :: l, m, h, s => by
    have h' := List.nodup_cons.mp h
    have ha := s a List.mem_cons_self
    have := nodup_len (l := l) (m := m.erase a) h'.2 fun b hb => (List.mem_erase_of_ne fun z => h'.1 (by rw [← z]; exact hb)).mpr (s b (List.mem_cons_of_mem _ hb))
    rw [List.length_erase_of_mem ha] at this
    have hp := List.length_pos_of_mem ha
    rw [List.length_cons]
    omega
def Sm (l : List (Nat × Nat)) : Prop := ∀ p ∈ l, p.1 < 16 ∧ p.2 < 4
theorem Sm.app {l m : List (Nat × Nat)} (h : Sm l) (k : Sm m) : Sm (l ++ m) := fun p hp => (List.mem_append.mp hp).elim (h p) (k p)
theorem Sm.keys {l : List (Nat × Nat)} (h : Sm l) : Sm (addKs [] l) := fun p hp => h p (by
  rcases (addKs_mem l).mp hp with z | z
  · cases z
  · exact z)
theorem Sm.len {l : List (Nat × Nat)} (h : Sm l) (hn : l.Nodup) : l.length ≤ 64 := nodup_len (m := smallP) hn fun p hp => smallP_mem (h p hp).1 (h p hp).2
theorem keys_len {ds : List (PyData × PyData)} {bs : List (Nat × Nat)} (h : KeysAre ds bs) : ds.length = bs.length := by
  have := congrArg List.length h
  rwa [List.length_map, List.length_map] at this
theorem addKs_snoc (l : List (Nat × Nat)) (a : Nat × Nat) : addKs [] (l ++ [a]) = addK (addKs [] l) a := by
  unfold addKs
  rw [List.foldl_append]
  rfl
theorem keys_upd {α : Type} [DecidableEq α] [DatumOrd α] [KeyD α] : ∀ {ff ds : List (PyData × PyData)} {as bs : List α}, KeysAre ds as → KeysAre ff bs → KeysAre (dcD (·.1) (·.2) ff ds) (addKs as bs)
  | [], _, _, [], h, _ => h
  | [], _, _, _ :: _, _, k => by cases k
  | _ :: _, _, _, [], _, k => by cases k
  | (kd, d) :: ff, ds, as, b :: bs, h, k => by
    injection k with k1 k2
    have k1 : kd = Datum.toD b := k1
    subst k1
    have z : KeysAre (dcD (·.1) (·.2) ff (putD ds (Datum.toD b) d)) (addKs (addK as b) bs) := keys_upd (keys_put h b d) k2
    exact z
theorem rd_kn {w : World} {K : PySem.W.Frag} {α : Type} [DecidableEq α] [DatumOrd α] [KeyD α] {neg : Bool} {a : α} {ds : List (PyData × PyData)} {bs : List α} {k : Bool} (h : KeysAre ds bs) (hk : k = true ↔ a ∈ bs) : RD2 w K (rInN w K neg) (Datum.toD a) (.dict ds) (.bool (if neg then !k else k)) := by
  have e : k = decide (a ∈ bs) := by
    cases k with
    | true => exact (decide_eq_true (hk.mp rfl)).symm
    | false => exact (decide_eq_false fun z => by have := hk.mpr z; cases this).symm
  rw [e]
  exact rd_inKN h
section
variable {B : Bk} {known : List (List Nat)} {t : Tie}
theorem freshV_sm {i : Nat} {vs : List Nat} (h : t.2.items.getD i 0 < 16) (hv : ∀ v ∈ vs, v < 4) : Sm (freshV B known t i vs) := fun p hp => by
  obtain ⟨v, h1, rfl⟩ := List.mem_map.mp hp
  exact ⟨h, hv v (List.mem_filter.mp h1).1⟩
theorem getD_mem {l : List Nat} {i : Nat} (h : i < l.length) : l.getD i 0 ∈ l := by
  rw [List.getD_eq_getElem?_getD, List.getElem?_eq_getElem h]
  exact List.getElem_mem h
theorem freshA_sm {is : List Nat} (hi : ∀ i ∈ is, i < t.2.items.length) (hu : ∀ u ∈ t.2.items, u < 16) (hv : ∀ u, ∀ v ∈ known.getD u [], v < 4) : Sm (freshA B known t is) := fun p hp => by
  obtain ⟨i, h1, h2⟩ := List.mem_flatMap.mp hp
  exact freshV_sm (hu _ (getD_mem (hi i h1))) (hv _) p h2
theorem freshT_sm {ts : List Tie} (hu : ∀ t ∈ ts, ∀ u ∈ t.2.items, u < 16) (hv : ∀ u, ∀ v ∈ known.getD u [], v < 4) : Sm (freshT B known ts) := fun p hp => by
  obtain ⟨t, h1, h2⟩ := List.mem_flatMap.mp hp
  exact freshA_sm (fun i hi => List.mem_range.mp hi) (hu t h1) hv p h2
end
abbrev SpStrikes (w : World) (K : PySem.W.Frag) (B : Bk) (n : Nat) (ts : List Tie) : Sp := spE w K (fun ds => ds = [bookD B, pnD n ts]) (fun _ d => ∃ dd, d = .dict dd ∧ KeysAre dd (strikesOf B n ts))
section
variable {P : Program} {w : World} {K : PySem.W.Frag} {mg : Str → Option Value} {base : Heap}
theorem cal_strikes (M : Md K mg) (c : Cal P w K mg base 1 "_law_is_listed" ["_law_book_here", "_law_known", "_law_name", "_law_some", "_law_at", "_law_value"] (spD w K R_listed)) {B : Bk} {n : Nat} {ts : List Tie} (hB : BkOk B) (hF : FitB B n ts) (hn : n ≤ 15) (hts : ts.length ≤ 1000) :
    Cal P w K mg base 2 "_law_strikes_of" ["_law_book_here", "_law_net_here"] (SpStrikes w K B n ts) := M.cal 14 rfl (fun _ _ _ _ _ _ us hl => match us, hl with | [_, _], _ => rfl) fun f fd F => by
  refine fnE F sc_strikes_of (fun ds h => by rw [h]; rfl) fun cdv A outer s H E hr ds h => ?_
  subst h
  have hsz := hB.size
  have hlen3 : ∀ t ∈ ts, t.2.items.length ≤ 3 := fun t ht => (hB.tie _ _ _ (hF t ht).1).2.1
  have hu16 : ∀ t ∈ ts, ∀ u ∈ t.2.items, u < 16 := fun t ht u hu => by have := (hF t ht).2 u hu; omega
  have hmul : B.size * n ≤ 3 * 15 := Nat.mul_le_mul hsz hn
  let tot : Nat := B.size * n + 1
  let st : List (Nat × Nat) → List (PyData × PyData) → Sls := fun found dd => [.dat (bookD B), .dat (pnD n ts), .dat (knownD (knownOf B.size n found)), .ownN dd, .non, .non, .non, .non, .non, .non, .non]
  let I : Nat → Sls → Prop := fun i r => ∃ found dd, KeysAre dd found ∧ found.Nodup ∧ Sm found ∧ strikeR B n ts (tot - i) found = strikesOf B n ts ∧ WeakL r (st found dd)
  refine ds_cons (M := fun r => r = st [] []) (d1_parXO (i := 2) (j := 3) (Pa := Is (knownD (knownOf B.size n [])) (ini n_strikes_of [bookD B, pnD n ts])) (sl := fun _ _ => .ownN []) (fun ta ha => ps_parC rfl sc_strikes_of.nd rfl rfl (by first | exact Or.inl rfl | exact Or.inr rfl) (by first | exact Or.inl rfl | exact Or.inr rfl) ha rfl)
    (ex_of (de_eq (de_map (List.range n) (fun (i : Nat) => .int (i : Nat)) (fun _ => natsD (List.range B.size)) _ rfl sc_strikes_of.nd (di_range rfl (M.fr 9) (da_cons (pn_size (hu1 hr) (dv 1)) da_nil) (by omega)) (own := [("_law_unknown", 9)]) (blk_of rfl) (fun _ _ _ _ _ => pn 9 sc_strikes_of.nd) (szl (by rw [List.length_range]; omega)) (fun a _ => tg_name (by decide))
      (fun _ _ _ _ _ a _ => de_listRange rfl (bk_size (hu1 hr) (dv 0)) (by omega) (M.fr 6) (M.fr 9))) (by rw [known_nil]; show PyData.list _ = PyData.list (List.map _ (List.map _ _)); rw [List.map_map]; rfl)))
    (fun da r _ => do_nilN) (fun da r h => by obtain ⟨rfl, rfl⟩ := h; rfl)) fun r hr0 => ?_
  subst hr0
  refine ds_cons (M := fun r => ∃ dd, KeysAre dd (strikesOf B n ts) ∧ WeakL r (st (strikesOf B n ts) dd)) (d1_for (List.range tot) (fun (i : Nat) => .int (i : Nat)) I PassesOwn.never rfl (di_range (n := tot) rfl (M.fr 9) (da_cons (de_eq (de_op op_add rd_add (de_op op_mul (rd_mul (i := (B.size : Nat)) (j := (n : Nat)) (.inl (by omega))) (bk_size (hu1 hr) (dv 0)) (pn_size (hu1 hr) (dv 1))) de_int) (by show PyData.int _ = PyData.int _; rw [← Int.natCast_mul]; rfl)) da_nil) (by show B.size * n + 1 < _; omega)) (pn 4 sc_strikes_of.nd)
    ⟨[], [], rfl, List.nodup_nil, (fun _ h => nomatch h), rfl, WeakL.refl _⟩ (fun i a r hia ⟨found, dd, hk, hnd, hsm, hs, hw⟩ => ?_) fun r ⟨found, dd, hk, hnd, hsm, hs, hw⟩ => ?_) fun r ⟨dd, hk, hw⟩ => ?_
  · have hi := List.getElem?_eq_some_iff.mp hia
    have ea : a = i := by rw [← hi.2]; simp
    subst ea
    have hlt : a < tot := by have := hi.1; simpa using this
    refine ⟨(st found dd).set 4 (.dat (.int (a : Nat))), fun x σ F G H Q S dx q => tgs_name x σ F G H Q (S.weak hw.weak.1 hw.weak.2) dx q, ?_⟩
    let known := knownOf B.size n found
    have hkv : ∀ u, ∀ v ∈ known.getD u [], v < 4 := fun u v hv => by have := known_le hv; omega
    let s1 : List (PyData × PyData) → Sls := fun ff => [.dat (bookD B), .dat (pnD n ts), .dat (knownD known), .ownN dd, .dat (.int (a : Nat)), .ownN ff, .non, .non, .non, .non, .non]
    refine ds_then (ρ' := s1 []) (d_own 5 sc_strikes_of.nd do_nilN) ?_
    refine ds_cons (M := fun r => ∃ ff, KeysAre ff (freshOf B n ts found) ∧ WeakL r (s1 ff)) (d1_for ts tieD (fun j r => ∃ ff, KeysAre ff (addKs [] (freshT B known (ts.take j))) ∧ WeakL r (s1 ff)) PassesOwn.never rfl (di_tup (pn_ties (hu1 hr) (dv 1))) (g := gTup K 2 (gNames [6, 7])) (pg_tup rfl (pgs_cons (pn 6 sc_strikes_of.nd) (pgs_cons (pn 7 sc_strikes_of.nd) pgs_nil))) ⟨[], rfl, WeakL.refl _⟩
      (fun j t r htj ⟨ff, hf, hw2⟩ => ?_) fun r ⟨ff, hf, hw2⟩ => ⟨ff, by rw [List.take_length] at hf; exact hf, hw2⟩) fun r ⟨ff, hf, hw2⟩ => ?_
    · have ht := List.mem_of_getElem? htj
      have hpre : Sm (freshT B known (ts.take j)) := freshT_sm (fun t h => hu16 t (List.mem_of_mem_take h)) hkv
      let s2 : List (PyData × PyData) → Sls := fun ff => [.dat (bookD B), .dat (pnD n ts), .dat (knownD known), .ownN dd, .dat (.int (a : Nat)), .ownN ff, .dat (.str t.1), .dat (rowD t.2), .non, .non, .non]
      refine ⟨s2 ff, fun x σ F G H Q S dx q => tgs_tup (is := [6, 7]) rfl x σ F G H Q (S.weak hw2.weak.1 hw2.weak.2) dx q, ?_⟩
      have eenum : (((t.2.items.map fun (m : Nat) => PyData.int (m : Nat)).zipIdx).map fun p => PyData.tuple [.int (p.2 : Nat), p.1]) = (t.2.items.zipIdx).map fun p => PyData.tuple [.int (p.2 : Nat), .int (p.1 : Nat)] := by
        rw [List.zipIdx_map, List.map_map]
        rfl
      refine ds_one (d1_for (t.2.items.zipIdx) (fun p => PyData.tuple [.int (p.2 : Nat), .int (p.1 : Nat)]) (fun k r => ∃ ff, KeysAre ff (addKs [] (freshT B known (ts.take j) ++ freshA B known t (List.range k))) ∧ WeakL r (s2 ff)) PassesOwn.never rfl (eenum ▸ di_enumT rfl (M.fr 10) (da_cons (dv 7) da_nil)) (g := gTup K 2 (gNames [8, 9])) (pg_tup rfl (pgs_cons (pn 8 sc_strikes_of.nd) (pgs_cons (pn 9 sc_strikes_of.nd) pgs_nil)))
        ⟨ff, by rw [show freshA B known t (List.range 0) = [] from rfl, List.append_nil]; exact hf, WeakL.refl _⟩ (fun k q r hkq ⟨ff, hf, hw3⟩ => ?_) fun r ⟨ff, hf, hw3⟩ => ⟨ff, ?_, ?_⟩)
      · obtain ⟨u, k'⟩ := q
        rw [List.getElem?_zipIdx] at hkq
        obtain ⟨u', h1, h2⟩ := Option.map_eq_some_iff.mp hkq
        have h3 : u' = u := congrArg Prod.fst h2
        have h4 : k' = k := by have := congrArg Prod.snd h2; simpa using this.symm
        subst h3 h4
        have hkl : k' < t.2.items.length := (List.getElem?_eq_some_iff.mp h1).1
        have hku : t.2.items.getD k' 0 = u' := by rw [List.getD_eq_getElem?_getD, h1]; rfl
        have hun : u' < n := (hF t ht).2 u' (List.mem_of_getElem? h1)
        have hpa : Sm (freshA B known t (List.range k')) := freshA_sm (fun i hi => by have := List.mem_range.mp hi; omega) (hu16 t ht) hkv
        let s3 : List (PyData × PyData) → Sls := fun ff => [.dat (bookD B), .dat (pnD n ts), .dat (knownD known), .ownN dd, .dat (.int (a : Nat)), .ownN ff, .dat (.str t.1), .dat (rowD t.2), .dat (.int (k' : Nat)), .dat (.int (u' : Nat)), .non]
        have hat : atI (known.map natsD) ((u' : Nat) : Int) = some (natsD (known.getD u' [])) := atI_nat (by
          rw [List.getElem?_map, List.getElem?_eq_getElem (by rw [known_len]; exact hun), List.getD_eq_getElem?_getD (l := known), List.getElem?_eq_getElem (by rw [known_len]; exact hun)]
          rfl)
        refine ⟨s3 ff, fun x σ F G H Q S dx q => tgs_tup (is := [8, 9]) rfl x σ F G H Q (S.weak hw3.weak.1 hw3.weak.2) dx q, ?_⟩
        refine ds_one (d1_for (known.getD u' []) (fun (v : Nat) => PyData.int (v : Nat)) (fun m r => ∃ ff, KeysAre ff (addKs [] (freshT B known (ts.take j) ++ freshA B known t (List.range k') ++ freshV B known t k' ((known.getD u' []).take m))) ∧ WeakL r (s3 ff)) PassesOwn.never rfl
          (di_list (de_ix ix_list (rd_ixL hat) (dv 2) (dv 9) (fun _ _ => rfl))) (pn 10 sc_strikes_of.nd)
          ⟨ff, by rw [List.take_zero, show freshV B known t k' [] = [] from rfl, List.append_nil]; exact hf, WeakL.refl _⟩ (fun m v r hmv ⟨ff, hf, hw4⟩ => ?_) fun r ⟨ff, hf, hw4⟩ => ⟨ff, ?_, ?_⟩)
        · have hvm := List.mem_of_getElem? hmv
          have hv4 := hkv u' v hvm
          refine ⟨(s3 ff).set 10 (.dat (.int (v : Nat))), fun x σ F G H Q S dx q => tgs_name x σ F G H Q (S.weak hw4.weak.1 hw4.weak.2) dx q, ?_⟩
          have hback : ∀ ff, WeakL ((s3 ff).set 10 (.dat (.int (v : Nat)))) (s3 ff) := fun ff => .same (.same (.same (.same (.same (.same (.same (.same (.same (.same (.non .nil))))))))))
          obtain ⟨hl1, hl2⟩ := hF t ht
          have hcall : ∀ b, isListed (rowsAt B t.1) known t.2 k' v = b → R_listed [bookD B, knownD known, .str t.1, rowD t.2, .int (k' : Nat), .int (v : Nat)] (.bool b) := fun b hb =>
            ⟨B, known, t.1, t.2, k', v, rowsAt B t.1, rfl, hl1, fun r hr => ((hB.tie _ _ _ hl1).2.2 r hr).1, hkl, hlen3 t ht, fun p hp => by rw [known_len]; exact hl2 p hp, by rw [hb]⟩
          by_cases hb : isListed (rowsAt B t.1) known t.2 k' v = true
          · refine ds_one (d1_ifF (r := (s3 ff).set 10 (.dat (.int (v : Nat)))) (tx_of (dt_not (k := true) (dt_val (de_c c (hr.mono (by decide)) (da_cons (dv 0) (da_cons (dv 2) (da_cons (dv 6) (da_cons (dv 7) (da_cons (dv 8) (da_cons (dv 10) da_nil)))))) (hcall true hb))))) (ds_nil ⟨ff, ?_, hback ff⟩))
            rw [List.take_add_one, hmv]
            unfold freshV
            rw [List.filter_append, Option.toList_some, List.filter_cons_of_neg (by rw [hb]; exact Bool.false_ne_true), List.filter_nil, List.append_nil]
            exact hf
          · have hb' := Bool.eq_false_iff.mpr hb
            have hpv : Sm (freshV B known t k' ((known.getD u' []).take m)) := freshV_sm (by rw [hku]; omega) fun v hv => hkv u' v (List.mem_of_mem_take hv)
            have hall := ((hpre.app hpa).app hpv).keys
            have hffl : ff.length ≤ 64 := by rw [keys_len hf]; exact hall.len (addKs_nodup _ List.nodup_nil)
            refine ds_one (d1_ifT (r := (s3 ff).set 10 (.dat (.int (v : Nat)))) (tx_of (dt_not (k := false) (dt_val (de_c c (hr.mono (by decide)) (da_cons (dv 0) (da_cons (dv 2) (da_cons (dv 6) (da_cons (dv 7) (da_cons (dv 8) (da_cons (dv 10) da_nil)))))) (hcall false hb'))))) (ds_one (d1_putN (j := 5) (ds0 := ff) (hu9 hr) (pv 5) rfl (szl' (by omega)) (ex_of (de_op op_add rd_add (dv 4) de_int)) (fun d r h => h.2) (ex_of (de_tup (da_cons (dv 9) (da_cons (dv 10) da_nil)) (show 2 ≤ sizeLine by decide))) (fun d r h => h.2) fun d kd h8 h9 => ?_)))
            obtain ⟨rfl, _⟩ := h9
            refine ⟨_, _, rfl, KeyD.key (u', v), KeyD.dep (u', v), putD ff (npD (u', v)) d, ?_, .same (.same (.same (.same (.same (.same (.same (.same (.same (.same (.non .nil))))))))))⟩
            have e1 : freshV B known t k' ((known.getD u' []).take (m + 1)) = freshV B known t k' ((known.getD u' []).take m) ++ [(u', v)] := by
              rw [List.take_add_one, hmv]
              unfold freshV
              rw [List.filter_append, Option.toList_some, List.filter_cons_of_pos (by rw [hb']; rfl), List.filter_nil, List.map_append, List.map_singleton, hku]
            rw [e1, ← List.append_assoc, addKs_snoc]
            exact keys_put hf (u', v) d
        · rw [List.take_length] at hf
          rw [List.range_succ, freshA, List.flatMap_append, ← List.append_assoc, List.flatMap_singleton, hku]
          exact hf
        · exact hw4.trans (.same (.same (.same (.same (.same (.same (.same (.same (.non (.non (.non .nil)))))))))))
      · rw [List.length_zipIdx] at hf
        rw [List.take_add_one, htj, freshT, List.flatMap_append, Option.toList_some, List.flatMap_singleton]
        exact hf
      · exact hw3.trans (.same (.same (.same (.same (.same (.same (.non (.non (.non (.non (.non .nil)))))))))))
    · have hfs : ∀ p ∈ freshOf B n ts found, p.1 < n ∧ p.2 < B.size := fun p hp => fresh_small hF hp
      have hfsm : Sm (freshOf B n ts found) := fun p hp => by have := hfs p hp; omega
      have hfnd : (freshOf B n ts found).Nodup := addKs_nodup _ List.nodup_nil
      have hffl : ff.length ≤ 64 := by rw [keys_len hf]; exact hfsm.len hfnd
      have hddl : dd.length ≤ 64 := by rw [keys_len hk]; exact hsm.len hnd
      obtain ⟨m, hm⟩ : ∃ m, tot - a = m + 1 := ⟨tot - a - 1, by omega⟩
      refine ds_wk hw2 ?_
      by_cases h0 : freshOf B n ts found = []
      · have e0 : ff.length = 0 := by rw [keys_len hf, h0]; rfl
        refine ds_cons (M := fun _ => False) (d1_ifT (r := s1 ff) (tx_own (dt_eq (dt_eqE (hu1 hr) (dv 5) (isDn_of hf)) (decide_eq_true e0))) ?_) fun r h => h.elim
        refine ds_frz (i := 3) (sl := .ownN dd) rfl rfl rfl (ds_one (d_ret (dv 3) ⟨dd, rfl, ?_⟩))
        rw [hm, strikeR, if_pos h0] at hs
        rw [← hs]
        exact hk
      · have e0 : ff.length ≠ 0 := by rw [keys_len hf]; exact fun z => h0 (List.eq_nil_of_length_eq_zero z)
        refine ds_then (ρ' := s1 ff) (d1_ifF (r := s1 ff) (tx_own (dt_eq (dt_eqE (hu1 hr) (dv 5) (isDn_of hf)) (decide_eq_false e0))) (ds_nil rfl)) ?_
        refine ds_frz (i := 5) (sl := .ownN ff) rfl rfl rfl ?_
        let found' := addKs found (freshOf B n ts found)
        let dd' := dcD (·.1) (·.2) ff dd
        have hk' : KeysAre dd' found' := keys_upd hk hf
        have hnd' : found'.Nodup := addKs_nodup _ hnd
        have hsm' : Sm found' := fun p hp => ((addKs_mem _).mp hp).elim (hsm p) (hfsm p)
        have hs' : strikeR B n ts (tot - (a + 1)) found' = strikesOf B n ts := by
          rw [hm, strikeR, if_neg h0] at hs
          rw [show tot - (a + 1) = m by omega]
          exact hs
        let s5 : Sls := [.dat (bookD B), .dat (pnD n ts), .dat (knownD known), .ownN dd', .dat (.int (a : Nat)), .dat (.dict ff), .non, .non, .non, .non, .non]
        refine ds_then (ρ' := s5) (d1_updN (j := 3) (ds0 := dd) (fs := ff) (P := Is (.dict ff) _) (hu9 hr) (pv 3) rfl (ex_of (dv 5)) (fun d r h => ⟨h.2, h.1⟩) (isDn_of hf) (szl (by omega)) (.inr (np_nodup hf hfnd fun p hp => hfsm p hp)) rfl) ?_
        refine ds_then (ρ' := s5.set 2 (.ownL [])) (d_own 2 sc_strikes_of.nd do_nilL) ?_
        let s6 : List PyData → Sls := fun ks => [.dat (bookD B), .dat (pnD n ts), .ownL ks, .ownN dd', .dat (.int (a : Nat)), .dat (.dict ff), .non, .non, .non, .non, .non]
        refine ds_for (List.range n) (fun (i : Nat) => .int (i : Nat)) (fun j => s6 (((knownOf B.size n found').take j).map natsD)) PassesOwn.never rfl (di_range rfl (M.fr 9) (da_cons (pn_size (hu1 hr) (dv 1)) da_nil) (by omega)) (pn 9 sc_strikes_of.nd) (fun j u hju => ?_) ?_
        · have hj := List.getElem?_eq_some_iff.mp hju
          have eu : u = j := by rw [← hj.2]; simp
          subst eu
          have hun : u < n := by have := hj.1; simpa using this
          refine ⟨_, tgs_name, ?_⟩
          refine ds_one (d1_app (pv 2) rfl (ex_dcs (d := natsD ((List.range B.size).filter fun v => !decide ((u, v) ∈ found'))) (de_eq (de_lc (List.range B.size) (fun (v : Nat) => .int (v : Nat)) (fun v => !decide ((u, v) ∈ found')) (fun (v : Nat) => .int (v : Nat)) _ rfl sc_strikes_of.nd (di_range rfl (M.fr 9) (da_cons (bk_size (hu1 hr) (dv 0)) da_nil) (by omega)) (own := [("_law_value", 10)]) (blk_of rfl) (fun _ _ _ _ _ => pn 10 sc_strikes_of.nd) (szl (by rw [List.length_range]; omega)) (fun a _ => tg_name (by decide))
            (fun _ _ _ _ _ v _ => pts_if (dt_cmp (op_notInN (hu9 hr)) (rd_kn (neg := true) (a := (u, v)) (k := decide ((u, v) ∈ found')) hk' decide_eq_true_iff) (de_tup (da_cons (dv 9) (da_cons (dv 10) da_nil)) (show 2 ≤ sizeLine by decide)) (dv 3) rfl)) (fun _ _ _ _ _ v _ _ => dv 10)) rfl) (flat_nats _)) fun d r h => ?_)
          obtain ⟨rfl, rfl⟩ := h
          refine ⟨_, rfl, by rw [List.length_map, List.length_take]; exact szl' (by omega), ?_⟩
          have e2 : ((knownOf B.size n found').take (u + 1)).map natsD = ((knownOf B.size n found').take u).map natsD ++ [natsD ((List.range B.size).filter fun v => !decide ((u, v) ∈ found'))] := by
            rw [List.take_add_one, List.map_append]
            unfold knownOf
            rw [List.getElem?_map, List.getElem?_range hun]
            rfl
          rw [e2]
          exact .same (.same (.same (.same (.same (.same (.same (.same (.same (.non (.same .nil))))))))))
        · rw [List.length_range, List.take_of_length_le (by rw [known_len]; exact Nat.le_refl _)]
          refine ds_frz (i := 2) rfl rfl rfl (ds_nil ⟨found', dd', hk', hnd', hsm', hs', ?_⟩)
          exact .same (.same (.same (.same (.non (.non (.same (.same (.same (.same (.same .nil))))))))))
  · rw [List.length_range, Nat.sub_self] at hs
    have e : found = strikesOf B n ts := hs
    subst e
    exact ⟨dd, hk, hw⟩
  · refine ds_wk hw ?_
    exact ds_frz (i := 3) (sl := .ownN dd) rfl rfl rfl (ds_one (d_ret (dv 3) ⟨dd, rfl, hk⟩))
theorem cal_lists (M : Md K mg) (c : Cal P w K mg base 1 "_law_is_listed" ["_law_book_here", "_law_known", "_law_name", "_law_some", "_law_at", "_law_value"] (spD w K R_listed)) :
    Cal P w K mg base 3 "_law_lists_of" ["_law_book_here", "_law_net_here"] (spD w K R_lists) := M.cal 15 rfl (fun _ _ _ _ _ _ us hl => match us, hl with | [_, _], _ => rfl) fun f fd F => by
  refine fnD F sc_lists_of (fun ds d ⟨_, _, _, h, _⟩ => by rw [h]; rfl) fun cdv A outer s H E hr ds d h => ?_
  obtain ⟨B, n, ts, rfl, hB, hF, hn, hts, rfl⟩ := h
  have hsz := hB.size
  let found := strikesOf B n ts
  let st : List (PyData × PyData) → List PyData → Sls := fun dd ks => [.dat (bookD B), .dat (pnD n ts), .dat (.dict dd), .ownL ks, .non, .non]
  refine ds_cons (M := fun r => ∃ dd, KeysAre dd found ∧ r = st dd []) (d1_parXO (i := 2) (j := 3) (sl := fun _ _ => .ownL []) (fun ta ha => ps_parC rfl sc_lists_of.nd rfl rfl (by first | exact Or.inl rfl | exact Or.inr rfl) (by first | exact Or.inl rfl | exact Or.inr rfl) ha rfl)
    (ex_e (cal_strikes M c hB hF hn hts) (hr.mono (by decide)) (da_cons (dv 0) (da_cons (dv 1) da_nil)) rfl) (fun da r _ => do_nilL) (fun da r h => by obtain ⟨⟨dd, rfl, hk⟩, rfl⟩ := h; exact ⟨dd, hk, rfl⟩)) fun r hr0 => ?_
  obtain ⟨dd, hk, rfl⟩ := hr0
  have erows : ∀ j, ((listsOf B n ts).take j).map (fun l => rowD ⟨l⟩) = ((knownOf B.size n found).take j).map fun l => rowD ⟨l⟩ := fun j => rfl
  refine ds_for (List.range n) (fun (i : Nat) => .int (i : Nat)) (fun j => st dd (((knownOf B.size n found).take j).map fun l => rowD ⟨l⟩)) PassesOwn.never rfl (di_range rfl (M.fr 9) (da_cons (pn_size (hu1 hr) (dv 1)) da_nil) (by omega)) (pn 4 sc_lists_of.nd) (fun j u hju => ?_) ?_
  · have hj := List.getElem?_eq_some_iff.mp hju
    have eu : u = j := by rw [← hj.2]; simp
    subst eu
    have hun : u < n := by have := hj.1; simpa using this
    refine ⟨_, tgs_name, ?_⟩
    refine ds_one (d1_app (pv 3) rfl (ex_of (d := rowD ⟨(List.range B.size).filter fun v => !decide ((u, v) ∈ found)⟩) (de_callTy call_tuple_of rdc_tupleL rfl (M.fr 4) (by decide +kernel) (da_cons (de_lc (List.range B.size) (fun (v : Nat) => .int (v : Nat)) (fun v => !decide ((u, v) ∈ found)) (fun (v : Nat) => .int (v : Nat)) _ rfl sc_lists_of.nd (di_range rfl (M.fr 9) (da_cons (bk_size (hu1 hr) (dv 0)) da_nil) (by omega)) (own := [("_law_value", 5)]) (blk_of rfl) (fun _ _ _ _ _ => pn 5 sc_lists_of.nd) (szl (by rw [List.length_range]; omega)) (fun a _ => tg_name (by decide))
      (fun _ _ _ _ _ v _ => pts_if (dt_cmp (op_notInN (hu9 hr)) (rd_kn (neg := true) (a := (u, v)) (k := decide ((u, v) ∈ found)) hk decide_eq_true_iff) (de_tup (da_cons (dv 4) (da_cons (dv 5) da_nil)) (show 2 ≤ sizeLine by decide)) (dv 2) rfl)) (fun _ _ _ _ _ v _ _ => dv 5)) da_nil))) fun d r h => ?_)
    obtain ⟨rfl, rfl⟩ := h
    refine ⟨_, rfl, by rw [List.length_map, List.length_take]; exact szl' (by omega), ?_⟩
    have e2 : ((knownOf B.size n found).take (u + 1)).map (fun l => rowD ⟨l⟩) = ((knownOf B.size n found).take u).map (fun l => rowD ⟨l⟩) ++ [rowD ⟨(List.range B.size).filter fun v => !decide ((u, v) ∈ found)⟩] := by
      rw [List.take_add_one, List.map_append]
      unfold knownOf
      rw [List.getElem?_map, List.getElem?_range hun]
      rfl
    rw [e2]
    exact .same (.same (.same (.same (.non (.same .nil)))))
  · rw [List.length_range, List.take_of_length_le (by rw [known_len]; exact Nat.le_refl _)]
    refine ds_frz (i := 3) rfl rfl rfl (ds_one (d_ret (de_callTy call_tuple_of rdc_tupleL rfl (M.fr 4) (by decide +kernel) (da_cons (dv 3) da_nil)) rfl))
end
end K64

/-! ## W15 -/
/-! Walk: fillings_of. -/
namespace K64
open PySem PySem.Spec PyProof.Rows L2 PySem.W
def maxR (r : Row) : Nat := r.items.foldl max 0
theorem fold_cast : ∀ (l : List Nat) (a : Nat), (l.map fun (n : Nat) => (n : Int)).foldl max (a : Int) = ((l.foldl max a : Nat) : Int)
  | [], _ => rfl
  | b :: l, a => by
    show (l.map fun (n : Nat) => (n : Int)).foldl max (max (a : Int) (b : Int)) = ((l.foldl max (max a b) : Nat) : Int)
    rw [← fold_cast l (max a b)]
    congr 1
    omega
theorem max_row {a : Nat} {l : List Nat} : maxR ⟨a :: l⟩ = l.foldl max a := by
  show l.foldl max (max 0 a) = _
  rw [Nat.zero_max]
/-- max of a row -/
theorem de_maxR {X : Cx} {ρ : Env} {e : Expr} {r : Row} {p pos : Pos} (hc : X.calm = true) (hu : X.A.units + 64 < cLine) (hm : X.mg "max" = none) (he : DE X e ρ (rowD r)) (h : r.items ≠ []) (hg : Gl X "max" := by rfl) (hs : starEach [e] X.env = (false, eval e X.env) :: starEach [] X.env := by rfl) (hpl : (backTo pos (starEach [] X.env)).any (·.1) = false := by rfl) :
    DE X (.Call (.Name "max" p) [e] [] pos) ρ (.int (maxR r : Nat)) := by
  obtain ⟨its⟩ := r
  cases its with
  | nil => exact absurd rfl h
  | cons a l =>
    have e1 : rowD ⟨a :: l⟩ = .tuple (((a : Int) :: l.map fun (n : Nat) => (n : Int)).map PyData.int) := by
      show PyData.tuple (_ :: _) = PyData.tuple (_ :: _)
      rw [List.map_map]
      rfl
    rw [e1] at he
    refine de_eq (de_callB (crD_max hc hu) rdc_max hg hm PyProof.Rows.boot_max (da_cons he da_nil hs) (he := hs) (hpl := hpl)) ?_
    rw [fold_cast, max_row]
/-- the values that a row of unknowns has -/
def appR (l q : Row) : Row := ⟨q.items.map fun u => l.items.getD u 0⟩
def badF (B : Bk) (ts : List Tie) (l : Row) : List Tie := ts.filter fun t => !decide (appR l t.2 ∈ rowsAt B t.1)
def atMax (ts : List Tie) (k : Nat) : List Tie := ts.filter fun t => decide (maxR t.2 = k)
def okF (B : Bk) (ts : List Tie) (k : Nat) (l : Row) : Bool := decide (badF B (atMax ts k) l = [])
def fillS (B : Bk) (ts : List Tie) (k : Nat) (l : Row) (vs : List Nat) : List Row := (vs.filter fun v => okF B ts k (snocR l v)).map fun v => snocR l v
def fillL (B : Bk) (ts : List Tie) : Nat → List Row
  | 0 => [⟨[]⟩]
  | k + 1 => (fillL B ts k).flatMap fun l => fillS B ts k l (List.range B.size)
theorem fillS_len {B : Bk} {ts : List Tie} {k : Nat} {l : Row} {vs : List Nat} : (fillS B ts k l vs).length ≤ vs.length := by
  unfold fillS
  rw [List.length_map]
  exact List.length_filter_le _ _
theorem fillL_len (B : Bk) (ts : List Tie) : ∀ k, (fillL B ts k).length ≤ B.size ^ k
  | 0 => Nat.le_refl _
  | k + 1 => by
    have ih := fillL_len B ts k
    rw [fillL, Nat.pow_succ]
    refine Nat.le_trans ?_ (Nat.mul_le_mul_right _ ih)
    generalize fillL B ts k = m
    induction m with
    | nil => exact Nat.zero_le _
    | cons a m ih =>
      rw [List.flatMap_cons, List.length_append, List.length_cons, Nat.succ_mul, Nat.add_comm]
      have h1 := fillS_len (B := B) (ts := ts) (k := k) (l := a) (vs := List.range B.size)
      rw [List.length_range] at h1
      omega
theorem fillL_row {B : Bk} {ts : List Tie} : ∀ (k : Nat) (l : Row), l ∈ fillL B ts k → l.items.length = k
  | 0, l, h => by
    rw [fillL, List.mem_singleton] at h
    rw [h]; rfl
  | k + 1, l, h => by
    obtain ⟨q, h1, h2⟩ := List.mem_flatMap.mp h
    obtain ⟨v, _, rfl⟩ := List.mem_map.mp h2
    show (q.items ++ [v]).length = k + 1
    rw [List.length_append, fillL_row k q h1]
    rfl
def R_fill (ds : List PyData) (d : PyData) : Prop := ∃ (B : Bk) (n : Nat) (ts : List Tie), ds = [bookD B, pnD n ts] ∧ BkOk B ∧ FitB B n ts ∧ n ≤ 15 ∧ ts.length ≤ 1000 ∧ (∀ k, k ≤ n → B.size ^ k ≤ 50000) ∧ d = .list (rowsD (fillL B ts n))
theorem maxR_le {r : Row} {u : Nat} (h : u ∈ r.items) : u ≤ maxR r := by
  have go : ∀ (l : List Nat) (a : Nat), a ≤ l.foldl max a ∧ ∀ u ∈ l, u ≤ l.foldl max a := by
    intro l
    induction l with
    | nil => exact fun a => ⟨Nat.le_refl _, fun _ h => nomatch h⟩
    | cons b l ih =>
      intro a
      have := ih (max a b)
      refine ⟨Nat.le_trans (Nat.le_max_left a b) this.1, fun u hu => ?_⟩
      rcases List.mem_cons.mp hu with rfl | hu
      · exact Nat.le_trans (Nat.le_max_right a u) this.1
      · exact this.2 u hu
  exact (go r.items 0).2 u h
section
variable {X : Cx} {ρ : Env} {pos p1 p2 p3 p4 p5 p6 : Pos}
end
section
variable {P : Program} {w : World} {K : PySem.W.Frag} {mg : Str → Option Value} {base : Heap}
theorem cal_fill (M : Md K mg) : Cal P w K mg base 1 "_law_fillings_of" ["_law_book_here", "_law_net_here"] (spD w K R_fill) := M.cal 16 rfl (fun _ _ _ _ _ _ us hl => match us, hl with | [_, _], _ => rfl) fun f fd F => by
  refine fnD F sc_fillings_of (fun ds d ⟨_, _, _, h, _⟩ => by rw [h]; rfl) fun cdv A outer s H E hr ds d h => ?_
  obtain ⟨B, n, ts, rfl, hB, hF, hn, hts, hz, rfl⟩ := h
  have hsz := hB.size
  have hne : ∀ t ∈ ts, t.2.items ≠ [] := fun t ht e => by
    have := (hB.tie _ _ _ (hF t ht).1).1
    rw [e] at this
    exact absurd this (by decide)
  refine ds_then (d_let 2 (d := .list (rowsD (fillL B ts 0))) sc_fillings_of.nd (de_lst (da_cons (de_tup da_nil (by decide)) da_nil) (show 1 ≤ sizeLine by decide))) ?_
  let st : Nat → Sls := fun k => [.dat (bookD B), .dat (pnD n ts), .dat (.list (rowsD (fillL B ts k))), .non, .non, .non, .non, .non, .non, .non, .non, .non]
  refine ds_for (List.range n) (fun (i : Nat) => .int (i : Nat)) st PassesOwn.never rfl (di_range rfl (M.fr 9) (da_cons (pn_size (hu1 hr) (dv 1)) da_nil) (by omega)) (pn 3 sc_fillings_of.nd) (fun k a hka => ?_) ?_
  · have hk := List.getElem?_eq_some_iff.mp hka
    have ea : a = k := by rw [← hk.2]; simp
    subst ea
    have han : a < n := by have := hk.1; simpa using this
    refine ⟨_, tgs_name, ?_⟩
    let s1 : List Row → Sls := fun ls => [.dat (bookD B), .dat (pnD n ts), .dat (.list (rowsD (fillL B ts a))), .dat (.int (a : Nat)), .dat (.list (tiesD (atMax ts a))), .ownL (rowsD ls), .non, .non, .non, .non, .non, .non]
    refine ds_then (ρ' := (st a).set 3 (.dat (.int (a : Nat))) |>.set 4 (.dat (.list (tiesD (atMax ts a))))) (d_letLc 4 ts tieD (fun t => decide (maxR t.2 = a)) tieD _ rfl sc_fillings_of.nd (di_tup (pn_ties (hu1 hr) (dv 1))) (own := [("_law_name", 9), ("_law_some", 10)]) (blk_of rfl) (fun _ _ _ _ _ => pg_tup rfl (pgs_cons (pn 9 sc_fillings_of.nd) (pgs_cons (pn 10 sc_fillings_of.nd) pgs_nil))) (szl (by omega)) (fun a _ => tg_pair (by decide) (by decide))
      (fun _ _ _ _ _ t ht => pts_if (dt_eq (dt_cmp op_eq rd_eqI (de_maxR rfl (hu64 hr) (M.fr 11) (dv 10) (hne t ht)) (dv 3) (nomark _)) (decide_eq_decide.mpr (by omega)))) (fun _ _ _ _ _ t _ _ => de_tup (da_cons (dv 9) (da_cons (dv 10) da_nil)) (show 2 ≤ sizeLine by decide)) rfl) ?_
    refine ds_then (ρ' := s1 []) (d_own 5 sc_fillings_of.nd do_nilL) ?_
    have hlen : ∀ j, (((fillL B ts a).take j).flatMap fun l => fillS B ts a l (List.range B.size)).length ≤ 50000 := fun j => Nat.le_trans (take_flat_len (fillL B ts a) (fun l => fillS B ts a l (List.range B.size)) j) (Nat.le_trans (fillL_len B ts (a + 1)) (hz _ han))
    refine ds_for (fillL B ts a) rowD (fun j => s1 (((fillL B ts a).take j).flatMap fun l => fillS B ts a l (List.range B.size))) PassesOwn.never rfl (di_list (de_callTy call_list_of rdc_listL rfl (M.fr 6) (by decide +kernel) (da_cons (dv 2) da_nil))) (pn 6 sc_fillings_of.nd) (fun j l hjl => ?_) ?_
    · have hll := fillL_row a l (List.mem_of_getElem? hjl)
      have hpl := hlen j
      refine ⟨_, tgs_name, ?_⟩
      let pre := ((fillL B ts a).take j).flatMap fun l => fillS B ts a l (List.range B.size)
      have hpl : pre.length ≤ 50000 := hlen j
      let s2 : List Row → Sls := fun ls => [.dat (bookD B), .dat (pnD n ts), .dat (.list (rowsD (fillL B ts a))), .dat (.int (a : Nat)), .dat (.list (tiesD (atMax ts a))), .ownL (rowsD ls), .dat (rowD l), .non, .non, .non, .non, .non]
      refine ds_for (List.range B.size) (fun (v : Nat) => .int (v : Nat)) (fun m => s2 (pre ++ fillS B ts a l (List.range m))) PassesOwn.never rfl (di_range rfl (M.fr 9) (da_cons (bk_size (hu1 hr) (dv 0)) da_nil) (by omega)) (pn 7 sc_fillings_of.nd) (fun m v hmv => ?_) (ds_nil ?_) ?_
      · have hm := List.getElem?_eq_some_iff.mp hmv
        have ev : v = m := by rw [← hm.2]; simp
        subst ev
        have hv : v < B.size := by have := hm.1; simpa using this
        refine ⟨_, tgs_name, ?_⟩
        let s3 : Sls := [.dat (bookD B), .dat (pnD n ts), .dat (.list (rowsD (fillL B ts a))), .dat (.int (a : Nat)), .dat (.list (tiesD (atMax ts a))), .ownL (rowsD (pre ++ fillS B ts a l (List.range v))), .dat (rowD l), .dat (.int (v : Nat)), .dat (rowD (snocR l v)), .non, .non, .non]
        refine ds_then (ρ' := s3) (d1_imp (d_let 8 (d := rowD (snocR l v)) sc_fillings_of.nd (de_eq (de_op op_catA (rd_catT (szl (by rw [List.length_map, hll]; show a + 1 ≤ _; omega))) (dv 6) (de_tup (da_cons (dv 7) da_nil) (show 1 ≤ sizeLine by decide))) (rowD_snoc l v))) (fun r h => h) fun _ _ h => h) ?_
        have hsl : (snocR l v).items.length = a + 1 := by show (l.items ++ [v]).length = _; rw [List.length_append, hll]; rfl
        have hat : ∀ t ∈ atMax ts a, t ∈ ts ∧ maxR t.2 = a := fun t ht => ⟨(List.mem_filter.mp ht).1, of_decide_eq_true (List.mem_filter.mp ht).2⟩
        have htest : DT (cxN P w K mg base n_fillings_of "_law_fillings_of" s_fillings_of f cdv A outer s H E) (match (defBody s_fillings_of) with | _ :: .For _ _ (_ :: _ :: .For _ _ (.For _ _ (_ :: .If c _ _ _ :: _) _ _ :: _) _ _ :: _) _ _ :: _ => c | _ => .Constant .none 0 ⟨0, 0, 0, 0⟩) (er s3) (okF B ts a (snocR l v)) := by
          refine dt_eq (dt_cmp (opD_eq (α := List Nat) (hu64 hr) (by decide)) (rd_eqD2 (a := (badF B (atMax ts a) (snocR l v)).map fun _ => 1) (b := [])) (de_eq (de_lc (atMax ts a) tieD (fun t => !decide (appR (snocR l v) t.2 ∈ rowsAt B t.1)) (fun _ => .int (1 : Nat)) _ rfl sc_fillings_of.nd (di_list (dv 4)) (own := [("_law_name", 9), ("_law_some", 10)]) (blk_of rfl) (fun _ _ _ _ _ => pg_tup rfl (pgs_cons (pn 9 sc_fillings_of.nd) (pgs_cons (pn 10 sc_fillings_of.nd) pgs_nil))) (szl (Nat.le_trans (List.length_filter_le _ _) (by omega))) (fun a _ => tg_pair (by decide) (by decide))
            (fun _ _ _ _ _ t ht => pts_if (dt_cmp (opD_notIn (α := Row) (hu64 hr) (by decide)) (rd_ninT (a := appR (snocR l v) t.2) (bs := rowsAt B t.1)) (de_eq (de_callTy call_tuple_of rdc_tupleL rfl (M.fr 4) (by decide +kernel) (da_cons (de_map t.2.items (fun u => .int (u : Nat)) (fun u => .int ((snocR l v).items.getD u 0 : Nat)) _ rfl sc_fillings_of.nd (di_tup (dv 10)) (own := [("_law_one", 11)]) (blk_of rfl) (fun _ _ _ _ _ => pn 11 sc_fillings_of.nd) (szl (by have := (hB.tie _ _ _ (hF t (hat t ht).1).1).2.1; omega)) (fun a _ => tg_name (by decide))
              (fun _ _ _ _ _ u hu => row_ix (dv 8) (dv 11) (by have := maxR_le hu; have := (hat t ht).2; omega) (fun _ _ => rfl))) da_nil)) (by show PyData.tuple _ = PyData.tuple (List.map _ (List.map _ _)); rw [List.map_map]; rfl)) (bk_rows (hu1 hr) (dv 0) (dv 9) (hF t (hat t ht).1).1 (fun _ _ => rfl)) rfl))
            (fun _ _ _ _ _ t _ _ => de_int)) (by show PyData.list _ = PyData.list (List.map _ (List.map _ _)); rw [List.map_map]; rfl)) (de_lst da_nil (by decide)) (nomark _)) ?_
          unfold okF
          exact decide_eq_decide.mpr List.map_eq_nil_iff
        by_cases hok : okF B ts a (snocR l v) = true
        · refine ds_one (d1_ifT (r := s3) (tx_of (dt_eq htest hok)) (ds_one (d1_app (pv 5) rfl (ex_of (dv 8)) fun d r h => ?_)))
          obtain ⟨rfl, rfl⟩ := h
          have e1 : fillS B ts a l (List.range (v + 1)) = fillS B ts a l (List.range v) ++ [snocR l v] := by
            rw [List.range_succ]
            unfold fillS
            rw [List.filter_append, List.filter_cons_of_pos (p := fun v => okF B ts a (snocR l v)) hok, List.filter_nil, List.map_append]
            rfl
          have hfl := fillS_len (B := B) (ts := ts) (k := a) (l := l) (vs := List.range v)
          rw [List.length_range] at hfl
          refine ⟨_, rfl, by rw [List.length_map, List.length_append]; exact szl' (by omega), ?_⟩
          rw [e1, ← List.append_assoc]
          have e2 : rowsD (pre ++ fillS B ts a l (List.range v)) ++ [rowD (snocR l v)] = rowsD (pre ++ fillS B ts a l (List.range v) ++ [snocR l v]) := by
            show _ = List.map rowD (_ ++ [snocR l v])
            rw [List.map_append]
            rfl
          rw [e2]
          exact .same (.same (.same (.same (.same (.same (.same (.non (.non (.same (.same (.same .nil)))))))))))
        · have hok := Bool.eq_false_iff.mpr hok
          refine ds_one (d1_ifF (r := s3) (tx_of (dt_eq htest hok)) (ds_nil ?_))
          have e1 : fillS B ts a l (List.range (v + 1)) = fillS B ts a l (List.range v) := by
            rw [List.range_succ]
            unfold fillS
            rw [List.filter_append, List.filter_cons_of_neg (p := fun v => okF B ts a (snocR l v)) (by rw [hok]; exact Bool.false_ne_true), List.filter_nil, List.append_nil]
          rw [e1]
          exact .same (.same (.same (.same (.same (.same (.same (.non (.non (.same (.same (.same .nil)))))))))))
      · rw [List.length_range]
        have ht := take_flat (f := fun l => fillS B ts a l (List.range B.size)) hjl
        rw [ht]
        exact .same (.same (.same (.same (.same (.same (.non (.non (.non (.same (.same (.same .nil)))))))))))
      · rw [show fillS B ts a l (List.range 0) = [] from rfl, List.append_nil]
        exact .same (.same (.same (.same (.same (.same (.same (.same (.same (.same (.same (.same .nil)))))))))))
    · rw [List.take_length]
      refine ds_frz (i := 5) rfl rfl rfl ?_
      exact ds_imp (ds_one (d_let 2 sc_fillings_of.nd (dv 5))) (fun r h => by rw [h]; exact .same (.same (.same (.non (.non (.non (.non (.non (.non (.non (.non (.non .nil)))))))))))) fun _ _ h => h
  · rw [List.length_range]
    exact ds_one (d_ret (dv 2) rfl)
end
end K64

/-! ## W16 -/
/-! Walks: shadow_rows, shadows_of. -/
namespace K64
open PySem PySem.Spec PyProof.Rows L2 PySem.W
theorem keysOf_rows : ∀ l : List Row, keysOf (l.map rowD) = some (l.map fun r => NestedKey.tup (r.items.map fun n => .num (n : Nat)))
  | [] => rfl
  | r :: l => by
    have h1 : keyOf (rowD r) = some (.tup (r.items.map fun n => .num (n : Nat))) := by
      show keyOf (.tuple (r.items.map fun n => PyData.int (n : Nat))) = _
      rw [keyOf, keysOf_nums]
      rfl
    rw [List.map_cons, keysOf, h1, keysOf_rows l]
    rfl
theorem depth_rows : ∀ l : List Row, NestedKey.depthAll (l.map fun r => NestedKey.tup (r.items.map fun n => .num (n : Nat))) ≤ 1
  | [] => Nat.zero_le _
  | r :: l => by
    have := depth_rows l
    rw [List.map_cons, NestedKey.depthAll, NestedKey.depth, depth_nums]
    omega
theorem rows_inj : ∀ l m : List Row, (l.map fun r => NestedKey.tup (r.items.map fun n => .num (n : Nat))) = m.map (fun r => NestedKey.tup (r.items.map fun n => .num (n : Nat))) → l = m
  | [], [], _ => rfl
  | [], _ :: _, h => by cases h
  | _ :: _, [], h => by cases h
  | a :: l, b :: m, h => by
    rw [List.map_cons, List.map_cons] at h
    injection h with h1 h2
    injection h1 with h1
    have e1 := nums_inj _ _ h1
    obtain ⟨a⟩ := a
    obtain ⟨b⟩ := b
    rw [rows_inj l m h2, show a = b from e1]
instance : KeyD (Tup Row) where
  kf t := .tup (t.items.map fun r => .tup (r.items.map fun n => .num (n : Nat)))
  key t := by
    show keyOf (.tuple (t.items.map rowD)) = _
    rw [keyOf, keysOf_rows]
    rfl
  dep t := by
    have := depth_rows t.items
    rw [NestedKey.depth]
    omega
  tup t := ⟨_, rfl⟩
  inj a b h := by
    injection h with h
    have := rows_inj _ _ h
    obtain ⟨a⟩ := a
    obtain ⟨b⟩ := b
    rw [show a = b from this]
def withinB (places : Nat) (S : Tup Row) (r : Row) : Bool := decide (((List.range places).filter fun p => !decide (r.items.getD p 0 ∈ (S.items.getD p ⟨[]⟩).items)) = [])
def inS (places : Nat) (rs : List Row) (S : Tup Row) : List Row := rs.filter (withinB places S)
def placesT (places : Nat) (rs : List Row) : Tup Row := ⟨(List.range places).map fun p => ⟨placesL rs p⟩⟩
def isSh (places : Nat) (rs : List Row) (S : Tup Row) : Bool := !decide (inS places rs S = []) && decide (placesT places (inS places rs S) = S)
def shadowL (size places : Nat) (rs : List Row) : List (Tup Row) := (allTup (setsOf size) places).filter (isSh places rs)
def shadowD (places : Nat) (rs : List Row) (Ls : List (Tup Row)) : List (PyData × PyData) := dcD Datum.toD (fun S => .list (rowsD (inS places rs S))) Ls []
theorem shadowD_keys (places : Nat) (rs : List Row) (Ls : List (Tup Row)) : KeysAre (shadowD places rs Ls) (addKs [] Ls) := keys_dcD _ Ls rfl
theorem setsOf_len {size : Nat} (h : size ≤ 4) : (setsOf size).length ≤ 16 := by
  unfold setsOf
  rw [List.length_drop, (srt_perm _).length_eq, subsL_len]
  have := pow4 h
  omega
def RowsIn (d : PyData) (rs : List Row) : Prop := d = .tuple (rowsD rs) ∨ d = .list (rowsD rs)
def R_shadowRows (ds : List PyData) (sl : Sl) : Prop := ∃ (size places : Nat) (rs : List Row) (dr : PyData), ds = [.int (size : Nat), .int (places : Nat), dr] ∧ RowsIn dr rs ∧ size ≤ 4 ∧ places ≤ 3 ∧ rs.length < 64 ∧ (∀ r ∈ rs, r.items.length = places) ∧ sl = .ownN (shadowD places rs (shadowL size places rs))
theorem tup_ix {X : Cx} {ρ : Env} {a b : Expr} {p1 : Pos} {S : Tup Row} {i : Nat} (ha : DE X a ρ (tupD S)) (hb : DE X b ρ (.int (i : Nat))) (h : i < S.items.length) (hs : PlainIx b) : DE X (.Subscript a b p1) ρ (rowD (S.items.getD i ⟨[]⟩)) :=
  de_ix ix_tup (rd_ixT (atI_nat (by rw [List.getElem?_map, List.getElem?_eq_getElem h, List.getD_eq_getElem?_getD, List.getElem?_eq_getElem h]; rfl))) ha hb hs
theorem di_rows {X : Cx} {ρ : Env} {tg e : Expr} {d : PyData} {rs : List Row} (hd : RowsIn d rs) (he : DE X e ρ d) : DI X tg e ρ (rs.map rowD) := by
  rcases hd with rfl | rfl
  · exact di_tup he
  · exact di_list he
section
variable {P : Program} {w : World} {K : PySem.W.Frag} {mg : Str → Option Value} {base : Heap}
theorem cal_shadow_rows (M : Md K mg) (c1 : Cal P w K mg base 1 "_law_sets_of" ["_law_size"] (spD w K R_sets)) (c2 : Cal P w K mg base 1 "_law_all_tuples" ["_law_items", "_law_places"] (spD w K R_allTup)) (c3 : Cal P w K mg base 1 "_law_places_of" ["_law_rows", "_law_at"] (spD w K R_placesOf)) :
    Cal P w K mg base 2 "_law_shadow_rows" ["_law_size", "_law_places", "_law_rows"] (spO w K R_shadowRows) := M.cal 27 rfl (fun _ _ _ _ _ _ us hl => match us, hl with | [_, _, _], _ => rfl) fun f fd F => by
  refine fnO F sc_shadow_rows (fun ds d ⟨_, _, _, _, h, _⟩ => by rw [h]; rfl) fun cdv A outer s H E hr ds sl h => ?_
  obtain ⟨size, places, rs, dr, rfl, hdr, h1, h2, h3, h4, rfl⟩ := h
  have hsl := setsOf_len h1
  let all := allTup (setsOf size) places
  have hall : all.length ≤ 8000 := by
    show (allTup (setsOf size) places).length ≤ _
    rw [allTup_len]
    exact pow20 (by omega) h2
  let st : List (PyData × PyData) → Sls := fun dd => [.dat (.int (size : Nat)), .dat (.int (places : Nat)), .dat dr, .ownN dd, .non, .non, .non, .non]
  refine dso_then (ρ' := st []) (d_own 3 sc_shadow_rows.nd do_nilN) ?_
  refine dso_for all tupD (fun j => st (shadowD places rs ((all.take j).filter (isSh places rs)))) PassesOwn.never rfl (di_list (de_c c2 (hr.mono (by decide)) (da_cons (de_c c1 (hr.mono (by decide)) (da_cons (dv 0) da_nil) ⟨size, rfl, h1, rfl⟩) (da_cons (dv 1) da_nil)) ⟨setsOf size, places, rfl, by omega, h2, rfl⟩)) (pn 4 sc_shadow_rows.nd) (fun j S hj => ?_) ?_
  · have hS : S.items.length = places := allTup_row _ _ _ (List.mem_of_getElem? hj)
    have hjl : j < all.length := (List.getElem?_eq_some_iff.mp hj).1
    let pre := (all.take j).filter (isSh places rs)
    have hpre : pre.length ≤ 8000 := Nat.le_trans (List.length_filter_le _ _) (by rw [List.length_take]; omega)
    have hdd : (shadowD places rs pre).length ≤ 8000 := by have := dcD_len Datum.toD (fun S => .list (rowsD (inS places rs S))) pre []; rw [List.length_nil] at this; unfold shadowD; omega
    refine ⟨_, tgs_name, ?_⟩
    let s1 : Sls := [.dat (.int (size : Nat)), .dat (.int (places : Nat)), .dat dr, .ownN (shadowD places rs pre), .dat (tupD S), .dat (.list (rowsD (inS places rs S))), .non, .non]
    refine ds_then (ρ' := s1) (d_let 5 (d := .list (rowsD (inS places rs S))) sc_shadow_rows.nd (de_lc rs rowD (withinB places S) rowD _ rfl sc_shadow_rows.nd (di_rows hdr (dv 2)) (own := [("_law_row", 6)]) (blk_of rfl) (fun _ _ _ _ _ => pn 6 sc_shadow_rows.nd) (szl (by omega)) (fun a _ => tg_name (by decide))
      (fun _ _ _ _ _ r hr' => pts_if (dt_eq (dt_cmp (opD_eq (α := List Nat) (hu64 hr) (by decide)) (rd_eqD2 (a := (List.range places).filter fun p => !decide (r.items.getD p 0 ∈ (S.items.getD p ⟨[]⟩).items)) (b := [])) (de_lc (List.range places) (fun (p : Nat) => .int (p : Nat)) (fun p => !decide (r.items.getD p 0 ∈ (S.items.getD p ⟨[]⟩).items)) (fun (p : Nat) => .int (p : Nat)) _ rfl sc_shadow_rows.nd (di_range rfl (M.fr 9) (da_cons (dv 1) da_nil) (by omega)) (own := [("_law_at", 7)]) (blk_of rfl) (fun _ _ _ _ _ => pn 7 sc_shadow_rows.nd) (szl (by rw [List.length_range]; omega)) (fun a _ => tg_name (by decide))
        (fun _ _ _ _ _ p hp => pts_if (dt_cmp (opD_notIn (α := Nat) (hu64 hr) (by decide)) (rd_ninT (a := r.items.getD p 0) (bs := (S.items.getD p ⟨[]⟩).items)) (row_ix (dv 6) (dv 7) (by rw [h4 r hr']; exact List.mem_range.mp hp) (fun _ _ => rfl)) (tup_ix (dv 4) (dv 7) (by rw [hS]; exact List.mem_range.mp hp) (fun _ _ => rfl)) rfl)) (fun _ _ _ _ _ p _ _ => dv 7)) (de_lst da_nil (by decide)) (nomark _)) rfl)) (fun _ _ _ _ _ r _ _ => dv 6))) ?_
    have hin : ∀ r ∈ inS places rs S, r.items.length = places := fun r hr => h4 r (List.mem_filter.mp hr).1
    have hinl : (inS places rs S).length < 64 := Nat.lt_of_le_of_lt (List.length_filter_le _ _) h3
    have htest : DT (cxN P w K mg base n_shadow_rows "_law_shadow_rows" s_shadow_rows f cdv A outer s H E) (match (defBody s_shadow_rows) with | _ :: .For _ _ (_ :: .If c _ _ _ :: _) _ _ :: _ => c | _ => .Constant .none 0 ⟨0, 0, 0, 0⟩) (er s1) (isSh places rs S) := by
      refine DW.dt (dw_and (dt_cmp (opD_ne (α := List Row) (hu64 hr) (by decide)) (rd_neD2 (a := inS places rs S) (b := [])) (dv 5) (de_lst da_nil (by decide)) (nomark _)) (fun _ => dw_and1 (dt_cmp (opD_eq (α := Tup Row) (hu64 hr) (by decide)) (rd_eqD2 (a := placesT places (inS places rs S)) (b := S)) (de_eq (de_callTy call_tuple_of rdc_tupleL rfl (M.fr 4) (by decide +kernel) (da_cons
        (de_map (List.range places) (fun (p : Nat) => .int (p : Nat)) (fun p => rowD ⟨placesL (inS places rs S) p⟩) _ rfl sc_shadow_rows.nd (di_range rfl (M.fr 9) (da_cons (dv 1) da_nil) (by omega)) (own := [("_law_at", 7)]) (blk_of rfl) (fun _ _ _ _ _ => pn 7 sc_shadow_rows.nd) (szl (by rw [List.length_range]; omega)) (fun a _ => tg_name (by decide))
          (fun _ _ _ _ _ p hp => de_c c3 (hr.mono (by decide)) (da_cons (dv 5) (da_cons (dv 7) da_nil)) ⟨inS places rs S, p, rfl, hinl, fun r hr => by rw [hin r hr]; exact List.mem_range.mp hp, rfl⟩)) da_nil)) (by show PyData.tuple _ = PyData.tuple (List.map _ (List.map _ _)); rw [List.map_map]; rfl)) (dv 4) (nomark _))))
    have hback : ∀ dd, WeakL [.dat (.int (size : Nat)), .dat (.int (places : Nat)), .dat dr, .ownN dd, .dat (tupD S), .dat (.list (rowsD (inS places rs S))), .non, .non] (st dd) := fun dd => .same (.same (.same (.same (.non (.non (.same (.same .nil)))))))
    by_cases hs : isSh places rs S = true
    · refine ds_one (d1_ifT (r := s1) (tx_of (dt_eq htest hs)) (ds_one (d1_putN (j := 3) (ds0 := shadowD places rs pre) (hu9 hr) (pv 3) rfl (szl' (by omega)) (ex_of (dv 5)) (fun d r h => h.2) (ex_of (dv 4)) (fun d r h => h.2) fun d kd h8 h9 => ?_)))
      obtain ⟨rfl, _⟩ := h9
      obtain ⟨rfl, _⟩ := h8
      refine ⟨_, _, rfl, KeyD.key S, KeyD.dep S, ?_⟩
      have e1 : shadowD places rs ((all.take (j + 1)).filter (isSh places rs)) = putD (shadowD places rs pre) (tupD S) (.list (rowsD (inS places rs S))) := by
        rw [List.take_add_one, hj, List.filter_append, Option.toList_some, List.filter_cons_of_pos hs, List.filter_nil]
        exact dcD_snoc Datum.toD _ S _ []
      rw [e1]
      exact hback _
    · have hs := Bool.eq_false_iff.mpr hs
      refine ds_one (d1_ifF (r := s1) (tx_of (dt_eq htest hs)) (ds_nil ?_))
      rw [List.take_add_one, hj, List.filter_append, Option.toList_some, List.filter_cons_of_neg (by rw [hs]; exact Bool.false_ne_true), List.filter_nil, List.append_nil]
      exact hback _
  · rw [List.take_length]
    exact dso_ret (pv 3) rfl rfl
def R_shadows (ds : List PyData) (d : PyData) : Prop := ∃ (B : Bk) (x : Str) (n : Nat) (rs : List Row), ds = [bookD B, .str x] ∧ B.ties.lookup x = some (n, rs) ∧ B.size ≤ 3 ∧ 1 ≤ n ∧ n ≤ 3 ∧ rs.length < 64 ∧ (∀ r ∈ rs, r.items.length = n) ∧ d = .list ((srt (addKs [] (shadowL B.size n rs))).map tupD)
theorem sort_tups {Ls : List (Tup Row)} (h : ∀ S ∈ Ls, S.items ≠ []) : SortOk (Ls.map Datum.toD) := .inl (.inl fun d hd => by
  obtain ⟨S, hS, rfl⟩ := List.mem_map.mp hd
  have := h S hS
  obtain ⟨its⟩ := S
  cases its with
  | nil => exact absurd rfl this
  | cons a l => exact ⟨_, _, rfl⟩)
theorem shadowL_len {size n : Nat} {rs : List Row} {S : Tup Row} (h : S ∈ addKs [] (shadowL size n rs)) : S ∈ shadowL size n rs ∧ S.items.length = n := by
  rcases (addKs_mem _).mp h with h | h
  · cases h
  · exact ⟨h, allTup_row _ _ _ (List.mem_filter.mp h).1⟩
theorem cal_shadows (M : Md K mg) (c : Cal P w K mg base 2 "_law_shadow_rows" ["_law_size", "_law_places", "_law_rows"] (spO w K R_shadowRows)) : Cal P w K mg base 3 "_law_shadows_of" ["_law_book_here", "_law_name"] (spD w K R_shadows) := M.cal 17 rfl (fun _ _ _ _ _ _ us hl => match us, hl with | [_, _], _ => rfl) fun f fd F => by
  refine fnD F sc_shadows_of (fun ds d ⟨_, _, _, _, h, _⟩ => by rw [h]; rfl) fun cdv A outer s H E hr ds d h => ?_
  obtain ⟨B, x, n, rs, rfl, hl, hsz, hn1, hn3, hrs, hlen, rfl⟩ := h
  refine ds_cons (M := fun r => r = [.dat (bookD B), .dat (.str x), .dat (.int (n : Nat)), .dat (.tuple (rowsD rs))]) (d1_unpT (is := [2, 3]) rfl (ex_of (bk_tie (hu1 hr) (dv 0) (dv 1) hl (fun _ _ => rfl))) (pgs_cons (pn 2 sc_shadows_of.nd) (pgs_cons (pn 3 sc_shadows_of.nd) pgs_nil)) fun d r h => ?_) fun r hr0 => ?_
  · obtain ⟨rfl, rfl⟩ := h
    exact ⟨_, rfl, rfl, rfl⟩
  · subst hr0
    exact ds_one (d_ret (de_sortO rfl (hu64 hr) (by decide) (do_c c (hr.mono (by decide)) (da_cons (bk_size (hu1 hr) (dv 0)) (da_cons (dv 2) (da_cons (dv 3) da_nil))) ⟨B.size, n, rs, _, rfl, .inl rfl, by omega, hn3, hrs, hlen, rfl⟩) (shadowD_keys n rs _) (sort_tups fun S hS e => by have := (shadowL_len hS).2; rw [e] at this; exact absurd this (by rw [List.length_nil]; omega)) (M.fr 5)) rfl)
end
end K64

/-! ## W17 -/
/-! Walk: set_net_of. -/
namespace K64
open PySem PySem.Spec PyProof.Rows L2 PySem.W
theorem room65 {k : Nat} {A : Around} (hr : Room k A) : A.units + 65 < cLine := by have := hr.un; omega
structure BkF (B : Bk) : Prop where
  ok : BkOk B
  nd : (B.ties.map (·.1)).Nodup
  few : B.ties.length ≤ 8
  ne : B.ties ≠ []
  rows : ∀ x n rs, B.ties.lookup x = some (n, rs) → rs.length < 64
def placesAt (B : Bk) (x : Str) : Nat := ((B.ties.lookup x).map (·.1)).getD 0
abbrev namesOf (B : Bk) : List Str := srt (B.ties.map (·.1))
def idxT (size : Nat) (S : Tup Row) : Row := ⟨S.items.map fun r => (setsOf size).idxOf r⟩
def shadowsAt (B : Bk) (x : Str) : List (Tup Row) := srt (addKs [] (shadowL B.size (placesAt B x) (rowsAt B x)))
def setTiesAt (B : Bk) (x : Str) (Ss : List (Tup Row)) : List Tie := Ss.map fun S => (x, idxT B.size S)
def setTies (B : Bk) (xs : List Str) : List Tie := xs.flatMap fun x => setTiesAt B x (shadowsAt B x)
def setNetN (B : Bk) : Nat := (setsOf B.size).length
def setNetT (B : Bk) : List Tie := srt (setTies B (namesOf B))
def R_setNet (ds : List PyData) (d : PyData) : Prop := ∃ B : Bk, ds = [bookD B] ∧ BkF B ∧ d = pnD (setNetN B) (setNetT B)
theorem shadowsAt_len (B : Bk) (x : Str) (h : B.size ≤ 3) (hp : placesAt B x ≤ 3) : (shadowsAt B x).length ≤ 8000 := by
  unfold shadowsAt
  rw [(srt_perm _).length_eq]
  have h1 := addKs_len (shadowL B.size (placesAt B x) (rowsAt B x)) []
  have h2 : (shadowL B.size (placesAt B x) (rowsAt B x)).length ≤ (allTup (setsOf B.size) (placesAt B x)).length := List.length_filter_le _ _
  rw [allTup_len] at h2
  have h3 := setsOf_len (size := B.size) (by omega)
  have h4 := pow20 (n := (setsOf B.size).length) (k := placesAt B x) (by omega) hp
  rw [List.length_nil] at h1
  omega
theorem allTup_mem {its : List Row} : ∀ (k : Nat) (l : Tup Row), l ∈ allTup its k → ∀ r ∈ l.items, r ∈ its
  | 0, l, h, r, hr => by
    rw [allTup, List.mem_singleton] at h
    rw [h] at hr
    cases hr
  | k + 1, l, h, r, hr => by
    obtain ⟨q, h1, h2⟩ := List.mem_flatMap.mp h
    obtain ⟨v, hv, rfl⟩ := List.mem_map.mp h2
    rcases List.mem_append.mp hr with h | h
    · exact allTup_mem k q h1 r h
    · rw [List.mem_singleton] at h
      rw [h]; exact hv
theorem shadowsAt_mem {B : Bk} {x : Str} {S : Tup Row} (h : S ∈ shadowsAt B x) : S ∈ shadowL B.size (placesAt B x) (rowsAt B x) ∧ S.items.length = placesAt B x ∧ ∀ r ∈ S.items, r ∈ setsOf B.size := by
  unfold shadowsAt at h
  rw [srt_mem] at h
  have h1 := shadowL_len h
  exact ⟨h1.1, h1.2, allTup_mem _ _ (List.mem_filter.mp h1.1).1⟩
theorem lookup_of_mem {α : Type} : ∀ {l : List (Str × α)} {x : Str}, x ∈ l.map (·.1) → ∃ a, l.lookup x = some a
  | [], _, h => nomatch h
  | (y, a) :: l, x, h => by
    rw [List.lookup_cons]
    cases e : x == y with
    | true => exact ⟨a, rfl⟩
    | false =>
      rcases List.mem_cons.mp h with z | z
      · rw [z] at e
        simp at e
      · exact lookup_of_mem z
theorem take_map {α β : Type} (f : α → β) (l : List α) (n : Nat) : (l.map f).take n = (l.take n).map f := List.map_take.symm
section
variable {P : Program} {w : World} {K : PySem.W.Frag} {mg : Str → Option Value} {base : Heap}
theorem cal_set_net (M : Md K mg) (c1 : Cal P w K mg base 1 "_law_sets_of" ["_law_size"] (spD w K R_sets)) (c2 : Cal P w K mg base 3 "_law_shadows_of" ["_law_book_here", "_law_name"] (spD w K R_shadows)) :
    Cal P w K mg base 4 "_law_set_net_of" ["_law_book_here"] (spD w K R_setNet) := M.cal 18 rfl (fun _ _ _ _ _ _ us hl => match us, hl with | [_], _ => rfl) fun f fd F => by
  refine fnD F sc_set_net_of (fun ds d ⟨_, h, _⟩ => by rw [h]; rfl) fun cdv A outer s H E hr ds d h => ?_
  obtain ⟨B, rfl, hB, rfl⟩ := h
  have hsz := hB.ok.size
  have hsl := setsOf_len (size := B.size) (by omega)
  let sets : PyData := .list (rowsD (setsOf B.size))
  let st : List Tie → Sls := fun ts => [.dat (bookD B), .dat sets, .ownL (tiesD ts), .non, .non, .non]
  refine ds_cons (M := fun r => r = st []) (d1_parXO (i := 1) (j := 2) (sl := fun _ _ => .ownL []) (Pa := Is sets (ini n_set_net_of [bookD B])) (fun ta ha => ps_parC rfl sc_set_net_of.nd rfl rfl (by first | exact Or.inl rfl | exact Or.inr rfl) (by first | exact Or.inl rfl | exact Or.inr rfl) ha rfl)
    (ex_of (de_c c1 (hr.mono (by decide)) (da_cons (bk_size (hu1 hr) (dv 0)) da_nil) ⟨B.size, rfl, by omega, rfl⟩)) (fun da r _ => do_nilL) (fun da r h => by obtain ⟨rfl, rfl⟩ := h; rfl)) fun r hr0 => ?_
  subst hr0
  have hnames : (tiesE B.ties).map (·.1) = (B.ties.map (·.1)).map PyData.str := by
    show List.map _ (List.map _ (List.map _ _)) = List.map _ (List.map _ _)
    rw [List.map_map, List.map_map, List.map_map]
    rfl
  have hnl : (namesOf B).length ≤ 8 := by
    show (srt (B.ties.map (·.1))).length ≤ 8
    rw [(srt_perm _).length_eq, List.length_map]
    exact hB.few
  have hlk : ∀ x ∈ namesOf B, B.ties.lookup x = some (placesAt B x, rowsAt B x) := fun x hx => by
    obtain ⟨a, ha⟩ := lookup_of_mem (srt_mem.mp hx)
    unfold placesAt rowsAt
    rw [ha]
    rfl
  have hbig : ∀ j, (setTies B ((namesOf B).take j)).length ≤ j * 8000 := by
    intro j
    have hx : ∀ x ∈ (namesOf B).take j, (setTiesAt B x (shadowsAt B x)).length ≤ 8000 := fun x hx => by
      unfold setTiesAt
      rw [List.length_map]
      exact shadowsAt_len B x hsz (hB.ok.tie _ _ _ (hlk x (List.mem_of_mem_take hx))).2.1
    have hl : ((namesOf B).take j).length ≤ j := by rw [List.length_take]; omega
    have go : ∀ l : List Str, (∀ x ∈ l, (setTiesAt B x (shadowsAt B x)).length ≤ 8000) → (setTies B l).length ≤ l.length * 8000 := by
      intro l
      induction l with
      | nil => exact fun _ => Nat.zero_le _
      | cons a l ih =>
        intro h
        have h1 := h a List.mem_cons_self
        have h2 := ih fun x hx => h x (List.mem_cons_of_mem _ hx)
        unfold setTies at h2 ⊢
        rw [List.flatMap_cons, List.length_append, List.length_cons]
        omega
    exact Nat.le_trans (go _ hx) (Nat.mul_le_mul_right _ hl)
  refine ds_for (namesOf B) (fun x => PyData.str x) (fun j => st (setTies B ((namesOf B).take j))) PassesOwn.never rfl (di_list (de_callB (call_sortedD rfl) (rdc_sortK hnames hB.nd (by rw [List.length_map]; have := hB.few; omega) (dk_ties hB.ne)) rfl (M.fr 5) (by decide +kernel) (da_cons (bk_ties (hu1 hr) (dv 0)) da_nil))) (pn 3 sc_set_net_of.nd) (fun j x hj => ?_) ?_
  · have hxm := List.mem_of_getElem? hj
    have hjl : j < (namesOf B).length := (List.getElem?_eq_some_iff.mp hj).1
    have hx := hlk x hxm
    obtain ⟨hp1, hp3, hrows⟩ := hB.ok.tie _ _ _ hx
    have hpre := hbig j
    refine ⟨_, tgs_name, ?_⟩
    let pre := setTies B ((namesOf B).take j)
    have hpl : pre.length ≤ j * 8000 := hpre
    let s1 : List Tie → Sls := fun ts => [.dat (bookD B), .dat sets, .ownL (tiesD ts), .dat (.str x), .non, .non]
    refine ds_for (shadowsAt B x) tupD (fun k => s1 (pre ++ setTiesAt B x ((shadowsAt B x).take k))) PassesOwn.never rfl (di_list (de_c c2 (hr.mono (by decide)) (da_cons (dv 0) (da_cons (dv 3) da_nil)) ⟨B, x, placesAt B x, rowsAt B x, rfl, hx, hsz, hp1, hp3, hB.rows _ _ _ hx, fun r hr => (hrows r hr).1, rfl⟩)) (pn 4 sc_set_net_of.nd) (fun k S hk => ?_) (ds_nil ?_) ?_
    · obtain ⟨_, hSl, hSm⟩ := shadowsAt_mem (List.mem_of_getElem? hk)
      have hkl : k < (shadowsAt B x).length := (List.getElem?_eq_some_iff.mp hk).1
      have h8 := shadowsAt_len B x hsz hp3
      refine ⟨_, tgs_name, ?_⟩
      refine ds_one (d1_app (pv 2) rfl (ex_of (d := tieD (x, idxT B.size S)) (de_tup (da_cons (dv 3) (da_cons (de_eq (de_callTy call_tuple_of rdc_tupleL rfl (M.fr 4) (by decide +kernel) (da_cons (de_map S.items rowD (fun r => .int ((setsOf B.size).idxOf r : Nat)) _ rfl sc_set_net_of.nd (di_tup (dv 4)) (own := [("_law_some", 5)]) (blk_of rfl) (fun _ _ _ _ _ => pn 5 sc_set_net_of.nd) (szl (by omega)) (fun a _ => tg_name (by decide))
        (fun _ _ _ _ _ r hr' => de_index (α := Row) (a := r) (bs := setsOf B.size) (room65 hr) (by decide) (dv 1) (dv 5) (hSm r hr') (szl (by omega)))) da_nil)) (by show PyData.tuple _ = PyData.tuple (List.map _ (List.map _ _)); rw [List.map_map]; rfl)) da_nil)) (show 2 ≤ sizeLine by decide))) fun d r h => ?_)
      obtain ⟨rfl, rfl⟩ := h
      refine ⟨_, rfl, by rw [List.length_map, List.length_append]; unfold setTiesAt; rw [List.length_map, List.length_take]; exact szl' (by omega), ?_⟩
      have e1 : setTiesAt B x ((shadowsAt B x).take (k + 1)) = setTiesAt B x ((shadowsAt B x).take k) ++ [(x, idxT B.size S)] := by
        rw [List.take_add_one, hk]
        unfold setTiesAt
        rw [List.map_append]
        rfl
      rw [e1, ← List.append_assoc]
      have e2 : tiesD (pre ++ setTiesAt B x ((shadowsAt B x).take k)) ++ [tieD (x, idxT B.size S)] = tiesD (pre ++ setTiesAt B x ((shadowsAt B x).take k) ++ [(x, idxT B.size S)]) := by
        show _ = List.map tieD (_ ++ [(x, idxT B.size S)])
        rw [List.map_append]
        rfl
      rw [e2]
      exact .same (.same (.same (.same (.non (.same .nil)))))
    · rw [List.take_length]
      have ht := take_flat (f := fun x => setTiesAt B x (shadowsAt B x)) hj
      have e3 : setTies B ((namesOf B).take (j + 1)) = pre ++ setTiesAt B x (shadowsAt B x) := ht
      rw [e3]
      exact .same (.same (.same (.non (.non (.same .nil)))))
    · show WeakL _ (s1 (pre ++ []))
      rw [List.append_nil]
      exact .same (.same (.same (.same (.same (.same .nil)))))
  · rw [List.take_length]
    have hb := hbig (namesOf B).length
    rw [List.take_length] at hb
    refine ds_frz (i := 2) rfl rfl rfl (ds_one (d_ret (de_disp2 (k1 := .inr "size") (k2 := .inr "ties") (by decide) de_str (de_eq (de_callB call_len_seq rdc_lenL rfl (M.fr 1) PySem.boot_len (da_cons (dv 1) da_nil)) (by rw [List.length_map])) de_str (de_callTy call_tuple_of rdc_tupleL rfl (M.fr 4) (by decide +kernel) (da_cons (de_callB (crD_sorted (α := Tie) (hu64 hr) (by decide)) (rdc_sorted (bs := setTies B (namesOf B)) (sort_ties _) (szl (by omega))) rfl (M.fr 5) (by decide +kernel) (da_cons (dv 2) da_nil)) da_nil))) ?_))
    rfl
end
end K64

/-! ## W10 -/
/-! rows_any. -/
namespace K64
open PySem PySem.Spec PyProof.Rows L2 PySem.W
section
variable {X : Cx} {ρ : Sls} {a b : Expr} {pos : Pos} {Ca Cb : Int → Prop}
/-- a < b -/
theorem nx_lt (ha : NX X a ρ Ca) (hb : NX X b ρ Cb) (hm : behindInMarks .Lt b = false := by rfl) : TX X (.Compare a [.Lt] [b] pos) ρ (fun _ r => r = ρ) :=
  pt_imp (pt_cmpR op_lt ha hb hm) fun σ H Q ⟨F, G, S, q⟩ => ⟨F, G, S, fun x da r1 G1 H1 p1 S1 s1 dx => by
    obtain ⟨⟨n, rfl, cn⟩, rfl⟩ := p1
    cases dx
    refine ⟨F, G1, S1, fun y db r2 G2 H2 p2 S2 s2 dy => ?_⟩
    obtain ⟨⟨m, rfl, cm⟩, rfl⟩ := p2
    cases dy
    exact ⟨n, m, rfl, rfl, _, rfl, q _ _ G2 H2 rfl S2 (s1.trans s2)⟩⟩
end
/-- the rows as rows -/
def rowsOf (size places : Nat) : List Row := (allRows size places).map Tup.mk
theorem rowsOf_D (size places : Nat) : rowsL (allRows size places) = .list (rowsD (rowsOf size places)) := by
  show PyData.list _ = PyData.list (List.map rowD (List.map Tup.mk _))
  rw [List.map_map]
  rfl
def Pre_rowsAny (ds : List PyData) : Prop := ∃ size places : Nat, ds = [.int (size : Nat), .int (places : Nat)] ∧ size ≤ 3 ∧ places ≤ 3
def R_rowsAny (ds : List PyData) (d : PyData) : Prop := ∃ (size places : Nat) (rs : List Row), ds = [.int (size : Nat), .int (places : Nat)] ∧ rs.Sublist (rowsOf size places) ∧ d = .tuple (rowsD rs)
theorem rows_bound {size places k : Nat} (h1 : size ≤ 3) (h2 : places ≤ 3) (h : k ≤ places) : size ^ k ≤ 100000 := Nat.le_trans (Nat.pow_le_pow_left h1 k) (Nat.le_trans (Nat.pow_le_pow_right (by decide) (Nat.le_trans h h2)) (by decide))
section
variable {P : Program} {w : World} {K : PySem.W.Frag} {mg : Str → Option Value} {base : Heap}
theorem cal_rows_any (M : Md K mg) (c1 : Cal P w K mg base 1 "_law_all_rows" ["_law_size", "_law_places"] (spD w K R_all_rows)) (c2 : Cal P w K mg base 2 "_law_one_of" ["_law_sack_here", "_law_items"] (spK w K Pre_one R_one)) (c3 : Cal P w K mg base 1 "_law_grab" ["_law_sack_here", "_law_total"] (spK w K Pre_grab R_grab)) :
    Cal P w K mg base 3 "_law_rows_any" ["_law_sack_here", "_law_size", "_law_places"] (spK w K Pre_rowsAny R_rowsAny) := M.cal 25 rfl (fun _ _ _ _ _ _ us hl => match us, hl with | [_, _, _], _ => rfl) fun f fd F => by
  refine fnK F sc_rows_any (fun ds ⟨_, _, h, _⟩ => by rw [h]; rfl) fun cdv A outer s H E hr ds h => ?_
  obtain ⟨size, places, rfl, h1, h2⟩ := h
  let all := rowsOf size places
  have hal : all.length ≤ 100000 := by
    show ((allRows size places).map Tup.mk).length ≤ _
    rw [List.length_map, allRows_len]
    exact rows_bound h1 h2 (Nat.le_refl _)
  let st : Int → List Row → Sls := fun lot rs => [.sck, .dat (.int (size : Nat)), .dat (.int (places : Nat)), .dat (.list (rowsD all)), .dat (.int lot), .ownL (rowsD rs), .non]
  refine ds_cons (M := fun r => ∃ lot : Int, r = st lot []) (d1_par3XXO (i := 3) (j := 4) (l := 5) (Pb := fun _ db r => (∃ lot : Int, db = .int lot) ∧ r = iniK n_rows_any [.int (size : Nat), .int (places : Nat)]) (sl := fun _ _ _ => .ownL []) (fun ta ha => ps_par3 rfl sc_rows_any.nd rfl rfl rfl (by decide) (by decide) (by decide) rfl rfl rfl ha rfl) (ex_of (de_eq (de_c c1 (hr.mono (by decide)) (da_cons (dv 1) (da_cons (dv 2) da_nil)) ⟨size, places, rfl, by omega, by omega, fun k hk => rows_bound h1 h2 hk, rfl⟩) (rowsOf_D size places)))
    (fun da r h => ?_) (fun da r db r' h h' => do_nilL) (fun da r db r' h h' => ?_)) fun r hr' => ?_
  · obtain ⟨rfl, rfl⟩ := h
    refine ex_imp (ex_c c2 hr (pv 0) rfl (xa_of (da_cons (de_lst (da_cons de_int (da_cons de_int (da_cons de_int (da_cons de_int (da_cons de_int (da_cons de_int da_nil)))))) (show 6 ≤ sizeLine by decide)) da_nil)) (fun ds r ⟨h1, h2⟩ => ⟨_, .inl h1, by simp, by decide⟩)) fun db r' ⟨ds, ⟨e1, e2⟩, its, e3, hm⟩ => ⟨?_, e2⟩
    subst e1
    rcases e3 with e3 | e3
    · cases e3
      simp only [List.mem_cons, List.not_mem_nil, or_false] at hm
      rcases hm with e | e | e | e | e | e <;> exact ⟨_, e⟩
    · cases e3
  · obtain ⟨rfl, rfl⟩ := h
    obtain ⟨⟨lot, rfl⟩, rfl⟩ := h'
    exact ⟨lot, rfl⟩
  · obtain ⟨lot, rfl⟩ := hr'
    refine ds_cons (M := fun r => ∃ rs : List Row, rs.Sublist all ∧ WeakL r (st lot rs)) (d1_for all rowD (fun i r => ∃ rs : List Row, rs.Sublist (all.take i) ∧ WeakL r (st lot rs)) PassesOwn.never rfl (di_list (dv 3)) (pn 6 sc_rows_any.nd) ⟨[], List.Sublist.refl _, WeakL.refl _⟩ (fun i a r ha ⟨rs, hs, hw⟩ => ?_) (fun r ⟨rs, hs, hw⟩ => ⟨rs, by rwa [List.take_length] at hs, hw⟩)) fun r ⟨rs, hs, hw⟩ => ?_
    · have hi := (List.getElem?_eq_some_iff.mp ha).1
      have hlen : rs.length ≤ i := by have := hs.length_le; rw [List.length_take] at this; omega
      refine ⟨(st lot rs).set 6 (.dat (rowD a)), fun x σ F G H Q S dx q => tgs_name x σ F G H Q (S.weak hw.weak.1 hw.weak.2) dx q, ?_⟩
      have hsnoc : (rs ++ [a]).Sublist (all.take (i + 1)) := by
        rw [List.take_add_one, ha]
        exact List.Sublist.append hs (List.Sublist.refl _)
      have hkeep : rs.Sublist (all.take (i + 1)) := hs.trans (by rw [List.take_add_one]; exact List.sublist_append_left _ _)
      refine ds_one (d1_if (P := fun _ r => r = (st lot rs).set 6 (.dat (rowD a))) (nx_lt (Ca := fun _ => True) (Cb := fun _ => True) (ex_imp (ex_c c3 (hr.mono (by decide)) (pv 0) rfl (xa_of (da_cons de_int da_nil)) (fun ds r ⟨h1, h2⟩ => ⟨6, h1, by decide, by decide⟩)) fun d r ⟨ds, ⟨e1, e2⟩, n, m, _, e3, _⟩ => ⟨⟨m, e3, trivial⟩, e2⟩) (nx_of (dv 4) trivial)) (fun r hr2 => ?_) fun r hr2 => ds_nil ?_)
      · subst hr2
        refine ds_one (d1_app (pv 5) rfl (ex_of (dv 6)) fun d r h => ?_)
        obtain ⟨rfl, rfl⟩ := h
        refine ⟨_, rfl, by rw [List.length_map]; exact szl' (by omega), rs ++ [a], hsnoc, ?_⟩
        show WeakL _ [_, _, _, _, _, Sl.ownL (List.map rowD (rs ++ [a])), _]
        rw [List.map_append]
        exact .same (.same (.same (.same (.same (.same (.non .nil))))))
      · subst hr2
        exact ⟨rs, hkeep, .same (.same (.same (.same (.same (.same (.non .nil))))))⟩
    · refine ds_wk hw ?_
      refine ds_frz (i := 5) rfl rfl rfl ?_
      exact ds_one (d_ret (de_callTy call_tuple_of rdc_tupleL rfl (M.fr 4) (by decide +kernel) (da_cons (dv 5) da_nil)) ⟨size, places, rs, rfl, hs, rfl⟩)
end
end K64

/-! ## W18 -/
/-! Walks: closed_rows, any_chooser. -/
namespace K64
open PySem PySem.Spec PyProof.Rows L2 PySem.W
/-! ### calls that make, among what is owned -/
def tOX (w : World) (K : PySem.W.Frag) (ρ : Sls) (sl : Sl) : TE := fun σ H Q => ∃ F G, StG w K F ρ σ G H ∧ ∀ p b G1 H1 G' H', StG w K F ρ σ G1 H1 → Same G G1 → Grow G1 H1 G' H' → H1 p = none → G' p = none → H' p = some b → Hold w K G' p sl b → Q (.ref p) H'
section
variable {X : Cx} {ρ : Sls} {pos : Pos} {e : Expr} {sl : Sl}
theorem ox_c {k : Nat} {ps : List Str} {R : List PyData → Sl → Prop} {x : Str} {es : List Expr} {p : Pos} {Pa : List PyData → Sls → Prop} (c : Cal X.prog X.w X.K X.mg X.base k x ps (spO X.w X.K R)) (hr : Room k X.A) (ha : XA X (e :: es) ρ Pa) (h : ∀ ds r, Pa ds r → R ds sl ∧ r = ρ)
    (hg : Gl X x := by rfl) (hdb : (x == ("__debug__" : Str)) = false := by decide) (he : starEach (e :: es) X.env = (false, eval e X.env) :: starEach es X.env := by rfl) (hpl : (backTo pos (starEach es X.env)).any (·.1) = false := by rfl) : PE X (.Call (.Name x p) (e :: es) [] pos) (tOX X.w X.K ρ sl) := by
  obtain ⟨f, fd, F, hm, hk, hb⟩ := c
  refine pe_imp (pe_call F hr hg hm hk hb .nil pass0 ha hdb he hpl) fun σ H Q ⟨F', G, S, q⟩ => ⟨F', G, S, fun vs ds r G1 H1 p1 S1 s1 dvs => ?_⟩
  obtain ⟨hR, rfl⟩ := h ds r p1
  exact ⟨G1, ds, sl, S1.grow.s, by rw [List.append_nil]; exact dvs, hR, fun p b G' H' g h1 h2 h3 h4 => q p b G1 H1 G' H' S1 s1 g h1 h2 h3 h4⟩
/-- for k in e, e a new nested-key dict -/
theorem xi_keysN {tg : Expr} {ds : List (PyData × PyData)} (he : PE X e (tOX X.w X.K ρ (.ownN ds))) : XI X tg e ρ (fun L r => L = ds.map (·.1) ∧ r = ρ) := by
  refine ⟨fun pins s σ H R I h => ?_⟩
  obtain ⟨F, G, S, q⟩ := h
  refine thn (he.run pins s σ H (fun v H2 => ∃ p es G1 H1 G', v = V.ref p ∧ StG X.w X.K F ρ σ G1 H1 ∧ Same G G1 ∧ Grow G1 H1 G' H2 ∧ H1 p = none ∧ G' p = none ∧ H2 p = some (NDO X.w p es) ∧ DxN X.w X.K G' es ds) I ⟨F, G, S, fun p b G1 H1 G' H' S1 s1 g h1 h2 h3 h4 => by
    obtain ⟨es, rfl, r⟩ := h4
    exact ⟨p, es, G1, H1, G', rfl, S1, s1, g, h1, h2, h3, r⟩⟩) fun u s1 ⟨x, H2, I1, rx, p, es, G1, H1, G', ex, S1, s2, g, h1, h2, h3, r⟩ => ?_
  subst ex
  obtain rfl : u = Value.ref p := rx
  obtain ⟨od, I2⟩ := I1.lock h3 True.intro
  obtain ⟨hs, hgd, hx, ents, ep, hdt, hsz, ent⟩ := frzN I2 upd_same
  have sG : Same G' (upd G' p (.frz od (NDO X.w p es))) := same_new h2
  have g2 : Grow G1 H1 (upd G' p (.frz od (NDO X.w p es))) (upd H2 p (.frz od (NDO X.w p es))) := by
    refine ⟨g.g.trans sG, fun a o e => ?_, fun a o e => ?_, fun a e1 e2 => ?_⟩
    · rw [upd_ne (ne_of_none e h1)]
      exact g.h _ _ e
    · by_cases z : a = p
      · subst z
        rw [upd_same] at e ⊢
        exact e
      · rw [upd_ne z] at e ⊢
        exact g.s _ _ e
    · have z : a ≠ p := fun z => e2 (by rw [z]; exact h1)
      rw [upd_ne z]
      exact g.n a e1 e2
  refine iter_keys hs hgd hx hdt (pi_one (tk := s1.toks) I2 _ (turn_keysN _ hdt) ⟨_, Heap.get?_push_size _ rfl, rfl, ?_⟩ (q _ _ ρ _ _ ⟨rfl, rfl⟩ (S1.mono g2) (s2.trans g2.g) (wk_keysN upd_same (r.mono sG))))
  rw [hsz] <;> rfl
end
section
variable {w : World} {K : PySem.W.Frag} {ρ : Sls} {d : PyData}
theorem td_dcs (hs : flat d = true) {σ : L2.St} {H : Hp} {Q : VK} (t : tX w K ρ (Is d ρ) σ H Q) : tD w K (erD ρ) d σ H Q := by
  obtain ⟨F, G, S, q⟩ := t
  refine ⟨plus σ ρ isDc G H, (plus_same S _).2, plus_env S _ _ fun sl d => dcs_own, fun v G' H' g dx => ?_⟩
  have hG : ∀ a, (∃ (i : Nat) (sl : Sl), ρ[i]? = some sl ∧ sl.isOwn = true ∧ isDc sl = true ∧ σ[i]? = some (some (V.ref a))) → G a = none ∧ H a ≠ none ∧ ∀ o, plus σ ρ isDc G H a = some o → dictO w a o := by
    rintro a ⟨i, sl, h1, h2, h3, h4⟩
    obtain ⟨p, b, e1, e2, e3, e4, e5, e6⟩ := SlOk.own h2 (S.at_ i sl h1)
    rw [h4] at e1
    cases e1
    refine ⟨e3, (by rw [e2]; exact fun z => nomatch z), fun o ho => ?_⟩
    unfold plus at ho
    rw [if_pos ⟨i, sl, h1, h2, h3, h4⟩, e2] at ho
    cases ho
    cases sl with
    | ownK ds => obtain ⟨kvs, r1, _⟩ := e6; exact .inl ⟨kvs, r1⟩
    | ownN ds => obtain ⟨kvs, r1, _⟩ := e6; exact .inr ⟨kvs, r1⟩
    | _ => cases h3
  have g2 : Grow G H (less σ ρ isDc G') H' := by
    refine ⟨fun a o e => ?_, g.h, fun a o e => ?_, fun a e1 e2 => ?_⟩
    · unfold less
      split
      · rename_i z
        rw [(hG a z).1] at e; cases e
      · exact g.g a o ((plus_same S isDc).1 a o e)
    · unfold less at e
      split at e
      · cases e
      · exact g.s a o e
    · unfold less
      split
      · rfl
      · rename_i z
        refine g.n a ?_ e2
        unfold plus
        rw [if_neg z]
        exact e1
  refine q v d ρ _ H' ⟨rfl, rfl⟩ (S.mono g2) g2.g (dx_less (fun a o e => ?_) dx hs)
  by_cases z : ∃ (i : Nat) (sl : Sl), ρ[i]? = some sl ∧ sl.isOwn = true ∧ isDc sl = true ∧ σ[i]? = some (some (V.ref a))
  · obtain ⟨z1, z2, z3⟩ := hG a z
    obtain ⟨b, hb⟩ := Option.ne_none_iff_exists'.mp z2
    have hp : plus σ ρ isDc G H a = some b := by
      unfold plus
      rw [if_pos z]
      exact hb
    have : G' a = some b := g.g a b hp
    rw [this] at e
    exact .inr (Option.some.inj e ▸ z3 b hp)
  · left
    unfold less
    rw [if_neg z]
    exact e
end
section
variable {X : Cx} {ρ : Sls} {N : Sls → Prop} {R : PyData → Sls → Prop} {e : Expr} {pos pos' : Pos} {x : Str} {d : PyData}
/-- x = e, e reads dicts that are owned -/
theorem d1_setD {i : Nat} (hs : flat d = true) (hp : PS X (.Assign [.Name x pos'] e pos) (tAsg (tD X.w X.K (erD ρ) d) (gName i))) (hn : N (ρ.set i (.dat d))) : D1 X (.Assign [.Name x pos'] e pos) ρ N R :=
  ps_imp hp fun D σ H ⟨F, G, S, qn, _⟩ => td_dcs hs ⟨F, G, S, fun v d' ρ' G' H' ⟨h1, h2⟩ S' s' dx => by
    subst h1 h2
    exact qn _ _ G' H' hn (S'.set dx) s'⟩
end
/-! ### what a dict has under a key -/
theorem lookT_cons {p : PyData × PyData} {ds : List (PyData × PyData)} {k : NestedKey} : lookT (p :: ds) k = if keyOf p.1 = some k then some p.2 else lookT ds k := by
  unfold lookT
  by_cases h : keyOf p.1 = some k
  · rw [List.find?_cons_of_pos (by simpa using h), if_pos h]; rfl
  · rw [List.find?_cons_of_neg (by simpa using h), if_neg h]
theorem lookT_snoc {kd d : PyData} : ∀ {ds : List (PyData × PyData)} {k : NestedKey}, (∀ e ∈ ds, keyOf e.1 ≠ keyOf kd) → lookT (ds ++ [(kd, d)]) k = if keyOf kd = some k then some d else lookT ds k
  | [], k, _ => by
    show lookT [(kd, d)] k = _
    rw [lookT_cons]
  | e :: ds, k, h => by
    rw [List.cons_append, lookT_cons, lookT_cons, lookT_snoc fun e he => h e (List.mem_cons_of_mem _ he)]
    by_cases h1 : keyOf e.1 = some k
    · rw [if_pos h1, if_pos h1, if_neg fun z => h e List.mem_cons_self (by rw [h1, z])]
    · rw [if_neg h1, if_neg h1]
theorem lookT_map {kd d : PyData} {k : NestedKey} : ∀ {ds : List (PyData × PyData)}, lookT (ds.map fun e => if keyOf e.1 = keyOf kd then (e.1, d) else e) k = if keyOf kd = some k ∧ (∃ e ∈ ds, keyOf e.1 = keyOf kd) then some d else lookT ds k
  | [] => by
    rw [if_neg fun z => by obtain ⟨_, e, he, _⟩ := z; cases he]
    rfl
  | e :: ds => by
    rw [List.map_cons, lookT_cons, lookT_cons, lookT_map]
    by_cases h1 : keyOf e.1 = keyOf kd
    · rw [if_pos h1]
      by_cases h2 : keyOf kd = some k
      · rw [if_pos (show keyOf e.1 = some k by rw [h1, h2]), if_pos ⟨h2, e, List.mem_cons_self, h1⟩]
      · rw [if_neg (show ¬ keyOf e.1 = some k by rw [h1]; exact h2), if_neg (show ¬ keyOf e.1 = some k by rw [h1]; exact h2), if_neg fun z => h2 z.1, if_neg fun z => h2 z.1]
    · rw [if_neg h1]
      by_cases h3 : keyOf e.1 = some k
      · rw [if_pos h3, if_pos h3, if_neg fun z => h1 (by rw [h3, z.1])]
      · rw [if_neg h3, if_neg h3]
        by_cases h4 : keyOf kd = some k ∧ ∃ e ∈ ds, keyOf e.1 = keyOf kd
        · obtain ⟨h5, e', h6, h7⟩ := h4
          rw [if_pos ⟨h5, e', h6, h7⟩, if_pos ⟨h5, e', List.mem_cons_of_mem _ h6, h7⟩]
        · rw [if_neg h4, if_neg]
          rintro ⟨h5, e', h6, h7⟩
          rcases List.mem_cons.mp h6 with rfl | h6
          · exact h1 h7
          · exact h4 ⟨h5, e', h6, h7⟩
theorem lookT_put {ds : List (PyData × PyData)} {kd d : PyData} {k : NestedKey} : lookT (putD ds kd d) k = if keyOf kd = some k then some d else lookT ds k := by
  unfold putD
  by_cases h : (ds.any fun e => decide (keyOf e.1 = keyOf kd)) = true
  · rw [if_pos h, lookT_map]
    obtain ⟨e, he, h2⟩ := List.any_eq_true.mp h
    by_cases h3 : keyOf kd = some k
    · rw [if_pos ⟨h3, e, he, of_decide_eq_true h2⟩, if_pos h3]
    · rw [if_neg fun z => h3 z.1, if_neg h3]
  · rw [if_neg h]
    refine lookT_snoc fun e he z => h (List.any_eq_true.mpr ⟨e, he, decide_eq_true z⟩)
/-- a plain chooser -/
def PlainOk (size : Nat) (pd : List (PyData × PyData)) : Prop := IsDn pd ∧ ∀ r ∈ setsOf size, ∃ v : Nat, v < size ∧ lookT pd (KeyD.kf r) = some (.int (v : Nat))
def RowIn (size places : Nat) (r : Row) : Prop := r.items.length = places ∧ ∀ v ∈ r.items, v < size
theorem allRows_has (size : Nat) : ∀ (k : Nat) (l : List Nat), l.length = k → (∀ v ∈ l, v < size) → l ∈ allRows size k
  | 0, l, h, _ => by
    rw [List.eq_nil_of_length_eq_zero h]
    exact List.mem_singleton.mpr rfl
  | k + 1, l, h, hv => by
    have hne : l ≠ [] := fun e => by rw [e] at h; cases h
    have e := List.dropLast_concat_getLast hne
    rw [allRows]
    refine List.mem_flatMap.mpr ⟨l.dropLast, allRows_has size k _ (by rw [List.length_dropLast, h]; rfl) fun v hv' => hv v ((List.dropLast_sublist l).subset hv'), List.mem_map.mpr ⟨l.getLast hne, List.mem_range.mpr (hv _ (List.getLast_mem hne)), e⟩⟩
theorem rowsIn_len {size places : Nat} {rs : List Row} (h1 : size ≤ 3) (h2 : places ≤ 3) (hn : rs.Nodup) (h : ∀ r ∈ rs, RowIn size places r) : rs.length ≤ 27 := by
  have := nodup_len (m := rowsOf size places) hn fun r hr => List.mem_map.mpr ⟨r.items, allRows_has size places _ (h r hr).1 (h r hr).2, rfl⟩
  refine Nat.le_trans this ?_
  unfold rowsOf
  rw [List.length_map, allRows_len]
  exact Nat.le_trans (Nat.pow_le_pow_left h1 _) (Nat.pow_le_pow_right (by decide) h2)
theorem sort_rows {rs : List Row} {places : Nat} (h0 : 1 ≤ places) (h : ∀ r ∈ rs, r.items.length = places) : SortOk (rs.map Datum.toD) := .inl (.inl fun d hd => by
  obtain ⟨S, hS, rfl⟩ := List.mem_map.mp hd
  have := h S hS
  obtain ⟨its⟩ := S
  cases its with
  | nil => rw [List.length_nil] at this; omega
  | cons a l => exact ⟨_, _, rfl⟩)
def Pre_closed (ds : List PyData) : Prop := ∃ (size places : Nat) (rs : List Row) (pd : List (PyData × PyData)), ds = [.int (size : Nat), .int (places : Nat), .tuple (rowsD rs), .dict pd] ∧ size ≤ 3 ∧ 1 ≤ places ∧ places ≤ 3 ∧ rs.length ≤ 100 ∧ (∀ r ∈ rs, RowIn size places r) ∧ PlainOk size pd
def R_closed (ds : List PyData) (d : PyData) : Prop := ∃ (size places : Nat) (x y : PyData) (rs : List Row), ds = [.int (size : Nat), .int (places : Nat), x, y] ∧ d = .tuple (rowsD rs) ∧ rs.Nodup ∧ ∀ r ∈ rs, RowIn size places r
theorem flat_rows (rs : List Row) : flat (.list (rowsD rs)) = true := flat_of_plain _ (plainAll_map rs)
section
variable {P : Program} {w : World} {K : PySem.W.Frag} {mg : Str → Option Value} {base : Heap}
theorem cal_closed (M : Md K mg) (c1 : Cal P w K mg base 1 "_law_all_rows" ["_law_size", "_law_places"] (spD w K R_all_rows)) (c2 : Cal P w K mg base 2 "_law_shadow_rows" ["_law_size", "_law_places", "_law_rows"] (spO w K R_shadowRows)) :
    Cal P w K mg base 3 "_law_closed_rows" ["_law_size", "_law_places", "_law_rows", "_law_plain"] (spE w K Pre_closed R_closed) := M.cal 29 rfl (fun _ _ _ _ _ _ us hl => match us, hl with | [_, _, _, _], _ => rfl) fun f fd F => by
  refine fnE F sc_closed_rows (fun ds ⟨_, _, _, _, h, _⟩ => by rw [h]; rfl) fun cdv A outer s H E hr ds h => ?_
  obtain ⟨size, places, rs, pd, rfl, h1, h2, h3, h4, h5, hpn, hpl⟩ := h
  let st : List (PyData × PyData) → Sls := fun dd => [.dat (.int (size : Nat)), .dat (.int (places : Nat)), .dat (.tuple (rowsD rs)), .dat (.dict pd), .ownN dd, .non, .non, .non, .non, .non, .non]
  let Ok : List (PyData × PyData) → Prop := fun dd => ∃ bs : List Row, KeysAre dd bs ∧ bs.Nodup ∧ ∀ r ∈ bs, RowIn size places r
  have mkprs : ∀ l : List Row, (l.map fun r => (rowD r, PyData.bool true)) = l.map fun r => (Datum.toD r, PyData.bool true) := fun l => rfl
  have keys0 : ∀ (l : List Row), KeysAre (l.map fun r => (rowD r, PyData.bool true)) l := fun l => by
    show List.map _ (List.map _ l) = List.map _ l
    rw [List.map_map]
    rfl
  have hkey : ∀ (l : List Row), ∀ p ∈ (l.map fun r => (rowD r, PyData.bool true)), ∃ ks k, p.1 = .tuple ks ∧ keyOf p.1 = some k ∧ k.depth ≤ 8 := fun l p hp => by
    obtain ⟨r, _, rfl⟩ := List.mem_map.mp hp
    exact ⟨_, _, rfl, KeyD.key r, KeyD.dep r⟩
  have ok0 : Ok (dcD (·.1) (·.2) (rs.map fun r => (rowD r, PyData.bool true)) []) := ⟨addKs [] rs, keys_upd (ds := []) (as := []) rfl (keys0 rs), addKs_nodup _ List.nodup_nil, fun r hr => by
    rcases (addKs_mem rs).mp hr with h | h
    · cases h
    · exact h5 r h⟩
  have hdisp : ∀ l : List Row, PyData.list ((l.map fun r => (rowD r, PyData.bool true)).map fun p => PyData.tuple [p.1, p.2]) = .list (l.map fun r => .tuple [rowD r, .bool true]) := fun l => by rw [List.map_map]; rfl
  refine ds_then (ρ' := st (dcD (·.1) (·.2) (rs.map fun r => (rowD r, PyData.bool true)) [])) (d_own 4 sc_closed_rows.nd (do_callTy (call_dictN rfl (hu64 hr)) (rdo_dictN (prs := rs.map fun r => (rowD r, PyData.bool true)) (hkey rs)) rfl (M.fr 8) (by decide +kernel) (da_cons (de_eq (de_map rs rowD (fun r => .tuple [rowD r, .bool true]) _ rfl sc_closed_rows.nd (di_tup (dv 2)) (own := [("_law_row", 9)]) (blk_of rfl) (fun _ _ _ _ _ => pn 9 sc_closed_rows.nd) (szl (by omega)) (fun a _ => tg_name (by decide))
      (fun _ _ _ _ _ r hr' => de_tup (da_cons (dv 9) (da_cons de_bl da_nil)) (show 2 ≤ sizeLine by decide))) (hdisp rs).symm) da_nil))) ?_
  have hret : ∀ (p1 p2 p3 p4 p5 p6 : Pos) dd r, Ok dd → WeakL r (st dd) → ∀ NN, DS (cxN P w K mg base n_closed_rows "_law_closed_rows" s_closed_rows f cdv A outer s H E) [.Return (some (.Call (.Name "tuple" p1) [.Call (.Name "sorted" p2) [.Name "_law_found" p3] [] p4] [] p5)) p6] r NN (fun y _ => R_closed [.int (size : Nat), .int (places : Nat), .tuple (rowsD rs), .dict pd] y) := fun p1 p2 p3 p4 p5 p6 dd r ⟨bs, hk, hnd, hin⟩ hw NN => by
    refine ds_wk hw (ds_frz (i := 4) (sl := .ownN dd) rfl rfl rfl (ds_one (d_ret (de_callTy call_tuple_of rdc_tupleL rfl (M.fr 4) (by decide +kernel) (da_cons (de_callB (crD_sortN (α := Row) rfl (hu64 hr) (by decide)) (rdc_sortKN hk (sort_rows h2 fun r hr => (hin r hr).1)) rfl (M.fr 5) (by decide +kernel) (da_cons (dv 4) da_nil)) da_nil)) ?_)))
    exact ⟨size, places, _, _, srt bs, rfl, rfl, (srt_perm bs).nodup_iff.mpr hnd, fun r hr => hin r (srt_mem.mp hr)⟩
  have hfin : ∀ bs : List Row, bs.Nodup → (∀ r ∈ bs, RowIn size places r) → bs.length ≤ 27 := fun bs a b => rowsIn_len h1 h3 a b
  obtain ⟨val, hval⟩ : ∃ f : Row → Nat, ∀ r, r ∈ setsOf size → f r < size ∧ lookT pd (KeyD.kf r) = some (.int (f r : Nat)) := by
    refine ⟨fun r => open Classical in if h : r ∈ setsOf size then Classical.choose (hpl r h) else 0, fun r h => ?_⟩
    dsimp only
    rw [dif_pos h]
    exact Classical.choose_spec (hpl r h)
  have hrl : (allRows size places).length ≤ 27 := by
    rw [allRows_len]
    exact Nat.le_trans (Nat.pow_le_pow_left h1 _) (Nat.pow_le_pow_right (by decide) h3)
  refine ds_cons (M := fun r => ∃ dd, Ok dd ∧ WeakL r (st dd)) (d1_for (List.range (allRows size places).length) (fun (i : Nat) => .int (i : Nat)) (fun _ r => ∃ dd, Ok dd ∧ WeakL r (st dd)) PassesOwn.never rfl (di_range rfl (M.fr 9) (da_cons (de_eq (de_callB call_len_seq rdc_lenL rfl (M.fr 1) PySem.boot_len (da_cons (de_c c1 (hr.mono (by decide)) (da_cons (dv 0) (da_cons (dv 1) da_nil)) ⟨size, places, rfl, by omega, by omega, fun k hk => rows_bound h1 h3 hk, rfl⟩) da_nil)) (by rw [List.length_map])) da_nil) (by omega)) (pn 5 sc_closed_rows.nd)
    ⟨_, ok0, WeakL.refl _⟩ (fun i a r hia ⟨dd, ⟨bs, hk, hnd, hin⟩, hw⟩ => ?_) fun r h => h) fun r ⟨dd, hok, hw⟩ => hret _ _ _ _ _ _ dd r hok hw _
  refine ⟨(st dd).set 5 (.dat (.int (a : Nat))), fun x σ F G H Q S dx q => tgs_name x σ F G H Q (S.weak hw.weak.1 hw.weak.2) dx q, ?_⟩
  have hbl := hfin bs hnd hin
  let s1 : List Row → Sls := fun ls => [.dat (.int (size : Nat)), .dat (.int (places : Nat)), .dat (.tuple (rowsD rs)), .dat (.dict pd), .ownN dd, .dat (.int (a : Nat)), .ownL (rowsD ls), .non, .non, .non, .non]
  refine ds_then (ρ' := s1 []) (d_own 6 sc_closed_rows.nd do_nilL) ?_
  have hsm : ∀ r ∈ srt bs, r.items.length = places := fun r hr => (hin r (srt_mem.mp hr)).1
  have hsl := setsOf_len (size := size) (by omega)
  let Ss := addKs [] (shadowL size places (srt bs))
  have hSs : Ss.length ≤ 8000 := by
    have h1 := addKs_len (shadowL size places (srt bs)) []
    have h2' : (shadowL size places (srt bs)).length ≤ (allTup (setsOf size) places).length := List.length_filter_le _ _
    rw [allTup_len] at h2'
    have h4' := pow20 (n := (setsOf size).length) (k := places) (by omega) h3
    rw [List.length_nil] at h1
    show (addKs [] _).length ≤ _
    omega
  refine ds_cons (M := fun r => ∃ ls : List Row, ls.length = Ss.length ∧ (∀ r ∈ ls, RowIn size places r) ∧ WeakL r (s1 ls)) (d1_forX (g := gName 7) (fun L i r => L = Ss.map tupD ∧ i ≤ L.length ∧ ∃ ls : List Row, ls.length = i ∧ (∀ r ∈ ls, RowIn size places r) ∧ WeakL r (s1 ls)) PassesOwn.never rfl
    (xi_keysN (ox_c c2 (hr.mono (by decide)) (xa_cons (P := fun x r => x = [.int (size : Nat), .int (places : Nat), .list (rowsD (srt bs))] ∧ r = s1 []) (ex_of (dv 0)) (fun d r h => h.2) (xa_cons (P := fun x r => x = [.int (places : Nat), .list (rowsD (srt bs))] ∧ r = s1 []) (ex_of (dv 1)) (fun d r h => h.2) (xa_cons (P := fun x r => x = [.list (rowsD (srt bs))] ∧ r = s1 [])
      (ex_dcs (de_callB (crD_sortN (α := Row) rfl (hu64 hr) (by decide)) (rdc_sortKN hk (sort_rows h2 fun r hr => (hin r hr).1)) rfl (M.fr 5) (by decide +kernel) (da_cons (dv 4) da_nil)) (flat_rows (srt bs))) (fun d r h => h.2) (xa_nil (P := fun x r => x = [] ∧ r = s1 []) ⟨rfl, rfl⟩)
      (fun d ds r a b => by obtain ⟨rfl, _⟩ := a; obtain ⟨rfl, rfl⟩ := b; exact ⟨rfl, rfl⟩)) (fun d ds r a b => by obtain ⟨rfl, _⟩ := a; obtain ⟨rfl, rfl⟩ := b; exact ⟨rfl, rfl⟩)) (fun d ds r a b => by obtain ⟨rfl, _⟩ := a; obtain ⟨rfl, rfl⟩ := b; exact ⟨rfl, rfl⟩))
      (fun ds r ⟨e1, e2⟩ => ⟨⟨size, places, srt bs, _, e1, .inr rfl, by omega, h3, by rw [(srt_perm bs).length_eq]; omega, hsm, rfl⟩, e2⟩)))
    (pn 7 sc_closed_rows.nd) (fun L r ⟨e1, e2⟩ => ⟨by rw [e1, shadowD_keys]; rfl, Nat.zero_le _, [], rfl, (fun _ h => nomatch h), by rw [e2]; exact WeakL.refl _⟩) (fun L i d r hLi ⟨eL, hiL, ls, hll, hls, hw2⟩ => ?_) (fun L r ⟨eL, hiL, ls, hll, hls, hw2⟩ => ⟨ls, by rw [hll, eL, List.length_map], hls, hw2⟩)) ?_
  · subst eL
    have hi := (List.getElem?_eq_some_iff.mp hLi).1
    rw [List.length_map] at hi
    rw [List.getElem?_map] at hLi
    obtain ⟨S, hS, rfl⟩ := Option.map_eq_some_iff.mp hLi
    have hSm := shadowL_len (List.mem_of_getElem? hS)
    have hSi := allTup_mem places S (List.mem_filter.mp hSm.1).1
    refine ⟨(s1 ls).set 7 (.dat (tupD S)), fun x σ F G H Q S dx q => tgs_name x σ F G H Q (S.weak hw2.weak.1 hw2.weak.2) dx q, ?_⟩
    refine ds_one (d1_app (pv 6) rfl (ex_of (d := rowD ⟨S.items.map val⟩) (de_eq (de_callTy call_tuple_of rdc_tupleL rfl (M.fr 4) (by decide +kernel) (da_cons (de_map S.items rowD (fun r => .int (val r : Nat)) _ rfl sc_closed_rows.nd (di_tup (dv 7)) (own := [("_law_some", 10)]) (blk_of rfl) (fun _ _ _ _ _ => pn 10 sc_closed_rows.nd) (szl (by omega)) (fun a _ => tg_name (by decide))
      (fun _ _ _ _ _ r hr' => de_dgetN (hu9 hr) (dv 3) (dv 10) (KeyD.key r) (KeyD.dep r) (hval r (hSi r hr')).2 hpn (fun _ _ => rfl))) da_nil)) (by show PyData.tuple _ = PyData.tuple (List.map _ (List.map _ _)); rw [List.map_map]; rfl))) fun d r h => ?_)
    obtain ⟨rfl, rfl⟩ := h
    refine ⟨_, rfl, by rw [List.length_map]; exact szl' (by omega), rfl, by rw [List.length_map]; omega, ls ++ [⟨S.items.map val⟩], by rw [List.length_append, hll]; rfl, fun r hr' => ?_, ?_⟩
    · rcases List.mem_append.mp hr' with h | h
      · exact hls r h
      · rw [List.mem_singleton] at h
        subst h
        refine ⟨by show (S.items.map val).length = places; rw [List.length_map]; exact hSm.2, fun v hv => ?_⟩
        obtain ⟨r, hr2, rfl⟩ := List.mem_map.mp hv
        exact (hval r (hSi r hr2)).1
    · have e2 : rowsD ls ++ [rowD ⟨S.items.map val⟩] = rowsD (ls ++ [⟨S.items.map val⟩]) := by
        show _ = List.map rowD (ls ++ [_])
        rw [List.map_append]
        rfl
      rw [e2]
      exact .same (.same (.same (.same (.same (.same (.same (.non (.same (.same (.same .nil))))))))))
  · rintro r ⟨ls, hle, hls, hw2⟩
    have hll : ls.length ≤ 8000 := by rw [hle]; exact hSs
    refine ds_wk hw2 (ds_frz (i := 6) rfl rfl rfl ?_)
    let fresh := ls.filter fun r => !decide (r ∈ bs)
    let s2 : Sls := [.dat (.int (size : Nat)), .dat (.int (places : Nat)), .dat (.tuple (rowsD rs)), .dat (.dict pd), .ownN dd, .dat (.int (a : Nat)), .dat (.list (rowsD ls)), .non, .non, .non, .non]
    refine ds_then (ρ' := s2.set 8 (.dat (.list (rowsD fresh)))) (d1_setD (flat_rows fresh) (ps_setLcD ls rowD (fun r => !decide (r ∈ bs)) rowD _ rfl sc_closed_rows.nd rfl rfl rfl (di_list (dv 6)) (own := [("_law_row", 9)]) (blk_of rfl) (fun _ _ _ _ _ => pn 9 sc_closed_rows.nd) (szl (by omega)) (fun a _ => tg_name (by decide))
      (fun _ _ _ _ _ r hr' => pts_if (dt_cmp (op_notInN (hu9 hr)) (rd_kn (neg := true) (a := r) (k := decide (r ∈ bs)) hk decide_eq_true_iff) (dv 9) (dv 4) rfl)) (fun _ _ _ _ _ r _ _ => dv 9)) rfl) ?_
    have hfl : fresh.length ≤ 8000 := Nat.le_trans (List.length_filter_le _ _) hll
    by_cases hf : fresh = []
    · refine ds_cons (M := fun _ => False) (d1_ifT (r := s2.set 8 (.dat (.list (rowsD fresh)))) (tx_of (dt_eq (dt_cmp (opD_eq (α := List Row) (hu64 hr) (by decide)) (rd_eqD2 (a := fresh) (b := [])) (dv 8) (de_lst da_nil (by decide)) (nomark _)) (decide_eq_true hf))) ?_) fun r h => h.elim
      exact hret _ _ _ _ _ _ dd _ ⟨bs, hk, hnd, hin⟩ (.same (.same (.same (.same (.same (.non (.non (.same (.non (.same (.same .nil))))))))))) _
    · refine ds_then (ρ' := s2.set 8 (.dat (.list (rowsD fresh)))) (d1_ifF (r := s2.set 8 (.dat (.list (rowsD fresh)))) (tx_of (dt_eq (dt_cmp (opD_eq (α := List Row) (hu64 hr) (by decide)) (rd_eqD2 (a := fresh) (b := [])) (dv 8) (de_lst da_nil (by decide)) (nomark _)) (decide_eq_false hf))) (ds_nil rfl)) ?_
      have hbs : bs ≠ [] := fun e => by
        subst e
        have hz : Ss = [] := by
          refine List.eq_nil_iff_forall_not_mem.mpr fun S hS => ?_
          have h1 := (List.mem_filter.mp (shadowL_len hS).1).2
          unfold isSh at h1
          rw [Bool.and_eq_true] at h1
          have h2 : inS places (srt ([] : List Row)) S = [] := by
            refine List.eq_nil_iff_forall_not_mem.mpr fun r hr => ?_
            have := srt_mem.mp (List.mem_filter.mp hr).1
            cases this
          rw [h2, decide_eq_true rfl] at h1
          cases h1.1
        rw [hz] at hle
        have hl0 : ls = [] := List.eq_nil_of_length_eq_zero hle
        apply hf
        show ls.filter _ = []
        rw [hl0]
        rfl
      have hdd : dd ≠ [] := fun e => hbs (by
        have : dd.map (·.1) = bs.map Datum.toD := hk
        rw [e] at this
        exact List.map_eq_nil_iff.mp this.symm)
      let ff := dcD (·.1) (·.2) (fresh.map fun r => (rowD r, PyData.bool true)) []
      have hkf : KeysAre ff (addKs [] fresh) := keys_upd (ds := []) (as := []) rfl (keys0 fresh)
      have hffl : ff.length ≤ 8000 := by have := dcD_len (·.1) (·.2) (fresh.map fun r => (rowD r, PyData.bool true)) []; rw [List.length_nil, List.length_map] at this; show (dcD _ _ _ _).length ≤ _; omega
      have hddl : dd.length ≤ 27 := by
        have := congrArg List.length (show dd.map (·.1) = bs.map Datum.toD from hk)
        rw [List.length_map, List.length_map] at this
        omega
      refine ds_one (d1_updN (j := 4) (ds0 := dd) (fs := ff) (P := Is (.dict ff) _) (hu9 hr) (pv 4) rfl (ex_of (de_do (sl := .ownN ff) (do_callTy (call_dictN rfl (hu64 hr)) (rdo_dictN (prs := fresh.map fun r => (rowD r, PyData.bool true)) (hkey fresh)) rfl (M.fr 8) (by decide +kernel) (da_cons (de_eq (de_map fresh rowD (fun r => .tuple [rowD r, .bool true]) _ rfl sc_closed_rows.nd (di_list (dv 8)) (own := [("_law_row", 9)]) (blk_of rfl) (fun _ _ _ _ _ => pn 9 sc_closed_rows.nd) (szl (by omega)) (fun a _ => tg_name (by decide))
        (fun _ _ _ _ _ r hr' => de_tup (da_cons (dv 9) (da_cons de_bl da_nil)) (show 2 ≤ sizeLine by decide))) (hdisp fresh).symm) da_nil)) rfl)) (fun d r h => ⟨h.2, h.1⟩) (isDn_of hkf) (szl (by omega)) (.inl hdd) ?_)
      let dd' : List (PyData × PyData) := dcD (·.1) (·.2) ff dd
      refine ⟨dd', ⟨addKs bs (addKs [] fresh), keys_upd hk hkf, addKs_nodup _ hnd, fun r hr2 => ?_⟩, .same (.same (.same (.same (.same (.non (.non (.same (.non (.same (.same .nil))))))))))⟩
      rcases (addKs_mem _).mp hr2 with h | h
      · exact hin r h
      · rcases (addKs_mem _).mp h with h | h
        · cases h
        · exact hls r (List.mem_filter.mp h).1
end
end K64

/-! ## W19 -/
/-! Walk: any_chooser. -/
namespace K64
open PySem PySem.Spec PyProof.Rows L2 PySem.W
theorem subsL_lt : ∀ (k : Nat) (r : Row), r ∈ subsL k → ∀ v ∈ r.items, v < k
  | 0, r, h, v, hv => by
    rw [subsL, List.mem_singleton] at h
    rw [h] at hv
    cases hv
  | k + 1, r, h, v, hv => by
    rcases List.mem_append.mp h with h | h
    · exact Nat.lt_succ_of_lt (subsL_lt k r h v hv)
    · obtain ⟨q, hq, rfl⟩ := List.mem_map.mp h
      rcases List.mem_append.mp hv with h | h
      · exact Nat.lt_succ_of_lt (subsL_lt k q hq v h)
      · rw [List.mem_singleton] at h
        omega
theorem snocR_inj {a b : Row} {k : Nat} (h : snocR a k = snocR b k) : a = b := by
  obtain ⟨a⟩ := a
  obtain ⟨b⟩ := b
  have : a ++ [k] = b ++ [k] := congrArg Tup.items h
  rw [List.append_cancel_right this]
theorem subsL_nodup : ∀ k, (subsL k).Nodup
  | 0 => List.nodup_cons.mpr ⟨(fun h => nomatch h), List.nodup_nil⟩
  | k + 1 => by
    rw [subsL]
    refine List.nodup_append.mpr ⟨subsL_nodup k, List.pairwise_map.mpr ((subsL_nodup k).imp fun h z => h (snocR_inj z)), fun a ha b hb e => ?_⟩
    obtain ⟨q, _, rfl⟩ := List.mem_map.mp hb
    have := subsL_lt k a ha k (by rw [e]; exact List.mem_append_right _ (List.mem_singleton.mpr rfl))
    omega
theorem not_lt_nil (a : Row) : DatumOrd.lt a (⟨[]⟩ : Row) = false := by
  obtain ⟨its⟩ := a
  cases its <;> rfl
theorem setsOf_mem {size : Nat} {r : Row} : r ∈ setsOf size ↔ r ∈ subsL size ∧ r.items ≠ [] := by
  have hnil : (⟨[]⟩ : Row) ∈ subsL size := by
    obtain ⟨rest, e⟩ := subsL_head size
    rw [e]
    exact List.mem_cons_self
  have hasc := srt_asc (subsL_nodup size)
  have hm : (⟨[]⟩ : Row) ∈ srt (subsL size) := srt_mem.mpr hnil
  have hmem : ∀ a, a ∈ srt (subsL size) ↔ a ∈ subsL size := fun a => srt_mem
  unfold setsOf
  generalize srt (subsL size) = l at hasc hm hmem
  cases l with
  | nil => cases hm
  | cons h t =>
    have hp := List.pairwise_cons.mp hasc
    have hh : h = ⟨[]⟩ := by
      rcases List.mem_cons.mp hm with e | e
      · exact e.symm
      · have := hp.1 _ e
        rw [not_lt_nil] at this
        cases this
    subst hh
    show r ∈ t ↔ _
    refine ⟨fun hr => ⟨(hmem r).mp (List.mem_cons_of_mem _ hr), fun e => ?_⟩, fun ⟨h1, h2⟩ => ?_⟩
    · have := hp.1 r hr
      obtain ⟨its⟩ := r
      subst e
      rw [not_lt_nil] at this
      cases this
    · rcases List.mem_cons.mp ((hmem r).mpr h1) with e | e
      · rw [e] at h2
        exact absurd rfl h2
      · exact e
theorem setsOf_lt {size : Nat} {r : Row} (h : r ∈ setsOf size) : r.items ≠ [] ∧ ∀ v ∈ r.items, v < size := ⟨(setsOf_mem.mp h).2, subsL_lt size r (setsOf_mem.mp h).1⟩
theorem filter_subs (p : Nat → Bool) : ∀ k, (⟨(List.range k).filter p⟩ : Row) ∈ subsL k
  | 0 => List.mem_singleton.mpr rfl
  | k + 1 => by
    have ih := filter_subs p k
    rw [List.range_succ, List.filter_append, subsL]
    by_cases h : p k = true
    · rw [List.filter_cons_of_pos h, List.filter_nil]
      exact List.mem_append_right _ (List.mem_map.mpr ⟨_, ih, rfl⟩)
    · rw [List.filter_cons_of_neg h, List.filter_nil, List.append_nil]
      exact List.mem_append_left _ ih
theorem perm_map {α β : Type} {f : α → β} : ∀ {a b : List β}, a.Perm b → ∀ l : List α, b = l.map f → ∃ m : List α, m.Perm l ∧ a = m.map f := by
  intro a b h
  induction h with
  | nil =>
    intro l e
    exact ⟨[], by rw [List.map_eq_nil_iff.mp e.symm], rfl⟩
  | cons x _ ih =>
    intro l e
    cases l with
    | nil => cases e
    | cons y l =>
      injection e with e1 e2
      obtain ⟨m, hm, rfl⟩ := ih l e2
      exact ⟨y :: m, hm.cons y, by rw [e1]; rfl⟩
  | swap x y t =>
    intro l e
    cases l with
    | nil => cases e
    | cons u l =>
      cases l with
      | nil => cases e
      | cons v l =>
        injection e with e1 e2
        injection e2 with e2 e3
        exact ⟨v :: u :: l, List.Perm.swap _ _ _, by rw [e1, e2, e3]; rfl⟩
  | trans _ _ ih1 ih2 =>
    intro l e
    obtain ⟨m, hm, rfl⟩ := ih2 l e
    obtain ⟨k, hk, rfl⟩ := ih1 m rfl
    exact ⟨k, hk.trans hm, rfl⟩
abbrev CGrab (P : Program) (w : World) (K : PySem.W.Frag) (mg : Str → Option Value) (base : Heap) : Prop := Cal P w K mg base 1 "_law_grab" ["_law_sack_here", "_law_total"] (spK w K Pre_grab R_grab)
abbrev COne (P : Program) (w : World) (K : PySem.W.Frag) (mg : Str → Option Value) (base : Heap) : Prop := Cal P w K mg base 2 "_law_one_of" ["_law_sack_here", "_law_items"] (spK w K Pre_one R_one)
abbrev CShuf (P : Program) (w : World) (K : PySem.W.Frag) (mg : Str → Option Value) (base : Heap) : Prop := Cal P w K mg base 2 "_law_shuffled" ["_law_sack_here", "_law_items"] (spK w K Pre_shuf R_shuf)
def Pre_any (ds : List PyData) : Prop := ∃ size : Nat, ds = [.int (size : Nat)] ∧ 1 ≤ size ∧ size ≤ 3
def R_any (ds : List PyData) (d : PyData) : Prop := ∃ (size : Nat) (pd : List (PyData × PyData)), ds = [.int (size : Nat)] ∧ d = .dict pd ∧ PlainOk size pd
section
variable {X : Cx} {ρ : Sls} {i : Nat} {y x : Str} {p p2 p3 pos : Pos} {e : Expr}
/-- grab(sack, e), e read -/
theorem ex_grab (c : CGrab X.prog X.w X.K X.mg X.base) {k : Nat} (hr : Room (k + 1) X.A) (hv : PE X (.Name y p2) (tVar i)) (hi : ρ[i]? = some .sck) {n : Nat} (he : DE X e (er ρ) (.int (n : Nat))) (h0 : 0 < n) (h1 : n < 1073741824) (hg : Gl X "_law_grab" := by rfl) (hs : starEach [.Name y p2, e] X.env = (false, eval (.Name y p2) X.env) :: starEach [e] X.env := by rfl) (hs2 : starEach [e] X.env = (false, eval e X.env) :: starEach [] X.env := by rfl) (hpl : (backTo pos (starEach [e] X.env)).any (·.1) = false := by rfl) :
    EX X (.Call (.Name "_law_grab" p) [.Name y p2, e] [] pos) ρ (fun d r => (∃ m : Nat, d = .int (m : Nat) ∧ m < n) ∧ r = ρ) :=
  ex_imp (ex_c c (hr.mono (by omega)) hv hi (xa_of (da_cons he da_nil hs2)) (fun ds r ⟨h1', h2⟩ => ⟨n, h1', h0, h1⟩) hg hs (by decide) hpl) fun d r ⟨ds, ⟨e1, e2⟩, n', m, e3, e4, hm⟩ => ⟨⟨m, e4, by
    rw [e1] at e3
    injection e3 with e3 _
    injection e3 with e3
    omega⟩, e2⟩
end
section
variable {P : Program} {w : World} {K : PySem.W.Frag} {mg : Str → Option Value} {base : Heap}
theorem cal_any (M : Md K mg) (c0 : Cal P w K mg base 1 "_law_sets_of" ["_law_size"] (spD w K R_sets)) (c1 : CGrab P w K mg base) (c2 : COne P w K mg base) (c3 : CShuf P w K mg base) :
    Cal P w K mg base 3 "_law_any_chooser" ["_law_sack_here", "_law_size"] (spK w K Pre_any R_any) := M.cal 30 rfl (fun _ _ _ _ _ _ us hl => match us, hl with | [_, _], _ => rfl) fun f fd F => by
  refine fnK F sc_any_chooser (fun ds ⟨_, h, _⟩ => by rw [h]; rfl) fun cdv A outer s H E hr ds h => ?_
  obtain ⟨size, rfl, h1, h2⟩ := h
  let st : Nat → List Nat → List (PyData × PyData) → Sls := fun m os dd => [.sck, .dat (.int (size : Nat)), .dat (.int (m : Nat)), .dat (natsD os), .ownN dd, .non, .non]
  refine ds_cons (M := fun r => ∃ (m : Nat) (os : List Nat), m < 6 ∧ os.Perm (List.range size) ∧ r = [.sck, .dat (.int (size : Nat)), .dat (.int (m : Nat)), .dat (natsD os), .non, .non, .non])
    (d1_parXX (i := 2) (j := 3) (Pb := fun _ db r => (∃ os : List Nat, os.Perm (List.range size) ∧ db = natsD os) ∧ r = iniK n_any_chooser [.int (size : Nat)]) (fun ta ha => ps_par rfl sc_any_chooser.nd rfl rfl (by decide) rfl rfl ha rfl) (ex_grab c1 hr (pv 0) rfl (n := 6) de_int (by decide) (by decide))
      (fun da r h => ?_) fun da r db r' h h' => ?_) ?_
  · obtain ⟨⟨m, rfl, hm⟩, rfl⟩ := h
    refine ex_imp (ex_c c3 (hr.mono (by decide)) (pv 0) rfl (xa_of (da_cons (de_listRange (n := size) rfl (dv 1) (by omega) (M.fr 6) (M.fr 9)) da_nil)) (fun ds r ⟨e1, _⟩ => ⟨_, .inl e1, by rw [List.length_map, List.length_range]; omega, szl (by rw [List.length_map, List.length_range]; omega)⟩)) fun d r ⟨ds, ⟨e1, e2⟩, its, out, e3, e4, hp⟩ => ⟨?_, e2⟩
    rw [e1] at e3
    rcases e3 with e3 | e3
    · injection e3 with e3 _
      injection e3 with e3
      subst e3
      obtain ⟨os, ho, rfl⟩ := perm_map hp _ rfl
      exact ⟨os, ho, e4⟩
    · cases e3
  · obtain ⟨⟨m, rfl, hm⟩, rfl⟩ := h
    obtain ⟨⟨os, ho, rfl⟩, rfl⟩ := h'
    exact ⟨m, os, hm, ho, rfl⟩
  rintro r ⟨m, os, hm, ho, rfl⟩
  refine ds_then (ρ' := st m os []) (d_own 4 sc_any_chooser.nd do_nilN) ?_
  have hsl := setsOf_len (size := size) (by omega)
  let Ok : Nat → List (PyData × PyData) → Prop := fun j dd => (∃ bs : List Row, KeysAre dd bs ∧ bs.length ≤ j) ∧ ∀ r ∈ (setsOf size).take j, ∃ v : Nat, v < size ∧ lookT dd (KeyD.kf r) = some (.int (v : Nat))
  have hosl : ∀ v ∈ os, v < size := fun v hv => List.mem_range.mp (ho.mem_iff.mp hv)
  refine ds_cons (M := fun r => ∃ dd, Ok (setsOf size).length dd ∧ WeakL r (st m os dd)) (d1_for (setsOf size) rowD (fun j r => ∃ dd, Ok j dd ∧ WeakL r (st m os dd)) PassesOwn.never rfl (di_list (de_c c0 (hr.mono (by decide)) (da_cons (dv 1) da_nil) ⟨size, rfl, by omega, rfl⟩)) (pn 5 sc_any_chooser.nd) ⟨[], ⟨⟨[], rfl, Nat.le_refl _⟩, (fun _ h => nomatch h)⟩, WeakL.refl _⟩ (fun j S r hj ⟨dd, ⟨⟨bs, hk, hbl⟩, hv⟩, hw⟩ => ?_) fun r h => h) fun r ⟨dd, ⟨⟨bs, hk, hbl⟩, hv⟩, hw⟩ => ?_
  · have hSm := List.mem_of_getElem? hj
    obtain ⟨hS0, hSl⟩ := setsOf_lt hSm
    have hjl : j < (setsOf size).length := (List.getElem?_eq_some_iff.mp hj).1
    let s1 : Sls := (st m os dd).set 5 (.dat (rowD S))
    refine ⟨s1, fun x σ F G H Q S dx q => tgs_name x σ F G H Q (S.weak hw.weak.1 hw.weak.2) dx q, ?_⟩
    have hddl : dd.length ≤ 16 := by
      have := congrArg List.length (show dd.map (·.1) = bs.map Datum.toD from hk)
      rw [List.length_map, List.length_map] at this
      omega
    have hput : ∀ (v : Nat), v < size → ∃ dd', Ok (j + 1) dd' ∧ WeakL (s1.set 4 (.ownN (putD dd (rowD S) (.int (v : Nat))))) (st m os dd') := fun v hvl => by
      refine ⟨putD dd (rowD S) (.int (v : Nat)), ⟨⟨addK bs S, keys_put hk S _, Nat.le_trans (addK_len bs S) (by omega)⟩, fun r hr => ?_⟩, .same (.same (.same (.same (.same (.non (.same .nil))))))⟩
      rw [lookT_put]
      by_cases e : keyOf (rowD S) = some (KeyD.kf r)
      · rw [if_pos e]
        exact ⟨v, hvl, rfl⟩
      · rw [if_neg e]
        rw [List.take_add_one, hj] at hr
        rcases List.mem_append.mp hr with h | h
        · exact hv r h
        · rw [Option.toList_some, List.mem_singleton] at h
          subst h
          exact absurd (KeyD.key r) e
    by_cases hm3 : m < 3
    · refine ds_one (d1_ifT (r := s1) (tx_of (dt_eq (dt_cmp op_lt rd_lt (dv 2) de_int (nomark _)) (decide_eq_true (by omega)))) (ds_one ?_))
      have hne : os.filter (fun v => decide (v ∈ S.items)) ≠ [] := fun e => by
        cases hc : S.items with
        | nil => exact hS0 hc
        | cons a l =>
          have ha : a ∈ S.items := by rw [hc]; exact List.mem_cons_self
          have : a ∈ os.filter (fun v => decide (v ∈ S.items)) := List.mem_filter.mpr ⟨ho.mem_iff.mpr (List.mem_range.mpr (hSl a ha)), decide_eq_true ha⟩
          rw [e] at this
          cases this
      obtain ⟨v, rest, hvr⟩ := List.exists_cons_of_ne_nil hne
      have hvm : v ∈ os.filter (fun v => decide (v ∈ S.items)) := by rw [hvr]; exact List.mem_cons_self
      have hvl := hSl v (of_decide_eq_true (List.mem_filter.mp hvm).2)
      refine d1_putN (j := 4) (ds0 := dd) (hu9 hr) (pv 4) rfl (szl' (by omega)) (ex_of (d := .int (v : Nat)) (de_ix ix_list (rd_ixL (ds := (os.filter (fun v => decide (v ∈ S.items))).map fun (v : Nat) => PyData.int (v : Nat)) (i := ((0 : Nat) : Int)) (atI_nat (by rw [hvr]; rfl))) (de_lc os (fun (v : Nat) => .int (v : Nat)) (fun v => decide (v ∈ S.items)) (fun (v : Nat) => .int (v : Nat)) _ rfl sc_any_chooser.nd (di_list (dv 3)) (own := [("_law_value", 6)]) (blk_of rfl) (fun _ _ _ _ _ => pn 6 sc_any_chooser.nd) (szl (by rw [ho.length_eq, List.length_range]; omega)) (fun a _ => tg_name (by decide))
        (fun _ _ _ _ _ v _ => pts_if (dt_cmp (opD_in (α := Nat) (hu64 hr) (by decide)) (rd_inT (a := v) (bs := S.items)) (dv 6) (dv 5) rfl)) (fun _ _ _ _ _ v _ _ => dv 6)) de_int (fun _ _ => rfl))) (fun d r h => h.2) (ex_of (dv 5)) (fun d r h => h.2) fun d kd h8 h9 => ?_
      obtain ⟨rfl, _⟩ := h8
      obtain ⟨rfl, _⟩ := h9
      exact ⟨_, _, rfl, KeyD.key S, KeyD.dep S, hput v hvl⟩
    refine ds_one (d1_ifF (r := s1) (tx_of (dt_eq (dt_cmp op_lt rd_lt (dv 2) de_int (nomark _)) (decide_eq_false (by omega)))) (ds_one ?_))
    by_cases hme : m = 3
    · refine d1_ifT (r := s1) (tx_of (dt_eq (dt_cmp op_eq rd_eqI (dv 2) de_int (nomark _)) (decide_eq_true (by omega)))) (ds_one ?_)
      have hne : os ≠ [] := fun e => by
        have := ho.length_eq
        rw [e, List.length_range, List.length_nil] at this
        omega
      obtain ⟨v, rest, hvr⟩ := List.exists_cons_of_ne_nil hne
      have hvl := hosl v (by rw [hvr]; exact List.mem_cons_self)
      refine d1_putN (j := 4) (ds0 := dd) (hu9 hr) (pv 4) rfl (szl' (by omega)) (ex_of (d := .int (v : Nat)) (de_ix ix_list (rd_ixL (ds := os.map fun (v : Nat) => PyData.int (v : Nat)) (i := ((0 : Nat) : Int)) (atI_nat (by rw [hvr]; rfl))) (dv 3) de_int (fun _ _ => rfl))) (fun d r h => h.2) (ex_of (dv 5)) (fun d r h => h.2) fun d kd h8 h9 => ?_
      obtain ⟨rfl, _⟩ := h8
      obtain ⟨rfl, _⟩ := h9
      exact ⟨_, _, rfl, KeyD.key S, KeyD.dep S, hput v hvl⟩
    refine d1_ifF (r := s1) (tx_of (dt_eq (dt_cmp op_eq rd_eqI (dv 2) de_int (nomark _)) (decide_eq_false (by omega)))) (ds_one ?_)
    have hlast : ∀ d kd, ((∃ v : Nat, d = .int (v : Nat) ∧ v < size) ∧ s1 = s1) → (kd = rowD S ∧ s1 = s1) → ∃ ks k, kd = .tuple ks ∧ keyOf kd = some k ∧ k.depth ≤ 8 ∧ ∃ dd', Ok (j + 1) dd' ∧ WeakL (s1.set 4 (.ownN (putD dd kd d))) (st m os dd') := fun d kd ⟨⟨v, e1, hvl⟩, _⟩ ⟨e2, _⟩ => by
      subst e1 e2
      exact ⟨_, _, rfl, KeyD.key S, KeyD.dep S, hput v hvl⟩
    by_cases hm4 : m = 4
    · refine d1_putN (j := 4) (ds0 := dd) (P := fun d r => (∃ v : Nat, d = .int (v : Nat) ∧ v < size) ∧ r = s1) (hu9 hr) (pv 4) rfl (szl' (by omega)) (ex_ifT (dt_eq (dt_cmp op_eq rd_eqI (dv 2) de_int (nomark _)) (decide_eq_true (by omega))) (ex_imp (ex_c c2 hr (pv 0) rfl (xa_of (da_cons (d := rowD S) (dv 5) da_nil)) (fun ds r ⟨e1, _⟩ => ⟨_, .inr e1, (fun e => hS0 (List.map_eq_nil_iff.mp e)), ?_⟩)) fun d r ⟨ds, ⟨e1, e2⟩, its, e3, hd⟩ => ⟨?_, e2⟩)) (fun d r h => h.2) (ex_of (dv 5)) (fun d r h => h.2) hlast
      · have := subsL_row size S (setsOf_mem.mp hSm).1
        rw [List.length_map]
        omega
      · rw [e1] at e3
        rcases e3 with e3 | e3
        · cases e3
        · injection e3 with e3 _
          injection e3 with e3
          subst e3
          obtain ⟨v, hv, rfl⟩ := List.mem_map.mp hd
          exact ⟨v, rfl, hSl v hv⟩
    · exact d1_putN (j := 4) (ds0 := dd) (P := fun d r => (∃ v : Nat, d = .int (v : Nat) ∧ v < size) ∧ r = s1) (hu9 hr) (pv 4) rfl (szl' (by omega)) (ex_ifF (dt_eq (dt_cmp op_eq rd_eqI (dv 2) de_int (nomark _)) (decide_eq_false (by omega))) (ex_grab c1 hr (pv 0) rfl (n := size) (dv 1) (by omega) (by omega))) (fun d r h => h.2) (ex_of (dv 5)) (fun d r h => h.2) hlast
  · refine ds_wk hw (ds_frz (i := 4) (sl := .ownN dd) rfl rfl rfl (ds_one (d_ret (dv 4) ⟨size, dd, rfl, rfl, isDn_of hk, fun r hr => hv r ?_⟩)))
    rw [List.take_length]
    exact hr
end
end K64

/-! ## W20 -/
/-! Walk: book. -/
namespace K64
open PySem PySem.Spec PyProof.Rows L2 PySem.W
section
variable {X : Cx} {ρ : Sls} {a b : Expr} {p2 p3 : Pos} {Pa : PyData → Sls → Prop}
theorem ex_takeG {C : Int → Prop} (ha : EX X a ρ Pa) (hP : ∀ d r, Pa d r → (∃ ds, d = .list ds) ∧ r = ρ) (hb : NX X b ρ C) (hC : ∀ n, C n → 0 ≤ n) :
    EX X (.Subscript a (.Slice none (some b) none p2) p3) ρ (fun d r => (∃ (ds : List PyData) (n : Nat), Pa (.list ds) ρ ∧ C (n : Nat) ∧ d = .list (ds.take n)) ∧ r = ρ) :=
  ex_imp (ex_takeL (Pb := fun _ d r => (∃ n : Int, d = .int n ∧ C n) ∧ r = ρ) ha (fun d r h => (hP d r h).1) hb (fun d r h σ H Q t => by rw [(hP d r h).2] at t; exact t) (fun da r db r' _ ⟨⟨n, e, hc⟩, _⟩ => ⟨n.toNat, by rw [e, Int.toNat_of_nonneg (hC n hc)]⟩)) fun d r ⟨ds, r1, n, h1, ⟨⟨m, e, hc⟩, e2⟩, e3⟩ => ⟨⟨ds, n, by rw [(hP _ _ h1).2] at h1; exact h1, by injection e with e; rw [e]; exact hc, e3⟩, e2⟩
end
def baseN : List Str := ["less", "xor", "one", "to", "zz", "and"]
def GoodT (size : Nat) (t : Str × Nat × List Row) : Prop := 1 ≤ t.2.1 ∧ t.2.1 ≤ 3 ∧ t.2.2.length < 64 ∧ ∀ r ∈ t.2.2, RowIn size t.2.1 r
theorem mem_of_lookup {α : Type} : ∀ {l : List (Str × α)} {x : Str} {a : α}, l.lookup x = some a → (x, a) ∈ l
  | (y, b) :: l, x, a, h => by
    rw [List.lookup_cons] at h
    cases e : x == y with
    | true =>
      rw [e] at h
      rw [eq_of_beq e, Option.some.inj h]
      exact List.mem_cons_self
    | false =>
      rw [e] at h
      exact List.mem_cons_of_mem _ (mem_of_lookup h)
theorem lookup_mem_fst {α : Type} {l : List (Str × α)} {x : Str} {a : α} (h : l.lookup x = some a) : x ∈ l.map (·.1) := List.mem_map.mpr ⟨_, mem_of_lookup h, rfl⟩
theorem bkF_of {B : Bk} (h1 : B.size ≤ 3) (h2 : (B.ties.map (·.1)).Nodup) (h3 : B.ties.length ≤ 8) (h4 : B.ties ≠ []) (h5 : ∀ t ∈ B.ties, GoodT B.size t) : BkF B where
  ok := ⟨h1, fun x n rs h => by
    obtain ⟨a, b, c, d⟩ := h5 _ (mem_of_lookup h)
    exact ⟨a, b, fun r hr => d r hr⟩⟩
  nd := h2
  few := h3
  ne := h4
  rows x n rs h := (h5 _ (mem_of_lookup h)).2.2.1
theorem allRows_val (size : Nat) : ∀ (k : Nat) (l : List Nat), l ∈ allRows size k → ∀ v ∈ l, v < size
  | 0, l, h, v, hv => by
    rw [allRows, List.mem_singleton] at h
    rw [h] at hv
    cases hv
  | k + 1, l, h, v, hv => by
    obtain ⟨q, h1, h2⟩ := List.mem_flatMap.mp h
    obtain ⟨u, hu, rfl⟩ := List.mem_map.mp h2
    rcases List.mem_append.mp hv with h | h
    · exact allRows_val size k q h1 v h
    · rw [List.mem_singleton] at h
      rw [h]
      exact List.mem_range.mp hu
theorem rowsOf_in {size places : Nat} {r : Row} (h : r ∈ rowsOf size places) : RowIn size places r := by
  obtain ⟨l, hl, rfl⟩ := List.mem_map.mp h
  exact ⟨hlen size places l hl, allRows_val size places l hl⟩
theorem rowsOf_len {size places : Nat} (h1 : size ≤ 3) (h2 : places ≤ 3) : (rowsOf size places).length ≤ 27 := by
  unfold rowsOf
  rw [List.length_map, allRows_len]
  exact Nat.le_trans (Nat.pow_le_pow_left h1 _) (Nat.pow_le_pow_right (by decide) h2)
theorem put_tie {ts : List (Str × Nat × List Row)} {x : Str} {n : Nat} {rs : List Row} (h : x ∉ ts.map (·.1)) : putD (tiesE ts) (.str x) (.tuple [.int (n : Nat), .tuple (rowsD rs)]) = tiesE (ts ++ [(x, n, rs)]) := by
  have e : putD (strD (ts.map tieE)) (keyD (.inr x)) (.tuple [.int (n : Nat), .tuple (rowsD rs)]) = strD (ts.map tieE ++ [(x, .tuple [.int (n : Nat), .tuple (rowsD rs)])]) := by
    rw [put_str]
    unfold putS
    rw [if_neg]
    intro z
    obtain ⟨p, hp, h2⟩ := List.any_eq_true.mp z
    obtain ⟨t, ht, rfl⟩ := List.mem_map.mp hp
    exact h (List.mem_map.mpr ⟨t, ht, of_decide_eq_true h2⟩)
  refine e.trans ?_
  show strD _ = strD _
  rw [List.map_append]
  rfl
def Pre_book (ds : List PyData) : Prop := ∃ size most : Nat, ds = [.int (size : Nat), .int (most : Nat)] ∧ 2 ≤ size ∧ size ≤ 3 ∧ 1 ≤ most ∧ most ≤ 5
def R_book (ds : List PyData) (d : PyData) : Prop := ∃ (most : Nat) (B : Bk), ds = [.int (B.size : Nat), .int (most : Nat)] ∧ 2 ≤ B.size ∧ d = bookD B ∧ BkF B ∧ ∀ t ∈ B.ties, t.1 ∈ baseN
section
variable {P : Program} {w : World} {K : PySem.W.Frag} {mg : Str → Option Value} {base : Heap}
theorem cal_book (M : Md K mg) (c1 : CGrab P w K mg base) (c2 : COne P w K mg base) (c3 : CShuf P w K mg base) (c4 : Cal P w K mg base 3 "_law_any_chooser" ["_law_sack_here", "_law_size"] (spK w K Pre_any R_any)) (c5 : Cal P w K mg base 3 "_law_rows_any" ["_law_sack_here", "_law_size", "_law_places"] (spK w K Pre_rowsAny R_rowsAny))
    (c6 : Cal P w K mg base 3 "_law_closed_rows" ["_law_size", "_law_places", "_law_rows", "_law_plain"] (spE w K Pre_closed R_closed)) :
    Cal P w K mg base 4 "_law_book" ["_law_sack_here", "_law_size", "_law_most"] (spK w K Pre_book R_book) := M.cal 31 rfl (fun _ _ _ _ _ _ us hl => match us, hl with | [_, _, _], _ => rfl) fun f fd F => by
  refine fnK F sc_book (fun ds ⟨_, _, h, _⟩ => by rw [h]; rfl) fun cdv A outer s H E hr ds h => ?_
  obtain ⟨size, most, rfl, h1, h2, h3, h4⟩ := h
  let ρ0 : Sls := iniK n_book [.int (size : Nat), .int (most : Nat)]
  refine ds_cons (M := fun r => ∃ ns : List Str, ns.Nodup ∧ ns ≠ [] ∧ (∀ x ∈ ns, x ∈ baseN) ∧ r = (ρ0.set 3 (.dat (.list (ns.map PyData.str)))).set 4 (.ownK []))
    (d1_parXO (i := 3) (j := 4) (sl := fun _ _ => .ownK []) (Pa := fun d r => (∃ ns : List Str, ns.Nodup ∧ ns ≠ [] ∧ (∀ x ∈ ns, x ∈ baseN) ∧ d = .list (ns.map PyData.str)) ∧ r = ρ0) (fun ta ha => ps_par rfl sc_book.nd rfl rfl (by decide) rfl rfl ha rfl)
      (ex_imp (ex_takeG (Pa := fun d r => (∃ ns : List Str, ns.Perm baseN ∧ d = .list (ns.map PyData.str)) ∧ r = ρ0) (C := fun n => 1 ≤ n) (ex_imp (ex_c c3 (hr.mono (by decide)) (pv 0) rfl (xa_of (da_cons (d := .list (baseN.map PyData.str)) (de_lst (da_cons de_str (da_cons de_str (da_cons de_str (da_cons de_str (da_cons de_str (da_cons de_str da_nil)))))) (show 6 ≤ sizeLine by decide)) da_nil)) (fun ds r ⟨e1, _⟩ => ⟨_, .inl e1, by decide, by decide⟩)) fun d r ⟨ds, ⟨e1, e2⟩, its, out, e3, e4, hp⟩ => ⟨?_, e2⟩)
        (fun d r ⟨⟨ns, _, e⟩, e2⟩ => ⟨⟨_, e⟩, e2⟩) (nx_op0 op_add (nx_of (C := fun n => n = 1) de_int rfl) (ex_imp (ex_grab c1 (hr.mono (show 1 ≤ 3 by decide)) (pv 0) rfl (n := most) (dv 2) (by omega) (by omega)) fun d r ⟨⟨m, e, hm⟩, e2⟩ => ⟨⟨(m : Nat), e, (show 0 ≤ ((m : Nat) : Int) by omega)⟩, e2⟩) (fun i j hi hj => by show 1 ≤ i + j; omega)) (fun n hn => by omega)) fun d r ⟨⟨ds, n, ⟨⟨ns, hp, e1⟩, _⟩, hn, e2⟩, e3⟩ => ⟨?_, e3⟩)
      (fun da r _ => do_nilK) (fun da r h => ?_)) ?_
  · rw [e1] at e3
    rcases e3 with e3 | e3
    · injection e3 with e3 _
      injection e3 with e3
      subst e3
      obtain ⟨os, ho, rfl⟩ := perm_map hp _ rfl
      exact ⟨os, ho, e4⟩
    · cases e3
  · injection e1 with e1
    subst e1
    refine ⟨ns.take n, (List.take_sublist n ns).nodup (hp.nodup_iff.mpr (by decide)), fun e => ?_, fun x hx => hp.mem_iff.mp (List.mem_of_mem_take hx), by rw [e2, List.map_take]⟩
    have h1 := congrArg List.length e
    rw [List.length_take, hp.length_eq, List.length_nil] at h1
    have : (baseN).length = 6 := rfl
    omega
  · obtain ⟨⟨ns, a1, a2, a3, rfl⟩, rfl⟩ := h
    exact ⟨ns, a1, a2, a3, rfl⟩
  rintro r ⟨ns, hnd, hne, hbase, rfl⟩
  let st : List (PyData × PyData) → Nat → List (Str × Nat × List Row) → Sls := fun pd lot ts => [.sck, .dat (.int (size : Nat)), .dat (.int (most : Nat)), .dat (.list (ns.map PyData.str)), .ownK (tiesE ts), .dat (.dict pd), .dat (.int (lot : Nat)), .non, .non, .non, .non]
  refine ds_cons (M := fun r => ∃ pd lot, PlainOk size pd ∧ r = st pd lot []) (d1_parXX (i := 5) (j := 6) (Pa := fun d r => (∃ pd, d = .dict pd ∧ PlainOk size pd) ∧ r = (ρ0.set 3 (.dat (.list (ns.map PyData.str)))).set 4 (.ownK [])) (Pb := fun _ d r => (∃ m : Nat, d = .int (m : Nat) ∧ m < 5) ∧ r = (ρ0.set 3 (.dat (.list (ns.map PyData.str)))).set 4 (.ownK [])) (fun ta ha => ps_par rfl sc_book.nd rfl rfl (by decide) rfl rfl ha rfl)
    (ex_imp (ex_c c4 hr (pv 0) rfl (xa_of (da_cons (d := .int (size : Nat)) (dv 1) da_nil)) (fun ds r ⟨e1, _⟩ => ⟨size, e1, by omega, h2⟩)) fun d r ⟨ds, ⟨e1, e2⟩, size', pd, e3, e4, hp⟩ => ⟨⟨pd, e4, ?_⟩, e2⟩) (fun da r h => ?_) (fun da r db r' h h' => ?_)) ?_
  · rw [e1] at e3
    injection e3 with e3 _
    injection e3 with e3
    have : size = size' := by omega
    rw [this]
    exact hp
  · obtain ⟨_, rfl⟩ := h
    exact ex_grab c1 (hr.mono (show 1 ≤ 3 by decide)) (pv 0) rfl (n := 5) de_int (by decide) (by decide)
  · obtain ⟨⟨pd, rfl, hp⟩, _⟩ := h
    obtain ⟨⟨m, rfl, _⟩, rfl⟩ := h'
    exact ⟨pd, m, hp, rfl⟩
  rintro r ⟨pd, lot, hpd, rfl⟩
  have hnl : ns.length ≤ 6 := nodup_len (m := baseN) hnd hbase
  refine ds_cons (M := fun r => ∃ ts : List (Str × Nat × List Row), ts.map (·.1) = ns ∧ (∀ t ∈ ts, GoodT size t) ∧ WeakL r (st pd lot ts)) (d1_for ns PyData.str (fun j r => ∃ ts : List (Str × Nat × List Row), ts.map (·.1) = ns.take j ∧ (∀ t ∈ ts, GoodT size t) ∧ WeakL r (st pd lot ts)) PassesOwn.never rfl (di_list (dv 3)) (pn 7 sc_book.nd) ⟨[], rfl, (fun _ h => nomatch h), WeakL.refl _⟩
    (fun j x r hj ⟨ts, hts, hgd, hw⟩ => ?_) fun r ⟨ts, hts, hgd, hw⟩ => ⟨ts, by rw [hts, List.take_length], hgd, hw⟩) ?_
  · have hjl : j < ns.length := (List.getElem?_eq_some_iff.mp hj).1
    let s1 : Sls := (st pd lot ts).set 7 (.dat (.str x))
    refine ⟨s1, fun x σ F G H Q S dx q => tgs_name x σ F G H Q (S.weak hw.weak.1 hw.weak.2) dx q, ?_⟩
    have hxn : x ∉ ts.map (·.1) := fun h => by
      rw [hts] at h
      obtain ⟨i, hi, e⟩ := List.getElem_of_mem h
      rw [List.length_take] at hi
      rw [List.getElem_take] at e
      have hjx := (List.getElem?_eq_some_iff.mp hj).2
      have := (List.getElem_inj hnd).mp (e.trans hjx.symm)
      omega
    refine ds_cons (M := fun r => ∃ n : Nat, 1 ≤ n ∧ n ≤ 3 ∧ r = s1.set 8 (.dat (.int (n : Nat)))) (d_set 8 (P := fun d r => (∃ n : Nat, d = .int (n : Nat) ∧ 1 ≤ n ∧ n ≤ 3) ∧ r = s1) sc_book.nd (ex_imp (ex_c c2 (hr.mono (by decide)) (pv 0) rfl (xa_of (da_cons (d := .list [.int (1 : Nat), .int (2 : Nat), .int (2 : Nat), .int (2 : Nat), .int ((if size < 3 then 3 else 2 : Nat) : Nat)]) (de_lst (da_cons de_int (da_cons de_int (da_cons de_int (da_cons de_int (da_cons ?_ da_nil))))) (show 5 ≤ sizeLine by decide)) da_nil)) (fun ds r ⟨e1, _⟩ => ⟨_, .inl e1, (fun h => nomatch h), (show 5 < 1073741824 by decide)⟩)) fun d r ⟨ds, ⟨e1, e2⟩, its, e3, hd⟩ => ⟨?_, e2⟩)
      (fun d r ⟨⟨n, e, a, b⟩, e2⟩ => ⟨n, a, b, by rw [e, e2]⟩)) ?_
    · by_cases hs : size < 3
      · rw [if_pos hs]
        exact de_ifT (dt_eq (dt_cmp op_lt rd_lt (dv 1) de_int (nomark _)) (decide_eq_true (by omega))) de_int
      · rw [if_neg hs]
        exact de_ifF (dt_eq (dt_cmp op_lt rd_lt (dv 1) de_int (nomark _)) (decide_eq_false (by omega))) de_int
    · rw [e1] at e3
      rcases e3 with e3 | e3
      · injection e3 with e3 _
        injection e3 with e3
        subst e3
        have h5 : (if size < 3 then 3 else 2 : Nat) ≤ 3 ∧ 1 ≤ (if size < 3 then 3 else 2 : Nat) := by split <;> omega
        simp only [List.mem_cons, List.not_mem_nil, or_false] at hd
        rcases hd with rfl | rfl | rfl | rfl | rfl
        · exact ⟨1, rfl, by decide, by decide⟩
        · exact ⟨2, rfl, by decide, by decide⟩
        · exact ⟨2, rfl, by decide, by decide⟩
        · exact ⟨2, rfl, by decide, by decide⟩
        · exact ⟨_, rfl, h5.2, h5.1⟩
      · cases e3
    rintro r ⟨n, hn1, hn3, rfl⟩
    let s2 : List Row → Sls := fun rs => (s1.set 8 (.dat (.int (n : Nat)))).set 9 (.dat (.tuple (rowsD rs)))
    let GoodR : List Row → Prop := fun rs => rs.length < 64 ∧ ∀ r ∈ rs, RowIn size n r
    refine ds_cons (M := fun r => ∃ rs, GoodR rs ∧ r = s2 rs) (d_set 9 (P := fun d r => (∃ rs, d = .tuple (rowsD rs) ∧ GoodR rs) ∧ r = s1.set 8 (.dat (.int (n : Nat)))) sc_book.nd (ex_imp (ex_c c5 hr (pv 0) rfl (xa_of (da_cons (d := .int (size : Nat)) (dv 1) (da_cons (d := .int (n : Nat)) (dv 8) da_nil))) (fun ds r ⟨e1, _⟩ => ⟨size, n, e1, h2, hn3⟩)) fun d r ⟨ds, ⟨e1, e2⟩, size', n', rs, e3, hs, e4⟩ => ⟨⟨rs, e4, ?_⟩, e2⟩) (fun d r ⟨⟨rs, e, h⟩, e2⟩ => ⟨rs, h, by rw [e, e2]⟩)) ?_
    · rw [e1] at e3
      injection e3 with e3 e5
      injection e3 with e3
      injection e5 with e5 _
      injection e5 with e5
      have a1 : size = size' := by omega
      have a2 : n = n' := by omega
      subst a1 a2
      exact ⟨Nat.lt_of_le_of_lt hs.length_le (Nat.lt_of_le_of_lt (rowsOf_len h2 hn3) (by decide)), fun r hr => rowsOf_in (hs.subset hr)⟩
    rintro r ⟨rs, ⟨hrl, hrin⟩, rfl⟩
    refine ds_cons (M := fun r => ∃ rs, GoodR rs ∧ WeakL r (s2 rs)) ?_ ?_
    · by_cases hl3 : lot < 3
      · refine d1_ifT (r := s2 rs) (tx_of (dt_eq (dt_cmp op_lt rd_lt (dv 6) de_int (nomark _)) (decide_eq_true (by omega)))) ?_
        refine ds_cons (M := fun r => ∃ fs : List Row, fs.length < 64 ∧ (∀ r ∈ fs, RowIn size n r) ∧ r = (s2 rs).set 10 (.dat (.tuple (rowsD fs)))) (d_set 10 (P := fun d r => (∃ fs : List Row, d = .tuple (rowsD fs) ∧ fs.length < 64 ∧ ∀ r ∈ fs, RowIn size n r) ∧ r = s2 rs) sc_book.nd (ex_imp (ex_callTy (Pa := fun ds r => (∃ fs : List Row, ds = [.list (rowsD fs)] ∧ fs.length < 64 ∧ ∀ r ∈ fs, RowIn size n r) ∧ r = s2 rs) (fun ds => match ds with | [.list l] => .tuple l | _ => .none) call_tuple_of (fun ds r' ⟨⟨fs, e, _⟩, _⟩ => by rw [e]; exact rdc_tupleL) rfl (M.fr 4) (by decide +kernel)
          (xa_cons (Pa := fun d r => (∃ fs : List Row, d = .list (rowsD fs) ∧ fs.length < 64 ∧ ∀ r ∈ fs, RowIn size n r) ∧ r = s2 rs) (ex_imp (ex_takeG (Pa := fun d r => (∃ os : List Row, os.Perm rs ∧ d = .list (rowsD os)) ∧ r = s2 rs) (C := fun n => 1 ≤ n) (ex_imp (ex_c c3 (hr.mono (by decide)) (pv 0) rfl (xa_of (da_cons (d := .tuple (rowsD rs)) (dv 9) da_nil)) (fun ds r ⟨e1, _⟩ => ⟨_, .inr e1, by rw [List.length_map]; omega, szl (by rw [List.length_map]; omega)⟩)) fun d r ⟨ds, ⟨e1, e2⟩, its, out, e3, e4, hp⟩ => ⟨?_, e2⟩)
            (fun d r ⟨⟨ns, _, e⟩, e2⟩ => ⟨⟨_, e⟩, e2⟩) (nx_op0 op_add (nx_of (C := fun n => n = 1) de_int rfl) (ex_imp (ex_grab c1 (hr.mono (show 1 ≤ 3 by decide)) (pv 0) rfl (n := 3) de_int (by decide) (by decide)) fun d r ⟨⟨m, e, hm⟩, e2⟩ => ⟨⟨(m : Nat), e, (show 0 ≤ ((m : Nat) : Int) by omega)⟩, e2⟩) (fun i j hi hj => by show 1 ≤ i + j; omega)) (fun n hn => by omega)) fun d r ⟨⟨ds, n, ⟨⟨os, hp, e1⟩, _⟩, hn, e2⟩, e3⟩ => ⟨?_, e3⟩)
            (fun d r h => h.2) (xa_nil (P := fun x r => x = [] ∧ r = s2 rs) ⟨rfl, rfl⟩) (fun d ds r ⟨⟨fs, e, h⟩, _⟩ ⟨e2, e3⟩ => ⟨⟨fs, by rw [e, e2], h⟩, e3⟩))) fun d r ⟨ds, ⟨⟨fs, e, h⟩, e2⟩, e3⟩ => ⟨⟨fs, by rw [e3, e], h⟩, e2⟩) (fun d r ⟨⟨fs, e, a, b⟩, e2⟩ => ⟨fs, a, b, by rw [e, e2]⟩)) ?_
        · rw [e1] at e3
          rcases e3 with e3 | e3
          · cases e3
          · injection e3 with e3 _
            injection e3 with e3
            subst e3
            obtain ⟨os, ho, rfl⟩ := perm_map hp _ rfl
            exact ⟨os, ho, e4⟩
        · injection e1 with e1
          subst e1
          exact ⟨os.take n, by rw [e2]; exact congrArg PyData.list List.map_take.symm, by rw [List.length_take, hp.length_eq]; omega, fun r hr => hrin r (hp.mem_iff.mp (List.mem_of_mem_take hr))⟩
        rintro r ⟨fs, hfl, hfin, rfl⟩
        refine ds_one (d_set 9 (P := fun d r => (∃ rs', d = .tuple (rowsD rs') ∧ GoodR rs') ∧ r = (s2 rs).set 10 (.dat (.tuple (rowsD fs)))) sc_book.nd (ex_imp (ex_e c6 hr (da_cons (d := .int (size : Nat)) (dv 1) (da_cons (d := .int (n : Nat)) (dv 8) (da_cons (d := .tuple (rowsD fs)) (dv 10) (da_cons (d := .dict pd) (dv 5) da_nil)))) ⟨size, n, fs, pd, rfl, h2, hn1, hn3, by omega, hfin, hpd⟩) fun d r ⟨⟨size', n', _, _, rs', e1, e2, hnd', hin'⟩, e3⟩ => ⟨⟨rs', e2, ?_⟩, e3⟩) (fun d r ⟨⟨rs', e, h⟩, e2⟩ => ⟨rs', h, by rw [e, e2]; exact .same (.same (.same (.same (.same (.same (.same (.same (.same (.same (.non .nil))))))))))⟩))
        injection e1 with e1 e5
        injection e1 with e1
        injection e5 with e5 _
        injection e5 with e5
        have a1 : size = size' := by omega
        have a2 : n = n' := by omega
        subst a1 a2
        have := rowsIn_len h2 hn3 hnd' hin'
        exact ⟨by omega, hin'⟩
      · exact d1_ifF (r := s2 rs) (tx_of (dt_eq (dt_cmp op_lt rd_lt (dv 6) de_int (nomark _)) (decide_eq_false (by omega)))) (ds_nil ⟨rs, ⟨hrl, hrin⟩, WeakL.refl _⟩)
    rintro r ⟨rs, ⟨hrl, hrin⟩, hw2⟩
    refine ds_wk hw2 (ds_one (d1_putK (j := 4) (ds0 := tiesE ts) (hu1 hr) (pv 4) rfl (szl' ?_) (ex_of (d := .tuple [.int (n : Nat), .tuple (rowsD rs)]) (de_tup (da_cons (dv 8) (da_cons (dv 9) da_nil)) (show 2 ≤ sizeLine by decide))) (fun d r h => h.2) (ex_of (dv 7)) (fun d r h => h.2) fun d kd h8 h9 => ⟨.inr x, h9.1, ?_⟩))
    · have := congrArg List.length hts
      rw [List.length_map, List.length_take] at this
      rw [List.length_map, List.length_map]
      omega
    · obtain ⟨rfl, _⟩ := h8
      obtain ⟨rfl, _⟩ := h9
      refine ⟨ts ++ [(x, n, rs)], ?_, fun t ht => ?_, ?_⟩
      · rw [List.map_append, hts, List.take_add_one, hj]
        rfl
      · rcases List.mem_append.mp ht with h | h
        · exact hgd t h
        · rw [List.mem_singleton] at h
          subst h
          exact ⟨hn1, hn3, hrl, hrin⟩
      · rw [show putD (tiesE ts) (keyD (Sum.inr x)) (.tuple [.int (n : Nat), .tuple (rowsD rs)]) = tiesE (ts ++ [(x, n, rs)]) from put_tie hxn]
        exact .same (.same (.same (.same (.same (.same (.same (.non (.non (.non (.non .nil))))))))))
  · rintro r ⟨ts, hts, hgd, hw⟩
    refine ds_wk hw ?_
    cases ts with
    | nil => exact absurd hts.symm hne
    | cons t ts =>
      refine ds_frz (i := 4) (sl := .ownK (tiesE (t :: ts))) (d := .dict (tiesE (t :: ts))) rfl rfl rfl (ds_one (d_ret (de_disp2 (k1 := .inr "size") (k2 := .inr "ties") (by decide) de_str (dv 1) de_str (dv 4)) ⟨most, ⟨size, t :: ts⟩, rfl, h1, rfl, bkF_of h2 (by rw [hts]; exact hnd) ?_ (fun h => nomatch h) hgd, fun u hu => ?_⟩))
      · have := congrArg List.length hts
        rw [List.length_map] at this
        show (t :: ts).length ≤ 8
        omega
      · exact hbase u.1 (by rw [← hts]; exact List.mem_map.mpr ⟨u, hu, rfl⟩)
end
end K64

/-! ## W21 -/
/-! Walk: net. -/
namespace K64
open PySem PySem.Spec PyProof.Rows L2 PySem.W
theorem nodup_srt {α : Type} [DecidableEq α] [DatumOrd α] [OrdLaw α] {l : List α} (h : l.Nodup) : (srt l).Nodup := (srt_perm l).nodup_iff.mpr h
/-- tuple([grab(sack, e) for .. in range(..)]) as a row -/
def tupOf (ds : List PyData) : PyData := match ds with | [.list l] => .tuple l | _ => .none
def NetR (B : Bk) (most tm : Nat) (d : PyData) : Prop := ∃ (n : Nat) (ts : List Tie), d = pnD n ts ∧ n ≤ most ∧ FitB B n ts ∧ Asc ts ∧ ts.length ≤ tm
theorem row_len {B : Bk} (hB : BkF B) {t : Tie} (h : B.ties.lookup t.1 = some (t.2.items.length, rowsAt B t.1)) : 1 ≤ t.2.items.length ∧ t.2.items.length ≤ 3 := by
  have := hB.ok.tie _ _ _ h
  exact ⟨this.1, this.2.1⟩
section
variable {P : Program} {w : World} {K : PySem.W.Frag} {mg : Str → Option Value} {base : Heap}
theorem cal_net (M : Md K mg) (c1 : CGrab P w K mg base) (c2 : COne P w K mg base) {B : Bk} (hB : BkF B) {most tm : Nat} (hm : most ≤ 10) (ht : tm ≤ 10) :
    Cal P w K mg base 3 "_law_net" ["_law_sack_here", "_law_book_here", "_law_most", "_law_ties_most"] (spK w K (fun ds => ds = [bookD B, .int (most : Nat), .int (tm : Nat)]) (fun _ d => NetR B most tm d)) := M.cal 32 rfl (fun _ _ _ _ _ _ us hl => match us, hl with | [_, _, _, _], _ => rfl) fun f fd F => by
  refine fnK F sc_net (fun ds h => by rw [h]; rfl) fun cdv A outer s H E hr ds h => ?_
  subst h
  have hnames : (tiesE B.ties).map (·.1) = (B.ties.map (·.1)).map PyData.str := by
    show List.map _ (List.map _ (List.map _ _)) = List.map _ (List.map _ _)
    rw [List.map_map, List.map_map, List.map_map]
    rfl
  have hnl : (namesOf B).length ≤ 8 := by
    show (srt (B.ties.map (·.1))).length ≤ 8
    rw [(srt_perm _).length_eq, List.length_map]
    exact hB.few
  have hnne : namesOf B ≠ [] := fun e => by
    have := (srt_perm (B.ties.map (·.1))).length_eq
    have e' : srt (B.ties.map (·.1)) = [] := e
    rw [e', List.length_map, List.length_nil] at this
    exact hB.ne (List.eq_nil_of_length_eq_zero this.symm)
  have hlk : ∀ x ∈ namesOf B, B.ties.lookup x = some (placesAt B x, rowsAt B x) := fun x hx => by
    obtain ⟨a, ha⟩ := lookup_of_mem (srt_mem.mp hx)
    unfold placesAt rowsAt
    rw [ha]
    rfl
  let ρ0 : Sls := iniK n_net [bookD B, .int (most : Nat), .int (tm : Nat)]
  let nd : PyData := .list ((namesOf B).map PyData.str)
  let st : Nat → List (PyData × PyData) → Sls := fun n dd => [.sck, .dat (bookD B), .dat (.int (most : Nat)), .dat (.int (tm : Nat)), .dat (.int (n : Nat)), .ownN dd, .dat nd, .non, .non, .non, .non]
  refine ds_cons (M := fun r => ∃ n : Nat, n ≤ most ∧ r = st n []) (d1_par3XOE (i := 4) (j := 5) (l := 6) (Pa := fun d r => (∃ n : Nat, d = .int (n : Nat) ∧ n ≤ most) ∧ r = ρ0) (sl := fun _ _ => .ownN []) (dc := fun _ _ => nd) (fun ta ha => ps_par3C rfl sc_net.nd rfl rfl rfl (by first | exact Or.inl rfl | exact Or.inr rfl) (by first | exact Or.inl rfl | exact Or.inr rfl) (by first | exact Or.inl rfl | exact Or.inr rfl) ha rfl)
    (ex_imp (ex_grab c1 (hr.mono (show 1 ≤ 2 by decide)) (pv 0) rfl (n := most + 1) (de_eq (de_op op_add rd_add (dv 2) de_int) (by rw [Int.natCast_add]; rfl)) (by omega) (by omega)) fun d r ⟨⟨m, e, hm⟩, e2⟩ => ⟨⟨m, e, by omega⟩, e2⟩) (fun da r h => do_nilN)
    (fun da r h => by
      obtain ⟨_, rfl⟩ := h
      exact de_callB (call_sortedD rfl) (rdc_sortK hnames hB.nd (by rw [List.length_map]; have := hB.few; omega) (dk_ties hB.ne)) rfl (M.fr 5) (by decide +kernel) (da_cons (bk_ties (hu1 hr) (dv 1)) da_nil))
    (fun da r h => by
      obtain ⟨⟨n, rfl, hn⟩, rfl⟩ := h
      exact ⟨n, hn, rfl⟩)) ?_
  rintro r ⟨n, hnm, rfl⟩
  let Ok : List Tie → Prop := fun ts => ts.Nodup ∧ ∀ t ∈ ts, B.ties.lookup t.1 = some (t.2.items.length, rowsAt B t.1) ∧ ∀ u ∈ t.2.items, u < n
  refine ds_cons (M := fun r => ∃ dd ts, KeysAre dd ts ∧ Ok ts ∧ ts.length ≤ tm ∧ WeakL r (st n dd)) (d1_forX (g := gName 7) (P := fun L r => ∃ k : Nat, L = ((List.range k).map fun (i : Nat) => PyData.int i) ∧ (k ≤ tm ∧ (k = 0 ∨ 0 < n)) ∧ r = st n []) (fun L j r => ∃ k : Nat, L = ((List.range k).map fun (i : Nat) => PyData.int i) ∧ k ≤ tm ∧ (k = 0 ∨ 0 < n) ∧ ∃ dd ts, KeysAre dd ts ∧ Ok ts ∧ ts.length ≤ j ∧ WeakL r (st n dd)) PassesOwn.never rfl ?_ (pn 7 sc_net.nd)
    (fun L r ⟨k, e1, ⟨a, b⟩, e2⟩ => ⟨k, e1, a, b, [], [], rfl, ⟨List.nodup_nil, (fun _ h => nomatch h)⟩, Nat.le_refl _, by rw [e2]; exact WeakL.refl _⟩) (fun L j a r hja ⟨k, eL, hk, hk0, dd, ts, hkeys, hok, hlen, hw⟩ => ?_) (fun L r ⟨k, eL, hk, hk0, dd, ts, hkeys, hok, hlen, hw⟩ => ⟨dd, ts, hkeys, hok, by rw [eL, List.length_map, List.length_range] at hlen; omega, hw⟩)) ?_
  · refine pi_imp (xi_range (P := fun d r => (∃ k : Nat, d = .int (k : Nat) ∧ k ≤ tm ∧ (k = 0 ∨ 0 < n)) ∧ r = st n []) (C := fun k r => (k ≤ tm ∧ (k = 0 ∨ 0 < n)) ∧ r = st n []) rfl (M.fr 9) ?_ (fun d r ⟨⟨k, e, a, b⟩, e2⟩ => ⟨k, e, by omega, ⟨a, b⟩, e2⟩)) fun σ H R h => h
    by_cases h0 : 0 < n
    · exact ex_ifT (dt_eq (DW.dt (dw_and (dt_eq (dt_cmp op_gt rd_gt (dv 4) de_int (nomark _)) (decide_eq_true (show (0 : Int) < (n : Nat) by omega))) (fun _ => dw_and1 (dt_eq (dt_cmp (opD_ne (α := List Str) (hu64 hr) (by decide)) (rd_neD2 (a := namesOf B) (b := [])) (dv 6) (de_lst da_nil (by decide)) (nomark _)) (by rw [decide_eq_false hnne]; rfl))))) rfl)
        (ex_imp (ex_grab c1 (hr.mono (show 1 ≤ 2 by decide)) (pv 0) rfl (n := tm + 1) (de_eq (de_op op_add rd_add (dv 3) de_int) (by rw [Int.natCast_add]; rfl)) (by omega) (by omega)) fun d r ⟨⟨m, e, hm⟩, e2⟩ => ⟨⟨m, e, by omega, .inr h0⟩, e2⟩)
    · exact ex_ifF (dt_eq (DW.dt (dw_and (k := false) (l := false) (dt_eq (dt_cmp op_gt rd_gt (dv 4) de_int (nomark _)) (decide_eq_false (show ¬ (0 : Int) < (n : Nat) by omega))) (fun h => by cases h))) rfl) (ex_imp (ex_of (d := .int (0 : Nat)) de_int) fun d r ⟨e, e2⟩ => ⟨⟨0, e, Nat.zero_le _, .inl rfl⟩, e2⟩)
  · subst eL
    have hjl := (List.getElem?_eq_some_iff.mp hja).1
    rw [List.length_map, List.length_range] at hjl
    have hn0 : 0 < n := by omega
    obtain ⟨i, hi, rfl⟩ : ∃ i : Nat, (List.range k)[j]? = some i ∧ a = .int (i : Nat) := by
      rw [List.getElem?_map] at hja
      obtain ⟨i, h1, h2⟩ := Option.map_eq_some_iff.mp hja
      exact ⟨i, h1, h2.symm⟩
    let s1 : Sls := (st n dd).set 7 (.dat (.int (i : Nat)))
    refine ⟨s1, fun x σ F G H Q S dx q => tgs_name x σ F G H Q (S.weak hw.weak.1 hw.weak.2) dx q, ?_⟩
    refine ds_cons (M := fun r => ∃ x, x ∈ namesOf B ∧ r = s1.set 8 (.dat (.str x))) (d_set 8 (P := fun d r => (∃ x, d = .str x ∧ x ∈ namesOf B) ∧ r = s1) sc_net.nd (ex_imp (ex_c c2 hr (pv 0) rfl (xa_of (da_cons (d := nd) (dv 6) da_nil)) (fun ds r ⟨e1, _⟩ => ⟨_, .inl e1, (fun e => hnne (List.map_eq_nil_iff.mp e)), by rw [List.length_map]; omega⟩)) fun d r ⟨ds, ⟨e1, e2⟩, its, e3, hd⟩ => ⟨?_, e2⟩) (fun d r ⟨⟨x, e, a⟩, e2⟩ => ⟨x, a, by rw [e, e2]⟩)) ?_
    · rw [e1] at e3
      rcases e3 with e3 | e3
      · injection e3 with e3 _
        injection e3 with e3
        subst e3
        obtain ⟨x, hx, rfl⟩ := List.mem_map.mp hd
        exact ⟨x, rfl, hx⟩
      · have z : PyData.list ((namesOf B).map PyData.str) = PyData.tuple its := (List.cons.inj e3).1
        cases z
    rintro r ⟨x, hx, rfl⟩
    have hxl := hlk x hx
    obtain ⟨hp1, hp3, _⟩ := hB.ok.tie _ _ _ hxl
    let s2 : Sls := s1.set 8 (.dat (.str x))
    refine ds_cons (M := fun r => ∃ l : List Nat, l.length = placesAt B x ∧ (∀ v ∈ l, v < n) ∧ r = s2.set 9 (.dat (rowD ⟨l⟩))) (d_set 9 (P := fun d r => (∃ l : List Nat, d = rowD ⟨l⟩ ∧ l.length = placesAt B x ∧ ∀ v ∈ l, v < n) ∧ r = s2) sc_net.nd (ex_imp (ex_callTy (Pa := fun ds r => (∃ l : List Nat, ds = [natsD l] ∧ l.length = placesAt B x ∧ ∀ v ∈ l, v < n) ∧ r = s2) tupOf call_tuple_of (fun ds r' ⟨⟨l, e, _⟩, _⟩ => by rw [e]; exact rdc_tupleL) rfl (M.fr 4) (by decide +kernel)
      (xa_cons (Pa := fun d r => (∃ l : List Nat, d = natsD l ∧ l.length = placesAt B x ∧ ∀ v ∈ l, v < n) ∧ r = s2) (ex_imp (ex_lcX (List.range (placesAt B x)) (fun (i : Nat) => .int (i : Nat)) (j := 10) (y := "_law_at") (fun acc r => (∃ l : List Nat, acc = l.map (fun (v : Nat) => PyData.int (v : Nat)) ∧ ∀ v ∈ l, v < n) ∧ r = s2) rfl sc_net.nd (di_range rfl (M.fr 9) (da_cons (bk_places (hu1 hr) (dv 1) (dv 8) hxl (fun _ _ => rfl)) da_nil) (by omega)) (blk_of rfl)
        (fun _ _ _ _ _ => pn 10 sc_net.nd) (szl (by rw [List.length_range]; omega)) ⟨⟨[], rfl, (fun _ h => nomatch h)⟩, rfl⟩ (fun acc r ⟨_, e⟩ => by rw [e]; rfl)
        (fun s' H' C cl fp a acc r ⟨⟨l, e1, hl⟩, e2⟩ ha => by
          subst e2
          refine ex_imp (ex_grab c1 (hr.mono (show 1 ≤ 2 by decide)) (pv 0) rfl (n := n) (dv 4) hn0 (by omega)) fun d r ⟨⟨m, e, hm⟩, e3⟩ => ⟨⟨l ++ [m], by rw [e1, e, List.map_append]; rfl, fun v hv => ?_⟩, by rw [e3]; rfl⟩
          rcases List.mem_append.mp hv with h | h
          · exact hl v h
          · rw [List.mem_singleton] at h
            omega)) fun d r ⟨acc, e1, e2, ⟨l, e3, hl⟩, e4⟩ => ⟨⟨l, by rw [e1, e3], by
              have := congrArg List.length e3
              rw [List.length_map, e2, List.length_range] at this
              exact this.symm, hl⟩, e4⟩)
        (fun d r h => h.2) (xa_nil (P := fun x r => x = [] ∧ r = s2) ⟨rfl, rfl⟩) (fun d ds r ⟨⟨l, e, h⟩, _⟩ ⟨e2, e3⟩ => ⟨⟨l, by rw [e, e2], h⟩, e3⟩))) fun d r ⟨ds, ⟨⟨l, e, h⟩, e2⟩, e3⟩ => ⟨⟨l, by rw [e3, e]; rfl, h⟩, e2⟩) (fun d r ⟨⟨l, e, a, b⟩, e2⟩ => ⟨l, a, b, by rw [e, e2]⟩)) ?_
    rintro r ⟨l, hll, hlv, rfl⟩
    have hddl : dd.length = ts.length := by
      have := congrArg List.length (show dd.map (·.1) = ts.map Datum.toD from hkeys)
      rwa [List.length_map, List.length_map] at this
    refine ds_one (d1_putN (j := 5) (ds0 := dd) (hu9 hr) (pv 5) rfl (szl' (by omega)) (ex_of de_bl) (fun d r h => h.2) (ex_of (d := tieD (x, ⟨l⟩)) (de_tup (da_cons (dv 8) (da_cons (dv 9) da_nil)) (show 2 ≤ sizeLine by decide))) (fun d r h => h.2) fun d kd h8 h9 => ?_)
    obtain ⟨rfl, _⟩ := h9
    refine ⟨_, _, rfl, KeyD.key ((x, ⟨l⟩) : Tie), KeyD.dep ((x, ⟨l⟩) : Tie), k, rfl, hk, hk0, putD dd (tieD (x, ⟨l⟩)) d, addK ts (x, ⟨l⟩), keys_put hkeys ((x, ⟨l⟩) : Tie) d, ⟨addK_nodup hok.1, fun t ht => ?_⟩, Nat.le_trans (addK_len _ _) (by omega), .same (.same (.same (.same (.same (.same (.same (.non (.non (.non (.same .nil))))))))))⟩
    rcases addK_mem.mp ht with h | h
    · exact hok.2 t h
    · subst h
      exact ⟨by rw [hxl]; show some (placesAt B x, rowsAt B x) = some (l.length, rowsAt B x); rw [hll], hlv⟩
  · rintro r ⟨dd, ts, hkeys, hok, hlen, hw⟩
    refine ds_wk hw (ds_frz (i := 5) (sl := .ownN dd) rfl rfl rfl (ds_one (d_ret (de_disp2 (k1 := .inr "size") (k2 := .inr "ties") (by decide) de_str (dv 4) de_str (de_callTy call_tuple_of rdc_tupleL rfl (M.fr 4) (by decide +kernel) (da_cons (de_callB (crD_sortN (α := Tie) rfl (hu64 hr) (by decide)) (rdc_sortKN hkeys (sort_ties _)) rfl (M.fr 5) (by decide +kernel) (da_cons (dv 5) da_nil)) da_nil))) ?_)))
    exact ⟨n, srt ts, rfl, hnm, fun t ht => hok.2 t (srt_mem.mp ht), srt_asc hok.1, by rw [(srt_perm ts).length_eq]; exact hlen⟩
end
end K64

/-! ## W22 -/
/-! Walks: told_rows, fits_book, is_decided_one. -/
namespace K64
open PySem PySem.Spec PyProof.Rows L2 PySem.W
def toldL (B : Bk) (n : Nat) (ts : List Tie) (us : Row) : List Row := sset ((fillL B ts n).map fun l => appR l us)
def R_told (ds : List PyData) (d : PyData) : Prop := ∃ (B : Bk) (n : Nat) (ts : List Tie) (us : Row), ds = [bookD B, pnD n ts, rowD us] ∧ BkOk B ∧ FitB B n ts ∧ n ≤ 3 ∧ ts.length ≤ 1000 ∧ (∀ u ∈ us.items, u < n) ∧ us.items ≠ [] ∧ us.items.length ≤ 3 ∧ d = .tuple (rowsD (toldL B n ts us))
def R_fits (ds : List PyData) (d : PyData) : Prop := ∃ (B : Bk) (n : Nat) (ts : List Tie), ds = [bookD B, pnD n ts] ∧ FitB B n ts ∧ B.ties ≠ [] ∧ ts.length ≤ 1000 ∧ (∀ t ∈ ts, t.2.items.length ≤ 3) ∧ d = .bool true
theorem pow3 {size n k : Nat} (h1 : size ≤ 3) (h2 : n ≤ 9) (h : k ≤ n) : size ^ k ≤ 50000 := Nat.le_trans (Nat.pow_le_pow_left h1 k) (Nat.le_trans (Nat.pow_le_pow_right (by decide) (Nat.le_trans h h2)) (by decide))
section
variable {P : Program} {w : World} {K : PySem.W.Frag} {mg : Str → Option Value} {base : Heap}
theorem cal_told (M : Md K mg) (c : Cal P w K mg base 1 "_law_fillings_of" ["_law_book_here", "_law_net_here"] (spD w K R_fill)) : Cal P w K mg base 2 "_law_told_rows" ["_law_book_here", "_law_net_here", "_law_places"] (spD w K R_told) := M.cal 36 rfl (fun _ _ _ _ _ _ us hl => match us, hl with | [_, _, _], _ => rfl) fun f fd F => by
  refine fnD F sc_told_rows (fun ds d ⟨_, _, _, _, h, _⟩ => by rw [h]; rfl) fun cdv A outer s H E hr ds d h => ?_
  obtain ⟨B, n, ts, us, rfl, hB, hF, hn, hts, hus, hne, hl3, rfl⟩ := h
  have hlen : (fillL B ts n).length ≤ 27 := Nat.le_trans (fillL_len B ts n) (Nat.le_trans (Nat.pow_le_pow_left hB.size _) (Nat.pow_le_pow_right (by decide) hn))
  have happ : ∀ l, (appR l us).items.length = us.items.length := fun l => by show (us.items.map _).length = _; rw [List.length_map]
  refine ds_one (d_ret (de_callTy call_tuple_of rdc_tupleL rfl (M.fr 4) (by decide +kernel) (da_cons (de_sset (α := Row) (bs := (fillL B ts n).map fun l => appR l us) rfl (hu64 hr) (by decide) rfl (M.fr 5) rfl (M.fr 7) (de_eq (de_map (fillL B ts n) rowD (fun l => rowD (appR l us)) _ rfl sc_told_rows.nd (di_list (de_c c (hr.mono (by decide)) (da_cons (dv 0) (da_cons (dv 1) da_nil)) ⟨B, n, ts, rfl, hB, hF, by omega, hts, fun k hk => pow3 hB.size (by omega) hk, rfl⟩)) (own := [("_law_one", 3)]) (blk_of rfl) (fun _ _ _ _ _ => pn 3 sc_told_rows.nd) (szl (by omega)) (fun a _ => tg_name (by decide))
    (fun _ _ _ _ _ l hl => de_eq (de_callTy call_tuple_of rdc_tupleL rfl (M.fr 4) (by decide +kernel) (da_cons (de_map us.items (fun (u : Nat) => .int (u : Nat)) (fun u => .int (l.items.getD u 0 : Nat)) _ rfl sc_told_rows.nd (di_tup (dv 2)) (own := [("_law_place", 4)]) (blk_of rfl) (fun _ _ _ _ _ => pn 4 sc_told_rows.nd) (szl (by omega)) (fun a _ => tg_name (by decide))
      (fun _ _ _ _ _ u hu => row_ix (dv 3) (dv 4) (by rw [fillL_row n l hl]; exact hus u hu) (fun _ _ => rfl))) da_nil)) (by show PyData.tuple _ = PyData.tuple (List.map _ (List.map _ _)); rw [List.map_map]; rfl))) (by rw [List.map_map]; rfl)) ?_ ?_) da_nil)) rfl)
  · intro l hnd hm
    have := nodup_len (m := (fillL B ts n).map fun l => appR l us) hnd hm
    rw [List.length_map] at this
    omega
  · intro l hnd hm
    refine sort_rows (places := us.items.length) ?_ fun r hr => ?_
    · cases e : us.items with
      | nil => exact absurd e hne
      | cons a l => rw [List.length_cons]; omega
    · obtain ⟨q, _, rfl⟩ := List.mem_map.mp ((hm r).mp hr)
      exact happ q
theorem cal_fits (M : Md K mg) : Cal P w K mg base 1 "_law_fits_book" ["_law_book_here", "_law_net_here"] (spD w K R_fits) := M.cal 38 rfl (fun _ _ _ _ _ _ us hl => match us, hl with | [_, _], _ => rfl) fun f fd F => by
  refine fnD F sc_fits_book (fun ds d ⟨_, _, _, h, _⟩ => by rw [h]; rfl) fun cdv A outer s H E hr ds d h => ?_
  obtain ⟨B, n, ts, rfl, hF, hne, hts, h3, rfl⟩ := h
  refine ds_one (d_ret (de_eq (de_cmp (opD_eq (α := List Nat) (hu64 hr) (by decide)) (rd_eqD2 (a := (ts.filter fun _ => false).map fun _ => 1) (b := [])) (de_eq (de_lc ts tieD (fun _ => false) (fun _ => .int (1 : Nat)) _ rfl sc_fits_book.nd (di_tup (pn_ties (hu1 hr) (dv 1))) (own := [("_law_name", 2), ("_law_some", 3)]) (blk_of rfl) (fun _ _ _ _ _ => pg_tup rfl (pgs_cons (pn 2 sc_fits_book.nd) (pgs_cons (pn 3 sc_fits_book.nd) pgs_nil))) (szl (by omega)) (fun a _ => tg_pair (by decide) (by decide))
    (fun _ _ _ _ _ t ht => pts_if (dt_eq (dt_cmp op_ne rd_neI (de_ix ix_tup (rd_ixT (i := ((0 : Nat) : Int)) (atI_nat rfl)) (de_dget2 (k := .inr t.1) (df := .tuple [.int (0 : Nat), .tuple []]) (d := .tuple [.int (t.2.items.length : Nat), .tuple (rowsD (rowsAt B t.1))]) (hu1 hr) (bk_ties (hu1 hr) (dv 0)) (dv 2) (de_tup (da_cons de_int (da_cons (de_tup da_nil (by decide)) da_nil)) (show 2 ≤ sizeLine by decide)) (by rw [lookD_str, look_tieE, (hF t ht).1]; rfl) (dk_ties hne)) de_int (fun _ _ => rfl)) (de_callB call_len_seq rdc_lenT rfl (M.fr 1) PySem.boot_len (da_cons (dv 3) da_nil)) (nomark _)) (by rw [List.length_map, decide_eq_true rfl]; rfl)))
    (fun _ _ _ _ _ t _ h => by cases h)) (by show PyData.list (List.map _ _) = PyData.list (List.map _ (List.map _ _)); rw [List.map_map]; rfl)) (de_lst da_nil (by decide)) (nomark _)) ?_) rfl)
  have e : (ts.filter fun _ => false) = [] := List.filter_eq_nil_iff.mpr fun _ _ h => by cases h
  rw [e]
  rfl
end
end K64

/-! ## W23 -/
/-! Walk: is_decided_one. -/
namespace K64
open PySem PySem.Spec PyProof.Rows L2 PySem.W
theorem setsOf_size (size : Nat) : (setsOf size).length = 2 ^ size - 1 := by
  unfold setsOf
  rw [List.length_drop, (srt_perm _).length_eq, subsL_len]
theorem setNet_tie {B : Bk} (hB : BkF B) {t : Tie} (h : t ∈ setNetT B) : ∃ S, S ∈ shadowsAt B t.1 ∧ t.2 = idxT B.size S ∧ B.ties.lookup t.1 = some (t.2.items.length, rowsAt B t.1) ∧ ∀ u ∈ t.2.items, u < setNetN B := by
  unfold setNetT at h
  obtain ⟨x, hx, h2⟩ := List.mem_flatMap.mp (srt_mem.mp h)
  obtain ⟨S, hS, rfl⟩ := List.mem_map.mp h2
  obtain ⟨_, hSl, hSm⟩ := shadowsAt_mem hS
  obtain ⟨a, ha⟩ := lookup_of_mem (srt_mem.mp hx)
  refine ⟨S, hS, rfl, ?_, fun u hu => ?_⟩
  · show B.ties.lookup x = some ((S.items.map _).length, rowsAt B x)
    rw [List.length_map, hSl]
    unfold placesAt rowsAt
    rw [ha]
    rfl
  · obtain ⟨r, hr, rfl⟩ := List.mem_map.mp hu
    exact List.idxOf_lt_length_of_mem (hSm r hr)
/-- a filling of the set net, so far -/
def PartC (B : Bk) (k : Nat) (l : Row) : Prop := l.items.length = k ∧ (∀ v ∈ l.items, v < B.size) ∧ ∀ t ∈ setNetT B, maxR t.2 < k → appR l t.2 ∈ rowsAt B t.1
theorem partC_snoc {B : Bk} {k v : Nat} {l : Row} (h : PartC B k l) (hv : v < B.size) (hok : okF B (setNetT B) k (snocR l v) = true) : PartC B (k + 1) (snocR l v) := by
  obtain ⟨h1, h2, h3⟩ := h
  refine ⟨by show (l.items ++ [v]).length = _; rw [List.length_append, h1]; rfl, fun u hu => ?_, fun t ht hm => ?_⟩
  · rcases List.mem_append.mp hu with h | h
    · exact h2 u h
    · rw [List.mem_singleton] at h
      omega
  · by_cases hk : maxR t.2 = k
    · have hb : badF B (atMax (setNetT B) k) (snocR l v) = [] := of_decide_eq_true hok
      have := (List.filter_eq_nil_iff.mp hb) t (List.mem_filter.mpr ⟨ht, decide_eq_true hk⟩)
      simpa using this
    · have hlt : maxR t.2 < k := by omega
      have e : appR (snocR l v) t.2 = appR l t.2 := by
        show (⟨t.2.items.map _⟩ : Row) = ⟨t.2.items.map _⟩
        congr 1
        refine List.map_congr_left fun u hu => ?_
        have := maxR_le hu
        show (l.items ++ [v]).getD u 0 = l.items.getD u 0
        rw [List.getD_eq_getElem?_getD, List.getD_eq_getElem?_getD, List.getElem?_append_left (by omega)]
      rw [e]
      exact h3 t ht hlt
def wS (n : Nat) (ls : List Row) : Nat := (ls.map fun l => 4 ^ (n - l.items.length)).sum
theorem wS_app (n : Nat) (a b : List Row) : wS n (a ++ b) = wS n a + wS n b := by
  unfold wS
  rw [List.map_append, List.sum_append_nat]
theorem wS_len (n : Nat) : ∀ ls : List Row, ls.length ≤ wS n ls
  | [] => Nat.le_refl _
  | l :: ls => by
    have := wS_len n ls
    have h1 : 1 ≤ 4 ^ (n - l.items.length) := Nat.pow_pos (by decide)
    unfold wS at this ⊢
    rw [List.map_cons, List.sum_cons, List.length_cons]
    omega
def CPre (B : Bk) (ds : List PyData) : Prop := ds = [bookD B]
def CRes (B : Bk) (d : PyData) : Prop := ∃ k : Bool, d = .bool k ∧ (k = true → ∃ l, PartC B (setNetN B) l)
section
variable {P : Program} {w : World} {K : PySem.W.Frag} {mg : Str → Option Value} {base : Heap}
theorem cal_decided (M : Md K mg) (c : Cal P w K mg base 4 "_law_set_net_of" ["_law_book_here"] (spD w K R_setNet)) {B : Bk} (hB : BkF B) :
    Cal P w K mg base 5 "_law_is_decided_one" ["_law_book_here"] (spE w K (fun ds => ds = [bookD B]) (fun _ d => CRes B d)) := M.cal 37 rfl (fun _ _ _ _ _ _ us hl => match us, hl with | [_], _ => rfl) fun f fd F => by
  refine fnE F sc_is_decided_one (fun ds h => by rw [h]; rfl) fun cdv A outer s H E hr ds h => ?_
  subst h
  have hsz := hB.ok.size
  let n := setNetN B
  let T := setNetT B
  have hn7 : n ≤ 7 := by
    show (setsOf B.size).length ≤ 7
    rw [setsOf_size]
    have := Nat.pow_le_pow_right (n := 2) (by decide) hsz
    omega
  have hT : ∀ t ∈ T, B.ties.lookup t.1 = some (t.2.items.length, rowsAt B t.1) ∧ 1 ≤ t.2.items.length ∧ t.2.items.length ≤ 3 ∧ ∀ u ∈ t.2.items, u < n := fun t ht => by
    obtain ⟨S, _, _, h1, h2⟩ := setNet_tie hB ht
    have := hB.ok.tie _ _ _ h1
    exact ⟨h1, this.1, this.2.1, h2⟩
  have hTl : T.length ≤ 64000 := by
    show (srt (setTies B (namesOf B))).length ≤ _
    rw [(srt_perm _).length_eq]
    have hlk : ∀ x ∈ namesOf B, placesAt B x ≤ 3 := fun x hx => by
      obtain ⟨a, ha⟩ := lookup_of_mem (srt_mem.mp hx)
      have h1 : B.ties.lookup x = some (placesAt B x, rowsAt B x) := by
        unfold placesAt rowsAt
        rw [ha]
        rfl
      exact (hB.ok.tie _ _ _ h1).2.1
    have hnl : (namesOf B).length ≤ 8 := by
      show (srt (B.ties.map (·.1))).length ≤ 8
      rw [(srt_perm _).length_eq, List.length_map]
      exact hB.few
    have go : ∀ l : List Str, (∀ x ∈ l, placesAt B x ≤ 3) → (setTies B l).length ≤ l.length * 8000 := by
      intro l
      induction l with
      | nil => exact fun _ => Nat.zero_le _
      | cons a l ih =>
        intro h
        have h1 := shadowsAt_len B a hsz (h a List.mem_cons_self)
        have h2 := ih fun x hx => h x (List.mem_cons_of_mem _ hx)
        unfold setTies at h2 ⊢
        rw [List.flatMap_cons, List.length_append, List.length_cons]
        unfold setTiesAt at h2 ⊢
        rw [List.length_map]
        omega
    have := go _ hlk
    omega
  let grp : List PyData := (List.range n).map fun u => .list (tiesD (atMax T u))
  have hne : ∀ t ∈ T, t.2.items ≠ [] := fun t ht e => by
    have := (hT t ht).2.1
    rw [e] at this
    exact absurd this (by decide)
  let s0 : List Row → Sls := fun ls => [.dat (bookD B), .dat (pnD n T), .ownL (rowsD ls), .non, .non, .non, .non, .non, .non, .non, .non, .non]
  refine ds_cons (M := fun r => r = s0 [⟨[]⟩]) (d1_parXO (i := 1) (j := 2) (sl := fun _ _ => .ownL (rowsD [⟨[]⟩])) (Pa := Is (pnD n T) (ini n_is_decided_one [bookD B])) (fun ta ha => ps_parC rfl sc_is_decided_one.nd rfl rfl (by first | exact Or.inl rfl | exact Or.inr rfl) (by first | exact Or.inl rfl | exact Or.inr rfl) ha rfl)
    (ex_of (de_c c (hr.mono (by decide)) (da_cons (dv 0) da_nil) ⟨B, rfl, hB, rfl⟩)) (fun da r _ => do_lst (da_cons (de_tup da_nil (by decide)) da_nil) (show 1 ≤ sizeLine by decide)) (fun da r h => by obtain ⟨rfl, rfl⟩ := h; rfl)) fun r hr0 => ?_
  subst hr0
  let st : List Row → Sls := fun ls => [.dat (bookD B), .dat (pnD n T), .ownL (rowsD ls), .dat (.list grp), .non, .non, .non, .non, .non, .non, .non, .non]
  refine ds_then (ρ' := st [⟨[]⟩]) (d_letLc 3 (List.range n) (fun (u : Nat) => .int (u : Nat)) (fun _ => true) (fun u => .list (tiesD (atMax T u))) _ rfl sc_is_decided_one.nd (di_range rfl (M.fr 9) (da_cons (pn_size (hu1 hr) (dv 1)) da_nil) (by omega)) (own := [("_law_unknown", 8)]) (blk_of rfl) (fun _ _ _ _ _ => pn 8 sc_is_decided_one.nd) (szl (by rw [List.length_range]; omega)) (fun a _ => tg_name (by decide))
    (fun _ _ _ _ _ u hu => pts_yes) (fun _ _ _ _ _ u hu _ => de_lc T tieD (fun t => decide (maxR t.2 = u)) tieD _ rfl sc_is_decided_one.nd (di_tup (pn_ties (hu1 hr) (dv 1))) (own := [("_law_one", 9)]) (blk_of rfl) (fun _ _ _ _ _ => pn 9 sc_is_decided_one.nd) (szl (by omega)) (fun a _ => tg_name (by decide))
      (fun _ _ _ _ _ t ht => pts_if (dt_eq (dt_cmp op_eq rd_eqI (de_maxR rfl (hu64 hr) (M.fr 11) (de_ix ix_tup (rd_ixT (i := ((1 : Nat) : Int)) (atI_nat rfl)) (dv 9) de_int (fun _ _ => rfl)) (hne t ht)) (dv 8) (nomark _)) (decide_eq_decide.mpr (by omega)))) (fun _ _ _ _ _ t _ _ => dv 9)) (by rw [List.filter_eq_self.mpr fun _ _ => rfl]; rfl)) ?_
  let Ok : List Row → Prop := fun ls => ∀ l ∈ ls, ∃ k, k ≤ n ∧ PartC B k l
  refine ds_cons (M := fun r => ∃ ls, WeakL r (st ls)) (d1_while (m0 := wS n [⟨[]⟩]) (fun m r => ∃ ls, wS n ls = m ∧ m ≤ 16384 ∧ Ok ls ∧ r = st ls) PassesOwn.never ⟨[⟨[]⟩], rfl, ?_, fun l hl => ⟨0, Nat.zero_le _, ?_⟩, rfl⟩ (fun m r ⟨ls, hm, hm2, hok, hw⟩ => ?_)) fun r ⟨ls, hw⟩ => ?_
  · show 4 ^ (n - 0) + 0 ≤ 16384
    have := Nat.pow_le_pow_right (n := 4) (by decide) hn7
    simp only [Nat.sub_zero, Nat.add_zero]
    exact Nat.le_trans this (by decide)
  · rw [List.mem_singleton] at hl
    subst hl
    exact ⟨rfl, (fun _ h => nomatch h), fun t ht hm => absurd hm (Nat.not_lt_zero _)⟩
  · subst hw
    have hcond : TX (cxN P w K mg base n_is_decided_one "_law_is_decided_one" s_is_decided_one f cdv A outer s H E) (match (defBody s_is_decided_one) with | _ :: _ :: .While c _ _ _ :: _ => c | _ => .Constant .none 0 ⟨0, 0, 0, 0⟩) (st ls) (fun b r' => b = (!decide (ls = [])) ∧ r' = st ls) := tx_own (dt_cmp (opD_ne (α := List Row) (hu64 hr) (by decide)) (rd_neD2 (a := ls) (b := [])) (dv 2) (de_lst da_nil (by decide)) (nomark _))
    refine ⟨_, hcond, fun hk => ?_, fun _ => ⟨ls, WeakL.refl _⟩⟩
    have hls : ls ≠ [] := by simpa using hk
    obtain ⟨init, l, rfl⟩ : ∃ init l, ls = init ++ [l] := ⟨ls.dropLast, ls.getLast hls, (List.dropLast_concat_getLast hls).symm⟩
    obtain ⟨k, hkn, hpc⟩ := hok l (List.mem_append_right _ (List.mem_singleton.mpr rfl))
    have hll := hpc.1
    have e1 : rowsD (init ++ [l]) = rowsD init ++ [rowD l] := List.map_append
    have hinit : init.length ≤ 16384 := by
      have h1 := wS_len n (init ++ [l])
      rw [List.length_append] at h1
      omega
    let s1 : List Row → Sls := fun ks => [.dat (bookD B), .dat (pnD n T), .ownL (rowsD ks), .dat (.list grp), .dat (rowD l), .non, .non, .non, .non, .non, .non, .non]
    show DS _ _ [.dat (bookD B), .dat (pnD n T), .ownL (rowsD (init ++ [l])), .dat (.list grp), .non, .non, .non, .non, .non, .non, .non, .non] _ _
    rw [e1]
    refine ds_then (ρ' := s1 init) (d_set 4 (P := Is (rowD l) [.dat (bookD B), .dat (pnD n T), .ownL (rowsD init), .dat (.list grp), .non, .non, .non, .non, .non, .non, .non, .non]) sc_is_decided_one.nd (ex_pop (ds := rowsD init) (d := rowD l) (pv 2) rfl) (fun d r h => by obtain ⟨rfl, rfl⟩ := h; rfl)) ?_
    by_cases hk0 : k = n
    · refine ds_cons (M := fun _ => False) (d1_ifT (r := s1 init) (tx_of (dt_eq (dt_cmp op_eq rd_eqI (de_callB call_len_seq rdc_lenT rfl (M.fr 1) PySem.boot_len (da_cons (dv 4) da_nil)) (pn_size (hu1 hr) (dv 1)) (nomark _)) (by rw [List.length_map]; exact decide_eq_true (by omega)))) (ds_one (d_ret (de_bl (k := true)) ⟨true, rfl, fun _ => ⟨l, ?_⟩⟩))) fun r h => h.elim
      show PartC B n l
      rw [← hk0]
      exact hpc
    refine ds_then (ρ' := s1 init) (d1_ifF (r := s1 init) (tx_of (dt_eq (dt_cmp op_eq rd_eqI (de_callB call_len_seq rdc_lenT rfl (M.fr 1) PySem.boot_len (da_cons (dv 4) da_nil)) (pn_size (hu1 hr) (dv 1)) (nomark _)) (by rw [List.length_map]; exact decide_eq_false (by omega)))) (ds_nil rfl)) ?_
    have hkn' : k < n := by omega
    have hkid : ∀ j, (fillS B T k l (List.range j)).length ≤ j := fun j => by
      have := fillS_len (B := B) (ts := T) (k := k) (l := l) (vs := List.range j)
      rwa [List.length_range] at this
    refine ds_for (List.range B.size) (fun (v : Nat) => .int (v : Nat)) (fun j => s1 (init ++ fillS B T k l (List.range j))) PassesOwn.never rfl (di_range rfl (M.fr 9) (da_cons (bk_size (hu1 hr) (dv 0)) da_nil) (by omega)) (pn 5 sc_is_decided_one.nd) (fun j v hjv => ?_) ?_ ?_
    · have hj := List.getElem?_eq_some_iff.mp hjv
      have ev : v = j := by rw [← hj.2]; simp
      subst ev
      have hv : v < B.size := by have := hj.1; simpa using this
      refine ⟨_, tgs_name, ?_⟩
      let s2 : Sls := [.dat (bookD B), .dat (pnD n T), .ownL (rowsD (init ++ fillS B T k l (List.range v))), .dat (.list grp), .dat (rowD l), .dat (.int (v : Nat)), .dat (rowD (snocR l v)), .non, .non, .non, .non, .non]
      refine ds_then (ρ' := s2) (d1_imp (d_let 6 (d := rowD (snocR l v)) sc_is_decided_one.nd (de_eq (de_op op_catA (rd_catT (szl (by rw [List.length_map, hll]; show k + 1 ≤ _; omega))) (dv 4) (de_tup (da_cons (dv 5) da_nil) (show 1 ≤ sizeLine by decide))) (rowD_snoc l v))) (fun r h => h) fun _ _ h => h) ?_
      have hsl : (snocR l v).items.length = k + 1 := by show (l.items ++ [v]).length = _; rw [List.length_append, hll]; rfl
      have hat : ∀ t ∈ atMax T k, t ∈ T ∧ maxR t.2 = k := fun t ht => ⟨(List.mem_filter.mp ht).1, of_decide_eq_true (List.mem_filter.mp ht).2⟩
      have hgrp : atI grp ((k : Nat) : Int) = some (.list (tiesD (atMax T k))) := atI_nat (by
        show (List.map _ (List.range n))[k]? = _
        rw [List.getElem?_map, List.getElem?_range hkn']
        rfl)
      let bad : List Nat := (badF B (atMax T k) (snocR l v)).map fun _ => 1
      refine ds_then (ρ' := s2.set 7 (.dat (.list (bad.map fun (i : Nat) => PyData.int (i : Nat))))) (d_letLc 7 (atMax T k) tieD (fun t => !decide (appR (snocR l v) t.2 ∈ rowsAt B t.1)) (fun _ => .int (1 : Nat)) _ rfl sc_is_decided_one.nd (di_list (de_ix ix_list (rd_ixL hgrp) (dv 3) (de_eq (de_callB call_len_seq rdc_lenT rfl (M.fr 1) PySem.boot_len (da_cons (dv 4) da_nil)) (by rw [List.length_map, hll])) (fun _ _ => rfl))) (own := [("_law_name", 10), ("_law_some", 11)]) (blk_of rfl) (fun _ _ _ _ _ => pg_tup rfl (pgs_cons (pn 10 sc_is_decided_one.nd) (pgs_cons (pn 11 sc_is_decided_one.nd) pgs_nil))) (szl (Nat.le_trans (List.length_filter_le _ _) (by omega))) (fun a _ => tg_pair (by decide) (by decide))
        (fun _ _ _ _ _ t ht => pts_if (dt_cmp (opD_notIn (α := Row) (hu64 hr) (by decide)) (rd_ninT (a := appR (snocR l v) t.2) (bs := rowsAt B t.1)) (de_eq (de_callTy call_tuple_of rdc_tupleL rfl (M.fr 4) (by decide +kernel) (da_cons (de_map t.2.items (fun u => .int (u : Nat)) (fun u => .int ((snocR l v).items.getD u 0 : Nat)) _ rfl sc_is_decided_one.nd (di_tup (dv 11)) (own := [("_law_one", 9)]) (blk_of rfl) (fun _ _ _ _ _ => pn 9 sc_is_decided_one.nd) (szl (by have := (hT t (hat t ht).1).2.2.1; omega)) (fun a _ => tg_name (by decide))
          (fun _ _ _ _ _ u hu => row_ix (dv 6) (dv 9) (by have := maxR_le hu; have := (hat t ht).2; omega) (fun _ _ => rfl))) da_nil)) (by show PyData.tuple _ = PyData.tuple (List.map _ (List.map _ _)); rw [List.map_map]; rfl)) (bk_rows (hu1 hr) (dv 0) (dv 10) (hT t (hat t ht).1).1 (fun _ _ => rfl)) rfl))
        (fun _ _ _ _ _ t _ _ => de_int) (by show _ = List.set s2 7 (.dat (.list (List.map _ (List.map _ _)))); rw [List.map_map]; rfl)) ?_
      have hbad : bad = [] ↔ okF B T k (snocR l v) = true := by
        unfold okF
        rw [decide_eq_true_iff]
        exact List.map_eq_nil_iff
      have hsp : ∀ b, decide (bad = []) = b → DT (cxN P w K mg base n_is_decided_one "_law_is_decided_one" s_is_decided_one f cdv A outer s H E) (match (defBody s_is_decided_one) with | _ :: _ :: .While _ (_ :: _ :: .For _ _ (_ :: _ :: .If c _ _ _ :: _) _ _ :: _) _ _ :: _ => c | _ => .Constant .none 0 ⟨0, 0, 0, 0⟩) (er (s2.set 7 (.dat (.list (bad.map fun (i : Nat) => PyData.int (i : Nat)))))) b := fun b hb =>
        dt_eq (dt_cmp (opD_eq (α := List Nat) (hu64 hr) (by decide)) (rd_eqD2 (a := bad) (b := [])) (dv 7) (de_lst da_nil (by decide)) (nomark _)) hb
      by_cases hok2 : okF B T k (snocR l v) = true
      · refine ds_one (d1_ifT (r := s2.set 7 (.dat (.list (bad.map fun (i : Nat) => PyData.int (i : Nat))))) (tx_of (hsp true (decide_eq_true (hbad.mpr hok2)))) (ds_one (d1_app (pv 2) rfl (ex_of (dv 6)) fun d r h => ?_)))
        obtain ⟨rfl, rfl⟩ := h
        have e2 : fillS B T k l (List.range (v + 1)) = fillS B T k l (List.range v) ++ [snocR l v] := by
          rw [List.range_succ]
          unfold fillS
          rw [List.filter_append, List.filter_cons_of_pos (p := fun v => okF B T k (snocR l v)) hok2, List.filter_nil, List.map_append]
          rfl
        have hkl := hkid v
        refine ⟨_, rfl, by rw [List.length_map, List.length_append]; exact szl' (by omega), ?_⟩
        rw [e2, ← List.append_assoc]
        have e3 : rowsD (init ++ fillS B T k l (List.range v)) ++ [rowD (snocR l v)] = rowsD (init ++ fillS B T k l (List.range v) ++ [snocR l v]) := by
          show _ = List.map rowD (_ ++ [snocR l v])
          rw [List.map_append]
          rfl
        rw [e3]
        exact .same (.same (.same (.same (.same (.non (.non (.non (.same (.same (.same (.same .nil)))))))))))
      · refine ds_one (d1_ifF (r := s2.set 7 (.dat (.list (bad.map fun (i : Nat) => PyData.int (i : Nat))))) (tx_of (hsp false (decide_eq_false fun z => hok2 (hbad.mp z)))) (ds_nil ?_))
        have e2 : fillS B T k l (List.range (v + 1)) = fillS B T k l (List.range v) := by
          rw [List.range_succ]
          unfold fillS
          rw [List.filter_append, List.filter_cons_of_neg (p := fun v => okF B T k (snocR l v)) hok2, List.filter_nil, List.append_nil]
        rw [e2]
        exact .same (.same (.same (.same (.same (.non (.non (.non (.same (.same (.same (.same .nil)))))))))))
    · rw [List.length_range]
      let ks := fillS B T k l (List.range B.size)
      have hks : ks.length ≤ 3 := Nat.le_trans (hkid B.size) hsz
      have hkm : ∀ q ∈ ks, PartC B (k + 1) q := fun q hq => by
        obtain ⟨v, hv, rfl⟩ := List.mem_map.mp hq
        have := List.mem_filter.mp hv
        exact partC_snoc hpc (List.mem_range.mp this.1) this.2
      have hw1 : wS n ks ≤ 3 * 4 ^ (n - (k + 1)) := by
        have go : ∀ l : List Row, (∀ q ∈ l, q.items.length = k + 1) → wS n l = l.length * 4 ^ (n - (k + 1)) := by
          intro l
          induction l with
          | nil => exact fun _ => (Nat.zero_mul _).symm
          | cons a l ih =>
            intro h
            have h1 := h a List.mem_cons_self
            have h2 := ih fun q hq => h q (List.mem_cons_of_mem _ hq)
            unfold wS at h2 ⊢
            rw [List.map_cons, List.sum_cons, h2, h1, List.length_cons, Nat.succ_mul]
            omega
        rw [go ks fun q hq => (hkm q hq).1]
        exact Nat.mul_le_mul_right _ hks
      have hw2 : wS n [l] = 4 * 4 ^ (n - (k + 1)) := by
        show 4 ^ (n - l.items.length) + 0 = _
        rw [hll, show n - k = (n - (k + 1)) + 1 by omega, Nat.pow_succ, Nat.mul_comm]
        rfl
      have hp : 0 < 4 ^ (n - (k + 1)) := Nat.pow_pos (by decide)
      have h1 := wS_app n init [l]
      have h2 := wS_app n init ks
      refine ds_wk (ρ' := st (init ++ ks)) (.same (.same (.same (.same (.non (.same (.same (.same (.same (.same (.same (.same .nil)))))))))))) (ds_nil ⟨wS n (init ++ ks), by omega, init ++ ks, rfl, by omega, fun q hq => ?_, rfl⟩)
      rcases List.mem_append.mp hq with h | h
      · exact hok q (List.mem_append_left _ h)
      · exact ⟨k + 1, hkn', hkm q h⟩
    · show WeakL _ (s1 (init ++ []))
      rw [List.append_nil]
      exact WeakL.refl _
  · exact ds_wk hw (ds_one (d_ret (de_bl (k := false)) ⟨false, rfl, fun h => by cases h⟩))
end
end K64

/-! ## W6 -/
/-! Dicts from numbers to numbers; copy_of. -/
namespace K64
open PySem PySem.Spec PyProof.Rows L2 PySem.W
def rInK (neg : Bool) : R2 := fun x y H Q => ∃ a o, y = .ref a ∧ DGet H a x o ∧ Q (.bl (if neg then !o.isSome else o.isSome)) H
theorem op_notInK {X : Cx} (hu : X.A.units + 1 < cLine) : OpR X (compareOp .NotIn) (rInK true) := by
  intro pins s σ H x y v u Q I rx ry h
  obtain ⟨a, o, rfl, g, q⟩ := h
  cases ry
  exact d_notIn hu I g rx fun s' I' => ⟨.bl _, H, I', rfl, q⟩
/-- numbers to numbers -/
abbrev numD (l : List (Nat × Nat)) : List (PyData × PyData) := l.map fun p => (.int (p.1 : Nat), .int (p.2 : Nat))
theorem numD_cons (p : Nat × Nat) (l : List (Nat × Nat)) : numD (p :: l) = (.int (p.1 : Nat), .int (p.2 : Nat)) :: numD l := rfl
theorem numD_app (l m : List (Nat × Nat)) : numD (l ++ m) = numD l ++ numD m := List.map_append
theorem dk_num {p : Nat × Nat} {l : List (Nat × Nat)} : ∀ w K G v, Dx w K G v (.dict (numD (p :: l))) → ∃ a kvs, v = .ref a ∧ G a = some (.dK kvs) ∧ DxK w K G kvs (numD (p :: l)) := by
  intro w K G v h
  cases h with
  | dk h r _ => exact ⟨_, _, rfl, h, r⟩
  | dn h r =>
    cases r with
    | cons h1 _ _ _ _ => cases h1
theorem lookD_num : ∀ (l : List (Nat × Nat)) (k : Nat), lookD (numD l) (.inl (k : Nat)) = (l.lookup k).map fun v => PyData.int (v : Nat)
  | [], _ => rfl
  | p :: l, k => by
    obtain ⟨a, b⟩ := p
    have ih := lookD_num l k
    unfold lookD at ih ⊢
    by_cases h : a = k
    · rw [numD_cons, List.find?_cons_of_pos (by simp; omega)]
      rw [List.lookup_cons, show (k == a) = true by simp [h]]
      rfl
    · rw [numD_cons, List.find?_cons_of_neg (by simp; omega), ih, List.lookup_cons, show (k == a) = false by simpa using fun e => h e.symm]
theorem val_num {w : World} {K : PySem.W.Frag} {G : Hp} : ∀ {kvs : List (Key × V)} {l : List (Nat × Nat)}, DxK w K G kvs (numD l) → ∀ k : Nat, (valV kvs (Sum.inl (k : Nat))).isSome = (l.lookup k).isSome
  | _, [], .nil, k => rfl
  | _, (a, b) :: l, h, k => by
    rw [numD_cons] at h
    dsimp only at h
    generalize e1 : (PyData.int ((a : Nat) : Int)) = ka at h
    cases h with
    | @cons key v vs d ds dx r =>
      have ek : key = Sum.inl ((a : Nat) : Int) := by
        cases key with
        | inl i => cases e1; rfl
        | inr z => cases e1
      subst ek
      have ih := val_num r k
      unfold valV at ih ⊢
      by_cases hh : a = k
      · rw [List.find?_cons_of_pos (by simp; omega), List.lookup_cons, show (k == a) = true by simp [hh]]
        rfl
      · rw [List.find?_cons_of_neg (by simp; omega), ih, List.lookup_cons, show (k == a) = false by simpa using fun e => hh e.symm]
theorem rd_ninNum {w : World} {K : PySem.W.Frag} {p : Nat × Nat} {l : List (Nat × Nat)} {k : Nat} : RD2 w K (rInK true) (.int (k : Nat)) (.dict (numD (p :: l))) (.bool (!((p :: l).lookup k).isSome)) := fun x y G H Q s dx dy q => by
  cases dx
  obtain ⟨a, kvs, rfl, h, r⟩ := dk_num _ _ _ _ dy
  refine ⟨a, _, rfl, DGet.k (k := .inl (k : Nat)) (s _ _ h), ?_⟩
  rw [val_num r k]
  exact q _ G H (.refl s) (.bl _)
/-- one more number -/
theorem put_num {l : List (Nat × Nat)} {k v : Nat} (h : l.lookup k = none) : putD (numD l) (keyD (.inl (k : Nat))) (.int (v : Nat)) = numD (l ++ [(k, v)]) := by
  unfold putD
  have e : ((numD l).any fun e => decide (keyOf e.1 = keyOf (keyD (.inl (k : Nat))))) = false := by
    rw [List.any_eq_false]
    intro e he
    obtain ⟨q, hq, rfl⟩ := List.mem_map.mp he
    simp only [keyD, keyOf, decide_eq_true_eq, Option.some.injEq, NestedKey.num.injEq]
    intro z
    have z' : q.1 = k := by omega
    have : l.lookup k ≠ none := by
      rw [← z']
      clear h he
      induction l with
      | nil => cases hq
      | cons a l ih =>
        rw [List.lookup_cons]
        by_cases hb : (q.1 == a.1) = true
        · rw [hb]; exact fun z => nomatch z
        · rw [Bool.eq_false_iff.mpr hb]
          rcases List.mem_cons.mp hq with rfl | hq
          · simp at hb
          · exact ih hq
    exact this h
  rw [e, if_neg Bool.false_ne_true, numD_app]
  rfl
theorem zip_num : ∀ (us ps : List Nat) (acc : List (Nat × Nat)), us.Nodup → (∀ u ∈ us, acc.lookup u = none) → dcD (fun p : Key × PyData => keyD p.1) (·.2) (((us.map fun (n : Nat) => (n : Int)).zip (ps.map fun n => PyData.int (n : Nat))).map fun p => (Sum.inl p.1, p.2)) (numD acc) = numD (acc ++ us.zip ps)
  | [], _, acc, _, _ => by
    show numD acc = _
    rw [List.zip_nil_left, List.append_nil]
  | _ :: _, [], acc, _, _ => by
    show numD acc = _
    rw [List.zip_nil_right, List.append_nil]
  | u :: us, p :: ps, acc, hn, ha => by
    have hn' := List.nodup_cons.mp hn
    have e : putD (numD acc) (keyD (Sum.inl ((u : Nat) : Int))) (.int (p : Nat)) = numD (acc ++ [(u, p)]) := put_num (ha u List.mem_cons_self)
    show dcD (fun p : Key × PyData => keyD p.1) (·.2) (((us.map fun (n : Nat) => (n : Int)).zip (ps.map fun n => PyData.int (n : Nat))).map fun p => (Sum.inl p.1, p.2)) (putD (numD acc) (keyD (Sum.inl ((u : Nat) : Int))) (.int (p : Nat))) = _
    rw [e, zip_num us ps _ hn'.2 fun x hx => ?_, List.append_assoc]
    · rfl
    · rw [List.lookup_append, ha x (List.mem_cons_of_mem _ hx), Option.none_or, List.lookup_cons, show (x == u) = false from beq_eq_false_iff_ne.mpr fun z => hn'.1 (z ▸ hx)]
      rfl
/-- the copy's numbers -/
def numStep (s : List (Nat × Nat) × Nat) (u : Nat) : List (Nat × Nat) × Nat := if (s.1.lookup u).isSome then s else (s.1 ++ [(u, s.2)], s.2 + 1)
def numB (us ps : List Nat) (first n : Nat) : List (Nat × Nat) × Nat := (List.range n).foldl numStep (us.zip ps, first)
def numOf (l : List (Nat × Nat)) (p : Nat) : Nat := (l.lookup p).getD 0
def copyL (us ps : List Nat) (first n : Nat) (ts : List Tie) : List Tie := ts.map fun t => (t.1, ⟨t.2.items.map (numOf (numB us ps first n).1)⟩)
section
variable {X : Cx} {ρ : Sls} {N : Sls → Prop} {R : PyData → Sls → Prop} {e : Expr} {pos pos' : Pos} {x : Str} {i j : Int}
/-- x += e -/
theorem d1_aug (k : Nat) (hN : X.N.Nodup) (h0 : ρ[k]? = some (.dat (.int i))) (he : DE X e (er ρ) (.int j)) (hn : N (ρ.set k (.dat (.int (i + j))))) (hi : X.N[k]? = some x := by rfl) (hx : Loc X.env.scope x := by first | exact Or.inl rfl | exact Or.inr rfl) (hf : X.fn x = true ∨ X.env.scope.names.lookup x = some .local := by first | exact .inl rfl | exact .inr rfl) :
    D1 X (.AugAssign (.Name x pos') .Add e pos) ρ N R :=
  ps_imp (ps_aug hN hi hx he (ti := rI0 fun i j => .int (i + j)) iop_add hf) fun D σ H ⟨F, G, S, qn, _⟩ => by
    obtain ⟨v, h1, dx⟩ := S.at_ k _ h0
    cases dx
    exact ⟨_, h1, G, S.grow.s, S.env, fun y G' H' g dy => by
      cases dy
      exact ⟨i, j, rfl, rfl, qn _ _ G' H' hn ((S.mono g).set (.int _)) g.g⟩⟩
end
theorem lookup_app {l m : List (Nat × Nat)} {u : Nat} (h : (l.lookup u).isSome) : (l ++ m).lookup u = l.lookup u := by
  rw [List.lookup_append]
  cases e : l.lookup u with
  | none => rw [e] at h; cases h
  | some v => rfl
theorem step_keep {s : List (Nat × Nat) × Nat} {u v : Nat} (h : (s.1.lookup v).isSome) : (numStep s u).1.lookup v = s.1.lookup v := by
  unfold numStep
  split
  · rfl
  · exact lookup_app h
theorem step_has (s : List (Nat × Nat) × Nat) (u : Nat) : ((numStep s u).1.lookup u).isSome := by
  unfold numStep
  split
  · assumption
  · rename_i h
    show ((s.1 ++ [(u, s.2)]).lookup u).isSome
    rw [List.lookup_append]
    cases e : s.1.lookup u with
    | none => simp
    | some v => simp
theorem fold_has (s : List (Nat × Nat) × Nat) : ∀ n u, u < n → (((List.range n).foldl numStep s).1.lookup u).isSome
  | 0, u, h => absurd h (Nat.not_lt_zero _)
  | n + 1, u, h => by
    rw [List.range_succ, List.foldl_append]
    show ((numStep _ n).1.lookup u).isSome
    by_cases e : u = n
    · rw [e]; exact step_has _ _
    · have := fold_has s n u (by omega)
      rw [step_keep this]
      exact this
theorem fold_ne {s : List (Nat × Nat) × Nat} (h : s.1 ≠ []) : ∀ n, ((List.range n).foldl numStep s).1 ≠ []
  | 0 => h
  | n + 1 => by
    rw [List.range_succ, List.foldl_append]
    show (numStep _ n).1 ≠ []
    unfold numStep
    split
    · exact fold_ne h n
    · simp
theorem step_len (s : List (Nat × Nat) × Nat) (u : Nat) : (numStep s u).1.length ≤ s.1.length + 1 := by
  unfold numStep
  split
  · omega
  · simp
theorem fold_len {s : List (Nat × Nat) × Nat} : ∀ n, ((List.range n).foldl numStep s).1.length ≤ s.1.length + n
  | 0 => Nat.le_refl _
  | n + 1 => by
    rw [List.range_succ, List.foldl_append]
    show (numStep _ n).1.length ≤ _
    have := fold_len (s := s) n
    have := step_len ((List.range n).foldl numStep s) n
    omega
def R_copy (ds : List PyData) (d : PyData) : Prop := ∃ (n first : Nat) (ts : List Tie) (us ps : Row), ds = [netD (n : Nat) (tiesD ts), rowD us, rowD ps, .int (first : Nat)] ∧ us.items.Nodup ∧ us.items ≠ [] ∧ us.items.length = ps.items.length ∧ us.items.length ≤ 3 ∧ n ≤ 60 ∧ (∀ t ∈ ts, TieOk n t) ∧ ts.length ≤ 30000 ∧ d = .list (tiesD (copyL us.items ps.items first n ts))
section
variable {P : Program} {w : World} {K : PySem.W.Frag} {mg : Str → Option Value} {base : Heap}
theorem cal_copy (M : Md K mg) : Cal P w K mg base 1 "copy_of" ["other", "unknowns", "places", "first"] (spD w K R_copy) := M.cal 11 rfl (fun _ _ _ _ _ _ us hl => match us, hl with | [_, _, _, _], _ => rfl) fun f fd F => by
  refine fnD F sc_copy_of (fun ds d ⟨_, _, _, _, _, h, _⟩ => by rw [h]; rfl) fun cdv A outer s H E hr ds d h => ?_
  obtain ⟨n, first, ts, us, ps, rfl, h1, h2, h3, h4, h5, h6, h7, rfl⟩ := h
  let s0 : List (Nat × Nat) × Nat := (us.items.zip ps.items, first)
  have hz0 : us.items.zip ps.items ≠ [] := by
    intro e
    have := congrArg List.length e
    rw [List.length_zip, ← h3, Nat.min_self] at this
    exact h2 (List.eq_nil_of_length_eq_zero this)
  refine ds_then (d_own 4 (sl := .ownK (numD s0.1)) sc_copy_of.nd ?_) ?_
  · have hz := zip_num us.items ps.items [] h1 (fun _ _ => rfl)
    rw [List.nil_append] at hz
    show DO _ _ _ (.ownK (numD (us.items.zip ps.items)))
    rw [← hz]
    exact do_dictZip rfl rfl (M.fr 8) rfl (M.fr 3) (da_cons (de_eq (dv 1) (by rw [List.map_map]; rfl)) (da_cons (dv 2) da_nil))
  refine ds_for (List.range n) (fun (i : Nat) => .int (i : Nat)) (fun k => [.dat (netD (n : Nat) (tiesD ts)), .dat (rowD us), .dat (rowD ps), .dat (.int ((((List.range k).foldl numStep s0).2 : Nat) : Int)), .ownK (numD ((List.range k).foldl numStep s0).1), .non, .non, .non, .non]) PassesOwn.never rfl (di_range rfl (M.fr 9) (da_cons (de_ownSize M.nk (dv 0)) da_nil) (by omega)) (pn 5 sc_copy_of.nd) (fun i a ha => ?_) ?_
  · have hi := List.getElem?_eq_some_iff.mp ha
    have ea : a = i := by rw [← hi.2]; simp
    subst ea
    refine ⟨_, tgs_name, ?_⟩
    have hnx : (List.range (a + 1)).foldl numStep s0 = numStep ((List.range a).foldl numStep s0) a := by rw [List.range_succ, List.foldl_append]; rfl
    have hne := fold_ne (s := s0) hz0 a
    have hln := fold_len (s := s0) a
    have hl0 : s0.1.length ≤ 3 := by show (us.items.zip ps.items).length ≤ 3; rw [List.length_zip]; omega
    have han : a < n := by have := hi.1; simpa using this
    rw [hnx]
    generalize (List.range a).foldl numStep s0 = st at hne hln ⊢
    obtain ⟨l, fi⟩ := st
    cases l with
    | nil => exact absurd rfl hne
    | cons p l =>
      cases hlk : (p :: l).lookup a with
      | some v =>
        have e1 : numStep (p :: l, fi) a = (p :: l, fi) := by unfold numStep; rw [if_pos (by rw [hlk]; rfl)]
        rw [e1]
        refine ds_one (d1_ifF (tx_imp (tx_own (dt_eq (dt_cmp (op_notInK (hu1 hr)) rd_ninNum (dv 5) (dv 4) rfl) (by rw [hlk]; rfl))) (fun _ _ h => h)) (ds_nil ?_))
        exact .same (.same (.same (.same (.same (.non (.same (.same (.same .nil))))))))
      | none =>
        have e1 : numStep (p :: l, fi) a = ((p :: l) ++ [(a, fi)], fi + 1) := by unfold numStep; rw [if_neg (by rw [hlk]; exact Bool.false_ne_true)]
        rw [e1]
        refine ds_one (d1_ifT (tx_imp (tx_own (dt_eq (dt_cmp (op_notInK (hu1 hr)) rd_ninNum (dv 5) (dv 4) rfl) (by rw [hlk]; rfl))) (fun _ _ h => h)) ?_)
        refine ds_cons (M := fun r => r = [.dat (netD (n : Nat) (tiesD ts)), .dat (rowD us), .dat (rowD ps), .dat (.int ((fi : Nat) : Int)), .ownK (numD ((p :: l) ++ [(a, fi)])), .dat (.int (a : Nat)), .non, .non, .non]) (d1_putK (j := 4) (ds0 := numD (p :: l)) (hu1 hr) (pv 4) rfl (szl' (by rw [List.length_map]; simp at hln ⊢; omega)) (ex_of (dv 3)) (fun d r h => h.2) (ex_of (dv 5)) (fun d r h => h.2) fun d kd h8 h9 => ⟨.inl (a : Nat), h9.1, by
          obtain ⟨h8, _⟩ := h8
          obtain ⟨h9, _⟩ := h9
          subst h8 h9
          exact congrArg (fun z => ([.dat (netD (n : Nat) (tiesD ts)), .dat (rowD us), .dat (rowD ps), .dat (.int ((fi : Nat) : Int)), .ownK z, .dat (.int (a : Nat)), .non, .non, .non] : Sls)) (put_num (v := fi) hlk)⟩) fun r hr' => ?_
        subst hr'
        refine ds_one (d1_aug 3 sc_copy_of.nd rfl de_int ?_)
        have e2 : ((fi : Nat) : Int) + 1 = ((fi + 1 : Nat) : Int) := by omega
        rw [e2]
        exact .same (.same (.same (.same (.same (.non (.same (.same (.same .nil))))))))
  · rw [List.length_range]
    have hne := fold_ne (s := s0) hz0 n
    have hhas := fold_has s0 n
    have ecp : copyL us.items ps.items first n ts = ts.map fun t => (t.1, ⟨t.2.items.map (numOf ((List.range n).foldl numStep s0).1)⟩) := rfl
    rw [ecp]
    generalize (List.range n).foldl numStep s0 = st at hne hhas ⊢
    obtain ⟨l, fi⟩ := st
    cases l with
    | nil => exact absurd rfl hne
    | cons p l =>
      refine ds_frz (i := 4) rfl rfl rfl ?_
      refine ds_one (d_ret (de_eq (de_map ts tieD (fun t => tieD (t.1, ⟨t.2.items.map (numOf (p :: l))⟩)) _ rfl sc_copy_of.nd (di_tup (de_ownTies M.nk (dv 0))) (own := [("name", 6), ("some", 7)]) (blk_of rfl)
        (fun _ _ _ _ _ => pg_tup rfl (pgs_cons (pn 6 sc_copy_of.nd) (pgs_cons (pn 7 sc_copy_of.nd) pgs_nil))) (szl (by omega)) (fun a _ => tg_pair (by decide) (by decide)) (fun _ _ _ _ _ t ht => de_tup (da_cons (dv 6) (da_cons (de_eq (de_callTy call_tuple_of rdc_tupleL rfl (M.fr 4) (by decide +kernel) (da_cons
          (de_map t.2.items (fun a => .int (a : Nat)) (fun a => .int (numOf (p :: l) a : Nat)) _ rfl sc_copy_of.nd (di_tup (dv 7)) (own := [("place", 8)]) (blk_of rfl) (fun _ _ _ _ _ => pn 8 sc_copy_of.nd) (szl (by have := (h6 t ht).2.2.1; omega)) (fun a _ => tg_name (by decide)) (fun _ _ _ _ _ a ha => de_dget (kd := .none) (k := .inl (a : Nat)) (hu1 hr) (dv 4) (dv 8) ?_ dk_num (fun _ _ => rfl))) da_nil)) ?_) da_nil)) (by show 2 ≤ sizeLine; decide))) ?_) rfl)
      · have hs := hhas a ((h6 t ht).2.2.2 a ha)
        rw [lookD_num]
        unfold numOf
        cases e : (p :: l).lookup a with
        | none => rw [e] at hs; cases hs
        | some v => rfl
      · show PyData.tuple _ = PyData.tuple (List.map _ (List.map _ _))
        rw [List.map_map]
        rfl
      · show PyData.list _ = PyData.list (List.map _ (List.map _ _))
        rw [List.map_map]
        rfl
end
end K64

/-! ## W7 -/
/-! spelled_out. -/
namespace K64
open PySem PySem.Spec PyProof.Rows L2 PySem.W
def foundL (ts : List Tie) (x : Str) : List Tie := ts.filter fun t => !decide (t.1 = x)
def replL (ts : List Tie) (x : Str) : List Row := (ts.filter fun t => decide (t.1 = x)).map (·.2)
def copiesL (N : Nat) (rs : List Row) (n : Nat) (os : List Tie) (us : Row) (k : Nat) : List Tie := (rs.zipIdx.take k).flatMap fun q => copyL us.items q.1.items (N + q.2 * (n - us.items.length)) n os
def spSize (N : Nat) (ts : List Tie) (x : Str) (n : Nat) (us : Row) : Nat := N + (n - us.items.length) * (replL ts x).length
def spTies (N : Nat) (ts : List Tie) (x : Str) (n : Nat) (os : List Tie) (us : Row) : List Tie := sset (foundL ts x ++ copiesL N (replL ts x) n os us (replL ts x).length)
def SpPre (N : Nat) (ts : List Tie) (x : Str) (n : Nat) (os : List Tie) (us : Row) : Prop := NameOk x ∧ NetOk N ts ∧ NetOk n os ∧ RowOk n us ∧ us.items.Nodup ∧ us.items.length ≤ n ∧ (∀ p ∈ replL ts x, p.items.length = us.items.length) ∧ (foundL ts x).length + (replL ts x).length * os.length ≤ 100000 ∧ NetOk (spSize N ts x n us) (spTies N ts x n os us)
def R_spelled (ds : List PyData) (d : PyData) : Prop := ∃ (N : Nat) (ts : List Tie) (x : Str) (n : Nat) (os : List Tie) (us : Row), ds = [netD (N : Nat) (tiesD ts), .str x, netD (n : Nat) (tiesD os), rowD us] ∧ SpPre N ts x n os us ∧ d = netD (spSize N ts x n us : Nat) (tiesD (spTies N ts x n os us))
theorem copyL_len (us ps : List Nat) (f n : Nat) (ts : List Tie) : (copyL us ps f n ts).length = ts.length := List.length_map _
theorem copiesL_len {N n : Nat} {rs : List Row} {os : List Tie} {us : Row} (k : Nat) : (copiesL N rs n os us k).length ≤ k * os.length := by
  unfold copiesL
  rw [List.length_flatMap]
  have e : ∀ q ∈ rs.zipIdx.take k, (copyL us.items q.1.items (N + q.2 * (n - us.items.length)) n os).length = os.length := fun q _ => copyL_len _ _ _ _ _
  rw [List.map_congr_left e, List.map_const', List.sum_replicate_nat]
  exact Nat.mul_le_mul_right _ (List.length_take_le _ _)
theorem copiesL_succ {N n : Nat} {rs : List Row} {os : List Tie} {us r : Row} {k : Nat} (h : rs[k]? = some r) : copiesL N rs n os us (k + 1) = copiesL N rs n os us k ++ copyL us.items r.items (N + k * (n - us.items.length)) n os := by
  unfold copiesL
  have e : rs.zipIdx[k]? = some (r, k) := by rw [List.getElem?_zipIdx, h]; simp
  rw [take_flat' e]
where
  take_flat' {α β : Type} {l : List α} {f : α → List β} {i : Nat} {a : α} (h : l[i]? = some a) : (l.take (i + 1)).flatMap f = (l.take i).flatMap f ++ f a := by
    rw [List.take_add_one, h, List.flatMap_append]
    simp
section
variable {P : Program} {w : World} {K : PySem.W.Frag} {mg : Str → Option Value} {base : Heap}
theorem cal_spelled_out (M : Md K mg) (c1 : Cal P w K mg base 1 "require_net" ["value"] (spD w K R_reqNet)) (c2 : Cal P w K mg base 1 "is_name" ["value"] (spD w K R_is_name)) (c3 : Cal P w K mg base 5 "require_unknowns" ["net", "value"] (spD w K R_reqUnk))
    (c4 : Cal P w K mg base 1 "copy_of" ["other", "unknowns", "places", "first"] (spD w K R_copy)) (c5 : Cal P w K mg base 1 "joined" ["ties"] (spD w K R_joined)) (c6 : CalI P w K mg base) :
    Cal P w K mg base 9 "spelled_out" ["net", "name", "other", "unknowns"] (spD w K R_spelled) := M.cal 12 rfl (fun _ _ _ _ _ _ us hl => match us, hl with | [_, _, _, _], _ => rfl) fun f fd F => by
  refine fnD F sc_spelled_out (fun ds d ⟨_, _, _, _, _, _, h, _⟩ => by rw [h]; rfl) fun cdv A outer s H E hr ds d h => ?_
  obtain ⟨N, ts, x, n, os, us, rfl, ⟨h1, h2, h3, h4, h5, h6, h7, h8, h9⟩, rfl⟩ := h
  obtain ⟨tk1, ht1⟩ := M.iUnknowns
  obtain ⟨tk2, ht2⟩ := M.iApplied
  obtain ⟨fdI, cI, hbI⟩ := c6
  have hu3 : us.items.length ≤ 3 := h4.2.1
  have hR : (replL ts x).length ≤ 30000 := by unfold replL; rw [List.length_map]; exact Nat.le_trans (List.length_filter_le _ _) h2.2.2.2
  have hF : (foundL ts x).length ≤ 30000 := Nat.le_trans (List.length_filter_le _ _) h2.2.2.2
  let ρ0 : Sls := ini n_spelled_out [netD (N : Nat) (tiesD ts), .str x, netD (n : Nat) (tiesD os), rowD us]
  refine ds_then (ρ' := ρ0) (d1_do (ex_of (de_c c1 (hr.mono (by decide)) (da_cons (dv 0) da_nil) ⟨_, _, rfl, rfl⟩)) (fun d r h => h.2)) ?_
  refine ds_then (ρ' := ρ0) (d1_ifF (tx_imp (tx_of (dt_not (k := true) (dt_val (de_c c2 (hr.mono (by decide)) (da_cons (dv 1) da_nil) ⟨x, rfl, h1, rfl⟩)))) (fun _ _ h => h)) (ds_nil rfl)) ?_
  refine ds_then (ρ' := ρ0) (d1_do (ex_of (de_c c1 (hr.mono (by decide)) (da_cons (dv 2) da_nil) ⟨_, _, rfl, rfl⟩)) (fun d r h => h.2)) ?_
  refine ds_then (ρ' := ρ0) (d1_do (ex_of (de_c c3 (hr.mono (by decide)) (da_cons (dv 2) (da_cons (dv 3) da_nil)) ⟨n, _, us, rfl, h4, by have := h3.1; omega, rfl⟩)) (fun d r h => h.2)) ?_
  refine ds_then (ρ' := ρ0) (d1_ifF (tx_imp (tx_of (dt_eq (dt_cmp op_ne rd_neI (de_lenSetT (bs := us.items) rfl rfl (M.fr 1) rfl (M.fr 7) (dv 3) (by omega) h5) (de_callB call_len_seq rdc_lenT rfl (M.fr 1) PySem.boot_len (da_cons (dv 3) da_nil)) (nomark _)) (by rw [List.length_map, decide_eq_true rfl]; rfl))) (fun _ _ h => h)) (ds_nil rfl)) ?_
  refine ds_then (ρ' := ρ0.set 4 (.ownL (tiesD (foundL ts x)))) (d_ownLc 4 ts tieD (fun t => !decide (t.1 = x)) tieD _ rfl sc_spelled_out.nd (di_tup (de_ownTies M.nk (dv 0))) (own := [("tie", 10)]) (blk_of rfl) (fun _ _ _ _ _ => pn 10 sc_spelled_out.nd) (szl (by have := h2.2.2.2; omega)) (fun a _ => tg_name (by decide))
    (fun _ _ _ _ _ a _ => pts_if (dt_cmp op_ne rd_neS (de_ix ix_tup (rd_ixT (i := 0) rfl) (dv 10) de_int (fun _ _ => rfl)) (dv 1) (nomark _))) (fun _ _ _ _ _ a _ _ => dv 10) rfl) ?_
  refine ds_then (ρ' := (ρ0.set 4 (.ownL (tiesD (foundL ts x)))).set 5 (.dat (.list ((replL ts x).map rowD)))) (d_letLc 5 ts tieD (fun t => decide (t.1 = x)) (fun t => rowD t.2) _ rfl sc_spelled_out.nd (di_tup (de_ownTies M.nk (dv 0))) (own := [("tie", 10), ("places", 8)]) (blk_of rfl) (fun _ _ _ _ _ => pg_tup rfl (pgs_cons (pn 10 sc_spelled_out.nd) (pgs_cons (pn 8 sc_spelled_out.nd) pgs_nil))) (szl (by have := h2.2.2.2; omega)) (fun a _ => tg_pair (by decide) (by decide))
    (fun _ _ _ _ _ a _ => pts_if (dt_cmp op_eq rd_eqS (dv 10) (dv 1) (nomark _))) (fun _ _ _ _ _ a _ _ => dv 8) (by unfold replL; rw [List.map_map]; rfl)) ?_
  refine ds_then (ρ' := (ρ0.set 4 (.ownL (tiesD (foundL ts x)))).set 5 (.dat (.list ((replL ts x).map rowD)))) (d1_ifF (tx_imp (tx_of (dt_not (k := true) (dt_val (de_eq (de_callB (cr_all rfl) rdc_all rfl (M.fr 2) (by decide +kernel) (da_cons (de_mapB (replL ts x) rowD (fun _ => true) _ rfl sc_spelled_out.nd (di_list (dv 5)) (own := [("places", 8)]) (blk_of rfl)
      (fun _ _ _ _ _ => pn 8 sc_spelled_out.nd) (szl (by omega)) (fun a _ => tg_name (by decide)) (fun _ _ _ _ _ a ha => de_eq (de_cmp op_eq rd_eqI (de_callB call_len_seq rdc_lenT rfl (M.fr 1) PySem.boot_len (da_cons (dv 8) da_nil)) (de_callB call_len_seq rdc_lenT rfl (M.fr 1) PySem.boot_len (da_cons (dv 3) da_nil)) (nomark _)) (by rw [List.length_map, List.length_map, h7 a ha, decide_eq_true rfl]))) da_nil)) (by rw [all_true fun _ _ => rfl]))))) (fun _ _ h => h)) (ds_nil rfl)) ?_
  let m : Nat := n - us.items.length
  have em : (n : Int) - (us.items.length : Nat) = ((m : Nat) : Int) := by omega
  have hm60 : m ≤ 60 := by have := h3.1; omega
  have hsz : N + m * (replL ts x).length ≤ 60 := h9.1
  refine ds_then (d_let 6 (d := .int (m : Nat)) sc_spelled_out.nd (de_eq (de_op op_sub rd_sub (de_ownSize M.nk (dv 2)) (de_callB call_len_seq rdc_lenT rfl (M.fr 1) PySem.boot_len (da_cons (dv 3) da_nil))) (by rw [List.length_map, em]))) ?_
  let ρ1 : Nat → Sls := fun k => [.dat (netD (N : Nat) (tiesD ts)), .dat (.str x), .dat (netD (n : Nat) (tiesD os)), .dat (rowD us), .ownL (tiesD (foundL ts x ++ copiesL N (replL ts x) n os us k)), .dat (.list ((replL ts x).map rowD)), .dat (.int (m : Nat)), .non, .non, .non, .non]
  have e0 : ρ1 0 = ((ρ0.set 4 (.ownL (tiesD (foundL ts x)))).set 5 (.dat (.list ((replL ts x).map rowD)))).set 6 (.dat (.int (m : Nat))) := by
    show [_, _, _, _, Sl.ownL (tiesD (foundL ts x ++ copiesL N (replL ts x) n os us 0)), _, _, _, _, _, _] = _
    rw [show copiesL N (replL ts x) n os us 0 = [] from rfl, List.append_nil]
    rfl
  rw [← e0]
  have emul : ∀ a : Nat, (N : Int) + (m : Nat) * (a : Nat) = ((N + m * a : Nat) : Int) := fun a => by rw [Int.natCast_add, Int.natCast_mul]
  refine ds_then (ρ' := ρ1 0) (d1_ifF (tx_imp (tx_of (dt_eq (dt_cmp op_gt rd_gt (de_op op_add rd_add (de_ownSize M.nk (dv 0)) (de_op op_mul (rd_mul (i := (m : Nat)) (.inl (by omega))) (dv 6) (de_callB call_len_seq rdc_lenL rfl (M.fr 1) PySem.boot_len (da_cons (dv 5) da_nil)))) (de_gint rfl ht1) (nomark _)) (by rw [List.length_map, emul]; exact decide_eq_false (by omega)))) (fun _ _ h => h)) (ds_nil rfl)) ?_
  have eenum : ((((replL ts x).map rowD).zipIdx).map fun p => PyData.tuple [.int (p.2 : Nat), p.1]) = ((replL ts x).zipIdx).map fun p => PyData.tuple [.int (p.2 : Nat), rowD p.1] := by
    rw [List.zipIdx_map, List.map_map]
    rfl
  refine ds_for ((replL ts x).zipIdx) (fun p => PyData.tuple [.int (p.2 : Nat), rowD p.1]) ρ1 PassesOwn.never rfl (eenum ▸ di_enum rfl (M.fr 10) (da_cons (dv 5) da_nil)) (g := gTup K 2 (gNames [7, 8])) (pg_tup rfl (pgs_cons (pn 7 sc_spelled_out.nd) (pgs_cons (pn 8 sc_spelled_out.nd) pgs_nil))) (fun i q hq => ?_) ?_
  · have hq' : (replL ts x)[i]? = some q.1 ∧ q.2 = i := by
      rw [List.getElem?_zipIdx] at hq
      obtain ⟨r, h, e⟩ := Option.map_eq_some_iff.mp hq
      rw [← e]
      exact ⟨h, by simp⟩
    obtain ⟨r, i'⟩ := q
    obtain ⟨hr1, e2⟩ := hq'
    have e2 : i' = i := e2
    subst e2
    have hr1 : (replL ts x)[i']? = some r := hr1
    have hi : i' < (replL ts x).length := (List.getElem?_eq_some_iff.mp hr1).1
    have hrm := h7 r (List.mem_of_getElem? hr1)
    have hcl := copiesL_len (N := N) (n := n) (rs := replL ts x) (os := os) (us := us) i'
    have hmul : i' * os.length + os.length ≤ (replL ts x).length * os.length := by
      rw [← Nat.succ_mul]
      exact Nat.mul_le_mul_right _ hi
    refine ⟨_, tgs_tup (is := [7, 8]) rfl, ?_⟩
    refine ds_one (d1_ext (pv 4) rfl (ex_of (de_c c4 (hr.mono (by decide)) (da_cons (dv 2) (da_cons (dv 3) (da_cons (dv 8) (da_cons (de_eq (d := .int ((N + i' * m : Nat) : Int)) (de_op op_add rd_add (de_ownSize M.nk (dv 0)) (de_op op_mul (rd_mul (i := (i' : Nat)) (j := (m : Nat)) (.inr (by omega))) (dv 7) (dv 6))) (by rw [Int.natCast_add, Int.natCast_mul])) da_nil)))) ⟨n, N + i' * m, os, us, r, rfl, h5, by intro e; have := h4.1; rw [e] at this; simp at this, hrm.symm, hu3, h3.1, h3.2.1, h3.2.2.2, rfl⟩)) fun d' r' h => ?_)
    obtain ⟨h, rfl⟩ := h
    subst h
    refine ⟨_, _, rfl, rfl, ?_, ?_⟩
    · rw [List.length_map, List.length_map, List.length_append, copyL_len]
      exact szl (by omega)
    · have e3 : tiesD (foundL ts x ++ copiesL N (replL ts x) n os us i') ++ tiesD (copyL us.items r.items (N + i' * m) n os) = tiesD (foundL ts x ++ copiesL N (replL ts x) n os us (i' + 1)) := by
        rw [copiesL_succ hr1, ← List.append_assoc]
        exact List.map_append.symm
      rw [e3]
      exact .same (.same (.same (.same (.same (.same (.same (.non (.non (.same (.same .nil))))))))))
  · rw [List.length_zipIdx]
    refine ds_frz (i := 4) rfl rfl rfl ?_
    have hcl := copiesL_len (N := N) (n := n) (rs := replL ts x) (os := os) (us := us) (replL ts x).length
    refine ds_then (d_let 9 (d := .tuple (tiesD (spTies N ts x n os us))) sc_spelled_out.nd (de_c c5 (hr.mono (by decide)) (da_cons (dv 4) da_nil) ⟨_, rfl, by rw [List.length_append]; omega, rfl⟩)) ?_
    refine ds_then (d1_ifF (tx_imp (tx_of (dt_eq (dt_cmp op_gt rd_gt (de_callB call_len_seq rdc_lenT rfl (M.fr 1) PySem.boot_len (da_cons (dv 9) da_nil)) (de_gint rfl ht2) (nomark _)) (by rw [List.length_map]; exact decide_eq_false (by have := h9.2.2.2; omega)))) (fun _ _ h => h)) (ds_nil rfl)) ?_
    exact ds_one (d_ret (de_make M.mkr cI (hr.mono (by decide)) rfl M.net hbI (da_cons (de_eq (d := .int ((spSize N ts x n us : Nat) : Int)) (de_op op_add rd_add (de_ownSize M.nk (dv 0)) (de_op op_mul (rd_mul (i := (m : Nat)) (.inl (by omega))) (dv 6) (de_callB call_len_seq rdc_lenL rfl (M.fr 1) PySem.boot_len (da_cons (dv 5) da_nil)))) (by rw [List.length_map, emul]; rfl)) (da_cons (dv 9) da_nil)) ⟨_, _, rfl, rfl, h9⟩ pass0) rfl)
end
end K64

/-! ## W24 -/
/-! The copies' numbers; walk: spelled. -/
namespace K64
open PySem PySem.Spec PyProof.Rows L2 PySem.W
/-- how many before u are not in us -/
def rk (us : List Nat) (u : Nat) : Nat := ((List.range u).filter fun v => !decide (v ∈ us)).length
theorem rk_in {us : List Nat} {j : Nat} (h : j ∈ us) : rk us (j + 1) = rk us j := by
  unfold rk
  rw [List.range_succ, List.filter_append, List.filter_cons_of_neg (by simpa using h), List.filter_nil, List.append_nil]
theorem rk_out {us : List Nat} {j : Nat} (h : j ∉ us) : rk us (j + 1) = rk us j + 1 := by
  unfold rk
  rw [List.range_succ, List.filter_append, List.filter_cons_of_pos (by simpa using h), List.filter_nil, List.length_append]
  rfl
theorem zip_lookup_none {us ps : List Nat} {u : Nat} (h : u ∉ us) : (us.zip ps).lookup u = none := by
  induction us generalizing ps with
  | nil => rfl
  | cons a us ih =>
    cases ps with
    | nil => rfl
    | cons b ps =>
      rw [List.zip_cons_cons, List.lookup_cons, show (u == a) = false by simpa using fun e => h (by rw [e]; exact List.mem_cons_self)]
      exact ih fun z => h (List.mem_cons_of_mem _ z)
theorem zip_lookup_some {us ps : List Nat} {u : Nat} (hl : us.length ≤ ps.length) (h : u ∈ us) : ((us.zip ps).lookup u).isSome := by
  induction us generalizing ps with
  | nil => cases h
  | cons a us ih =>
    cases ps with
    | nil => simp at hl
    | cons b ps =>
      rw [List.zip_cons_cons, List.lookup_cons]
      by_cases e : u = a
      · rw [show (u == a) = true by simpa using e]; rfl
      · rw [show (u == a) = false by simpa using e]
        exact ih (by simpa using hl) ((List.mem_cons.mp h).resolve_left e)
theorem fold_char {us ps : List Nat} {first : Nat} (hl : us.length ≤ ps.length) : ∀ j : Nat, ((List.range j).foldl numStep (us.zip ps, first)).2 = first + rk us j ∧
    ∀ u, ((List.range j).foldl numStep (us.zip ps, first)).1.lookup u = if u ∈ us then (us.zip ps).lookup u else if u < j then some (first + rk us u) else none
  | 0 => ⟨rfl, fun u => by
    show (us.zip ps).lookup u = _
    by_cases h : u ∈ us
    · rw [if_pos h]
    · rw [if_neg h, zip_lookup_none h]; rfl⟩
  | j + 1 => by
    obtain ⟨h1, h2⟩ := fold_char (first := first) hl j
    rw [List.range_succ, List.foldl_append]
    show (numStep _ j).2 = _ ∧ ∀ u, (numStep _ j).1.lookup u = _
    generalize (List.range j).foldl numStep (us.zip ps, first) = s at h1 h2
    unfold numStep
    by_cases hj : j ∈ us
    · have e : (s.1.lookup j).isSome := by rw [h2, if_pos hj]; exact zip_lookup_some hl hj
      rw [if_pos e]
      refine ⟨by rw [h1, rk_in hj], fun u => ?_⟩
      rw [h2]
      by_cases hu : u ∈ us
      · rw [if_pos hu, if_pos hu]
      · rw [if_neg hu, if_neg hu]
        have : u ≠ j := fun e => hu (by rw [e]; exact hj)
        by_cases hlt : u < j
        · rw [if_pos hlt, if_pos (by omega)]
        · rw [if_neg hlt, if_neg (by omega)]
    · have e : s.1.lookup j = none := by rw [h2, if_neg hj, if_neg (Nat.lt_irrefl _)]
      rw [if_neg (by rw [e]; exact Bool.false_ne_true)]
      refine ⟨by show s.2 + 1 = _; rw [h1, rk_out hj]; rfl, fun u => ?_⟩
      show (s.1 ++ [(j, s.2)]).lookup u = _
      rw [List.lookup_append, h2]
      by_cases hu : u ∈ us
      · rw [if_pos hu, if_pos hu]
        cases e2 : (us.zip ps).lookup u with
        | none =>
          have := zip_lookup_some hl hu
          rw [e2] at this
          cases this
        | some v => rfl
      · rw [if_neg hu, if_neg hu]
        by_cases hlt : u < j
        · rw [if_pos hlt, if_pos (by omega)]
          rfl
        · rw [if_neg hlt]
          by_cases hej : u = j
          · subst hej
            rw [if_pos (by omega), List.lookup_cons, show (u == u) = true by simp, h1]
            rfl
          · rw [if_neg (by omega), List.lookup_cons, show (u == j) = false by simpa using hej]
            rfl
theorem rk_total {us : List Nat} {n : Nat} (hn : us.Nodup) (h : ∀ u ∈ us, u < n) : rk us n = n - us.length := by
  have h1 : ((List.range n).filter fun v => decide (v ∈ us)).length = us.length := by
    refine Nat.le_antisymm (nodup_len (List.filter_sublist.nodup List.nodup_range) fun a ha => of_decide_eq_true (List.mem_filter.mp ha).2) (nodup_len hn fun a ha => List.mem_filter.mpr ⟨List.mem_range.mpr (h a ha), decide_eq_true ha⟩)
  have h2 : ∀ l : List Nat, (l.filter fun v => decide (v ∈ us)).length + (l.filter fun v => !decide (v ∈ us)).length = l.length := by
    intro l
    induction l with
    | nil => rfl
    | cons a l ih =>
      by_cases e : a ∈ us
      · rw [List.filter_cons_of_pos (by simpa using e), List.filter_cons_of_neg (by simpa using e), List.length_cons, List.length_cons]
        omega
      · rw [List.filter_cons_of_neg (by simpa using e), List.filter_cons_of_pos (by simpa using e), List.length_cons, List.length_cons]
        omega
  have := h2 (List.range n)
  rw [h1, List.length_range] at this
  unfold rk
  omega
theorem rk_mono {us : List Nat} : ∀ {a b : Nat}, a ≤ b → rk us a ≤ rk us b := by
  intro a b h
  induction h with
  | refl => exact Nat.le_refl _
  | step _ ih =>
    rename_i m _
    by_cases e : m ∈ us
    · rw [rk_in e]; exact ih
    · rw [rk_out e]; omega
theorem rk_lt {us : List Nat} {a b : Nat} (h : a < b) (ha : a ∉ us) : rk us a < rk us b := by
  have := rk_mono (us := us) (show a + 1 ≤ b from h)
  rw [rk_out ha] at this
  omega
theorem copiesL_foldsnd {us ps : List Nat} {first n : Nat} (hl : us.length ≤ ps.length) (hn : us.Nodup) (h : ∀ u ∈ us, u < n) : (numB us ps first n).2 = first + (n - us.length) := by
  unfold numB
  rw [(fold_char hl n).1, rk_total hn h]
/-! ### spelled -/
def R_spelt (ds : List PyData) (d : PyData) : Prop := ∃ (N : Nat) (ts : List Tie) (x : Str) (n : Nat) (os : List Tie) (us : Row), ds = [pnD N ts, .str x, pnD n os, rowD us] ∧ us.items.Nodup ∧ us.items ≠ [] ∧ us.items.length ≤ 3 ∧ (∀ u ∈ us.items, u < n) ∧ n ≤ 60 ∧ N ≤ 60 ∧ (∀ p ∈ replL ts x, p.items.length = us.items.length) ∧
  (∀ t ∈ os, t.2.items.length ≤ 3 ∧ ∀ u ∈ t.2.items, u < n) ∧ ts.length ≤ 1000 ∧ os.length ≤ 1000 ∧ (foundL ts x).length + (replL ts x).length * os.length ≤ 60 ∧ d = pnD (spSize N ts x n us) (spTies N ts x n os us)
theorem replL_take {ts : List Tie} {x : Str} {i : Nat} {t : Tie} (h : ts[i]? = some t) (hx : t.1 = x) : (replL ts x)[(replL (ts.take i) x).length]? = some t.2 ∧ replL (ts.take (i + 1)) x = replL (ts.take i) x ++ [t.2] := by
  have e1 : replL (ts.take (i + 1)) x = replL (ts.take i) x ++ [t.2] := by
    unfold replL
    rw [List.take_add_one, h, List.filter_append, Option.toList_some, List.filter_cons_of_pos (by simpa using hx), List.filter_nil, List.map_append]
    rfl
  refine ⟨?_, e1⟩
  have e2 : replL ts x = replL (ts.take (i + 1)) x ++ replL (ts.drop (i + 1)) x := by
    unfold replL
    rw [← List.map_append, ← List.filter_append, List.take_append_drop]
  rw [e2, e1, List.append_assoc, List.getElem?_append_right (Nat.le_refl _), Nat.sub_self]
  rfl
theorem replL_skip {ts : List Tie} {x : Str} {i : Nat} {t : Tie} (h : ts[i]? = some t) (hx : t.1 ≠ x) : replL (ts.take (i + 1)) x = replL (ts.take i) x := by
  unfold replL
  rw [List.take_add_one, h, List.filter_append, Option.toList_some, List.filter_cons_of_neg (by simpa using hx), List.filter_nil, List.append_nil]
section
variable {P : Program} {w : World} {K : PySem.W.Frag} {mg : Str → Option Value} {base : Heap}
theorem cal_spelt (M : Md K mg) : Cal P w K mg base 1 "_law_spelled" ["_law_net_here", "_law_name", "_law_other", "_law_places"] (spD w K R_spelt) := M.cal 39 rfl (fun _ _ _ _ _ _ us hl => match us, hl with | [_, _, _, _], _ => rfl) fun f fd F => by
  refine fnD F sc_spelled (fun ds d ⟨_, _, _, _, _, _, h, _⟩ => by rw [h]; rfl) fun cdv A outer s H E hr ds d h => ?_
  obtain ⟨N, ts, x, n, os, us, rfl, h1, h2, h3, h4, h5, h6, h7, h8, h9, h10, h11, rfl⟩ := h
  let m : Nat := n - us.items.length
  let st : Nat → Sls := fun k => [.dat (pnD N ts), .dat (.str x), .dat (pnD n os), .dat (rowD us), .dat (.list (tiesD (foundL ts x ++ copiesL N (replL ts x) n os us k))), .dat (.int ((N + k * m : Nat) : Int)), .non, .non, .non, .non, .non, .non, .non]
  refine ds_cons (M := fun r => r = st 0) (d1_parXX (i := 4) (j := 5) (Pa := Is (.list (tiesD (foundL ts x))) (ini n_spelled [pnD N ts, .str x, pnD n os, rowD us])) (Pb := fun _ => Is (.int (N : Nat)) (ini n_spelled [pnD N ts, .str x, pnD n os, rowD us])) (fun ta ha => ps_par rfl sc_spelled.nd rfl rfl (by decide) rfl rfl ha rfl)
    (ex_of (de_lc ts tieD (fun t => !decide (t.1 = x)) tieD _ rfl sc_spelled.nd (di_tup (pn_ties (hu1 hr) (dv 0))) (own := [("_law_one", 10)]) (blk_of rfl) (fun _ _ _ _ _ => pn 10 sc_spelled.nd) (szl (by omega)) (fun a _ => tg_name (by decide))
      (fun _ _ _ _ _ a _ => pts_if (dt_cmp op_ne rd_neS (de_ix ix_tup (rd_ixT (i := ((0 : Nat) : Int)) (atI_nat rfl)) (dv 10) de_int (fun _ _ => rfl)) (dv 1) (nomark _))) (fun _ _ _ _ _ a _ _ => dv 10)))
    (fun da r h => by obtain ⟨_, rfl⟩ := h; exact ex_of (pn_size (hu1 hr) (dv 0))) (fun da r db r' h h' => by
      obtain ⟨rfl, _⟩ := h
      obtain ⟨rfl, rfl⟩ := h'
      show _ = [_, _, _, _, Sl.dat (.list (tiesD (foundL ts x ++ copiesL N (replL ts x) n os us 0))), Sl.dat (.int ((N + 0 * m : Nat) : Int)), _, _, _, _, _, _, _]
      rw [show copiesL N (replL ts x) n os us 0 = [] from rfl, List.append_nil, Nat.zero_mul]
      rfl)) fun r hr0 => ?_
  subst hr0
  have hcl : ∀ k, k ≤ (replL ts x).length → (foundL ts x ++ copiesL N (replL ts x) n os us k).length ≤ 60 := fun k hk => by
    have := copiesL_len (N := N) (n := n) (rs := replL ts x) (os := os) (us := us) k
    have h12 := Nat.mul_le_mul_right os.length hk
    rw [List.length_append]
    omega
  refine ds_for ts tieD (fun i => st (replL (ts.take i) x).length) PassesOwn.never rfl (di_tup (pn_ties (hu1 hr) (dv 0))) (g := gTup K 2 (gNames [6, 7])) (pg_tup rfl (pgs_cons (pn 6 sc_spelled.nd) (pgs_cons (pn 7 sc_spelled.nd) pgs_nil))) (fun i t hi => ?_) ?_
  · refine ⟨_, tgs_tup (is := [6, 7]) rfl, ?_⟩
    let k := (replL (ts.take i) x).length
    let s1 : Sls := [.dat (pnD N ts), .dat (.str x), .dat (pnD n os), .dat (rowD us), .dat (.list (tiesD (foundL ts x ++ copiesL N (replL ts x) n os us k))), .dat (.int ((N + k * m : Nat) : Int)), .dat (.str t.1), .dat (rowD t.2), .non, .non, .non, .non, .non]
    by_cases hx : t.1 = x
    · obtain ⟨hr1, hr2⟩ := replL_take hi hx
      have hk : k < (replL ts x).length := (List.getElem?_eq_some_iff.mp hr1).1
      have hps := h7 t.2 (List.mem_of_getElem? hr1)
      refine ds_one (d1_ifT (r := s1) (tx_of (dt_eq (dt_cmp op_eq rd_eqS (dv 6) (dv 1) (nomark _)) (decide_eq_true hx))) ?_)
      let z0 : List (Nat × Nat) × Nat := (us.items.zip t.2.items, N + k * m)
      have hz0 : us.items.zip t.2.items ≠ [] := by
        intro e
        have := congrArg List.length e
        rw [List.length_zip, hps, Nat.min_self] at this
        exact h2 (List.eq_nil_of_length_eq_zero this)
      let s2 : List (Nat × Nat) × Nat → Sls := fun z => [.dat (pnD N ts), .dat (.str x), .dat (pnD n os), .dat (rowD us), .dat (.list (tiesD (foundL ts x ++ copiesL N (replL ts x) n os us k))), .dat (.int (z.2 : Nat)), .dat (.str t.1), .dat (rowD t.2), .ownK (numD z.1), .non, .non, .non, .non]
      refine ds_then (ρ' := s2 z0) (d_own 8 (sl := .ownK (numD z0.1)) sc_spelled.nd ?_) ?_
      · have hz := zip_num us.items t.2.items [] h1 (fun _ _ => rfl)
        rw [List.nil_append] at hz
        show DO _ _ _ (.ownK (numD (us.items.zip t.2.items)))
        rw [← hz]
        refine do_callTy (call_dictK rfl) rdo_dictK rfl (M.fr 8) (by decide +kernel) (da_cons (de_eq (de_listZip rfl rfl (M.fr 6) rfl (M.fr 3) (da_cons (de_eq (d := .tuple ((us.items.map fun (n : Nat) => (n : Int)).map PyData.int)) (dv 3) (by rw [List.map_map]; rfl)) (da_cons (dv 7) da_nil))) ?_) da_nil)
        rw [List.map_map]
        rfl
      refine ds_for (List.range n) (fun (i : Nat) => .int (i : Nat)) (fun j => s2 ((List.range j).foldl numStep z0)) PassesOwn.never rfl (di_range rfl (M.fr 9) (da_cons (pn_size (hu1 hr) (dv 2)) da_nil) (by omega)) (pn 9 sc_spelled.nd) (fun j a ha => ?_) ?_
      · have hj := List.getElem?_eq_some_iff.mp ha
        have ea : a = j := by rw [← hj.2]; simp
        subst ea
        refine ⟨_, tgs_name, ?_⟩
        have hnx : (List.range (a + 1)).foldl numStep z0 = numStep ((List.range a).foldl numStep z0) a := by rw [List.range_succ, List.foldl_append]; rfl
        have hne := fold_ne (s := z0) hz0 a
        have hln := fold_len (s := z0) a
        have hl0 : z0.1.length ≤ 3 := by show (us.items.zip t.2.items).length ≤ 3; rw [List.length_zip]; omega
        have han : a < n := by have := hj.1; simpa using this
        rw [hnx]
        generalize (List.range a).foldl numStep z0 = sst at hne hln ⊢
        obtain ⟨l, fi⟩ := sst
        cases l with
        | nil => exact absurd rfl hne
        | cons p l =>
          cases hlk : (p :: l).lookup a with
          | some v =>
            have e1 : numStep (p :: l, fi) a = (p :: l, fi) := by unfold numStep; rw [if_pos (by rw [hlk]; rfl)]
            rw [e1]
            refine ds_one (d1_ifF (tx_imp (tx_own (dt_eq (dt_cmp (op_notInK (hu1 hr)) rd_ninNum (dv 9) (dv 8) rfl) (by rw [hlk]; rfl))) (fun _ _ h => h)) (ds_nil ?_))
            exact .same (.same (.same (.same (.same (.same (.same (.same (.same (.non (.same (.same (.same .nil))))))))))))
          | none =>
            have e1 : numStep (p :: l, fi) a = ((p :: l) ++ [(a, fi)], fi + 1) := by unfold numStep; rw [if_neg (by rw [hlk]; exact Bool.false_ne_true)]
            rw [e1]
            refine ds_one (d1_ifT (tx_imp (tx_own (dt_eq (dt_cmp (op_notInK (hu1 hr)) rd_ninNum (dv 9) (dv 8) rfl) (by rw [hlk]; rfl))) (fun _ _ h => h)) ?_)
            refine ds_cons (M := fun r => r = (s2 ((p :: l) ++ [(a, fi)], fi)).set 9 (.dat (.int (a : Nat)))) (d1_putK (j := 8) (ds0 := numD (p :: l)) (hu1 hr) (pv 8) rfl (szl' (by rw [List.length_map]; simp at hln ⊢; omega)) (ex_of (dv 5)) (fun d r h => h.2) (ex_of (dv 9)) (fun d r h => h.2) fun d kd h8 h9 => ⟨.inl (a : Nat), h9.1, by
              obtain ⟨h8, _⟩ := h8
              obtain ⟨h9, _⟩ := h9
              subst h8 h9
              exact congrArg (fun z => ([.dat (pnD N ts), .dat (.str x), .dat (pnD n os), .dat (rowD us), .dat (.list (tiesD (foundL ts x ++ copiesL N (replL ts x) n os us k))), .dat (.int (fi : Nat)), .dat (.str t.1), .dat (rowD t.2), .ownK z, .dat (.int (a : Nat)), .non, .non, .non] : Sls)) (put_num (v := fi) hlk)⟩) fun r hr' => ?_
            subst hr'
            refine ds_imp (ds_one (d_let 5 (d := .int ((fi + 1 : Nat) : Int)) sc_spelled.nd (de_op op_add rd_add (dv 5) de_int))) (fun r h => ?_) fun _ _ h => h
            rw [h]
            exact .same (.same (.same (.same (.same (.same (.same (.same (.same (.non (.same (.same (.same .nil))))))))))))
      · rw [List.length_range]
        have hsnd : ((List.range n).foldl numStep z0).2 = N + k * m + m := copiesL_foldsnd (us := us.items) (ps := t.2.items) (first := N + k * m) (n := n) (by omega) h1 h4
        have hne := fold_ne (s := z0) hz0 n
        have hhas := fold_has z0 n
        have ecp : copyL us.items t.2.items (N + k * m) n os = os.map fun t => (t.1, ⟨t.2.items.map (numOf ((List.range n).foldl numStep z0).1)⟩) := rfl
        have ecs : copiesL N (replL ts x) n os us (k + 1) = copiesL N (replL ts x) n os us k ++ copyL us.items t.2.items (N + k * m) n os := copiesL_succ hr1
        generalize (List.range n).foldl numStep z0 = sst at hne hhas ecp hsnd ⊢
        obtain ⟨l, fi⟩ := sst
        cases l with
        | nil => exact absurd rfl hne
        | cons p l =>
          refine ds_frz (i := 8) rfl rfl rfl ?_
          refine ds_imp (ds_one (d_let 4 (d := .list (tiesD (foundL ts x ++ copiesL N (replL ts x) n os us k) ++ tiesD (copyL us.items t.2.items (N + k * m) n os))) sc_spelled.nd (de_op op_cat (rd_catL (szl ?_)) (dv 4) (de_eq (de_map os tieD (fun t => tieD (t.1, ⟨t.2.items.map (numOf (p :: l))⟩)) _ rfl sc_spelled.nd (di_tup (pn_ties (hu1 hr) (dv 2))) (own := [("_law_one", 10), ("_law_told_at", 11)]) (blk_of rfl)
            (fun _ _ _ _ _ => pg_tup rfl (pgs_cons (pn 10 sc_spelled.nd) (pgs_cons (pn 11 sc_spelled.nd) pgs_nil))) (szl (by omega)) (fun a _ => tg_pair (by decide) (by decide)) (fun _ _ _ _ _ t ht => de_tup (da_cons (dv 10) (da_cons (de_eq (de_callTy call_tuple_of rdc_tupleL rfl (M.fr 4) (by decide +kernel) (da_cons
              (de_map t.2.items (fun a => .int (a : Nat)) (fun a => .int (numOf (p :: l) a : Nat)) _ rfl sc_spelled.nd (di_tup (dv 11)) (own := [("_law_place", 12)]) (blk_of rfl) (fun _ _ _ _ _ => pn 12 sc_spelled.nd) (szl (by have := (h8 t ht).1; omega)) (fun a _ => tg_name (by decide)) (fun _ _ _ _ _ a ha => de_dget (kd := .none) (k := .inl (a : Nat)) (hu1 hr) (dv 8) (dv 12) ?_ dk_num (fun _ _ => rfl))) da_nil)) ?_) da_nil)) (by show 2 ≤ sizeLine; decide))) ?_)))) (fun r h => ?_) fun _ _ h => h
          · rw [List.length_map, List.length_map, copyL_len]
            have := hcl k (Nat.le_of_lt hk)
            omega
          · have hs := hhas a ((h8 t ht).2 a ha)
            rw [lookD_num]
            unfold numOf
            cases e : (p :: l).lookup a with
            | none => rw [e] at hs; cases hs
            | some v => rfl
          · show PyData.tuple _ = PyData.tuple (List.map _ (List.map _ _))
            rw [List.map_map]
            rfl
          · rw [ecp]
            show PyData.list _ = PyData.list (List.map _ (List.map _ _))
            rw [List.map_map]
            rfl
          · rw [h]
            have e4 : (replL (ts.take (i + 1)) x).length = k + 1 := by rw [hr2, List.length_append]; rfl
            rw [e4]
            show WeakL _ [_, _, _, _, Sl.dat (.list (tiesD (foundL ts x ++ copiesL N (replL ts x) n os us (k + 1)))), Sl.dat (.int ((N + (k + 1) * m : Nat) : Int)), _, _, _, _, _, _, _]
            have e5 : tiesD (foundL ts x ++ copiesL N (replL ts x) n os us k) ++ tiesD (copyL us.items t.2.items (N + k * m) n os) = tiesD (foundL ts x ++ copiesL N (replL ts x) n os us (k + 1)) := by
              rw [ecs, ← List.append_assoc]
              exact List.map_append.symm
            have e6 : fi = N + (k + 1) * m := by
              have : fi = N + k * m + m := hsnd
              rw [this, Nat.succ_mul, Nat.add_assoc]
            rw [e5, e6]
            exact .same (.same (.same (.same (.same (.same (.non (.non (.non (.same (.same (.same (.same .nil))))))))))))
    · refine ds_one (d1_ifF (r := s1) (tx_of (dt_eq (dt_cmp op_eq rd_eqS (dv 6) (dv 1) (nomark _)) (decide_eq_false hx))) (ds_nil ?_))
      rw [replL_skip hi hx]
      exact .same (.same (.same (.same (.same (.same (.non (.non (.same (.same (.same (.same (.same .nil))))))))))))
  · rw [List.take_length]
    have hlen := hcl _ (Nat.le_refl (replL ts x).length)
    have esz : N + (replL ts x).length * m = spSize N ts x n us := by show _ = N + m * _; rw [Nat.mul_comm]
    refine ds_one (d_ret (de_disp2 (k1 := .inr "size") (k2 := .inr "ties") (d1 := .int (spSize N ts x n us : Nat)) (by decide) de_str (de_eq (dv 5) (by rw [esz])) de_str (de_callTy call_tuple_of rdc_tupleL rfl (M.fr 4) (by decide +kernel) (da_cons (de_sset (α := Tie) rfl (hu64 hr) (by decide) rfl (M.fr 5) rfl (M.fr 7) (dv 4) (fun l hnd hm => ?_) (fun l _ _ => sort_ties l)) da_nil))) rfl)
    have := nodup_len hnd hm
    omega
end
end K64

/-! ## W25 -/
/-! Walk: case. -/
namespace K64
open PySem PySem.Spec PyProof.Rows L2 PySem.W
def toldN : Str := "told"
def toldB (B : Bk) (n : Nat) (os : List Tie) (us : Row) : Bk := ⟨B.size, B.ties ++ [(toldN, us.items.length, toldL B n os us)]⟩
structure CaseOk (B : Bk) (n : Nat) (os : List Tie) (us : Row) (N : Nat) (ts : List Tie) : Prop where
  bk : BkF B
  s2 : 2 ≤ B.size
  base : ∀ t ∈ B.ties, t.1 ∈ baseN
  n1 : 1 ≤ n
  n3 : n ≤ 3
  fo : FitB B n os
  ao : Asc os
  lo : os.length ≤ 3
  un : us.items.Nodup
  ue : us.items ≠ []
  uv : ∀ u ∈ us.items, u < n
  N6 : N ≤ 6 - B.size
  ties : ∀ t ∈ ts, (t.1 ≠ toldN ∧ B.ties.lookup t.1 = some (t.2.items.length, rowsAt B t.1) ∧ ∀ u ∈ t.2.items, u < N) ∨ (t.1 = toldN ∧ t.2.items.length = us.items.length ∧ ∀ u ∈ t.2.items, u < N)
  asc : Asc ts
  few : (foundL ts toldN).length ≤ 3
  told : (replL ts toldN).length ≤ 5 - B.size
def CaseR (d : PyData) : Prop := ∃ (B : Bk) (n : Nat) (os : List Tie) (us : Row) (N : Nat) (ts : List Tie), CaseOk B n os us N ts ∧ d = .list [bookD B, pnD n os, rowD us, bookD (toldB B n os us), pnD N ts]
theorem told_base : toldN ∉ baseN := by decide
theorem told_len {B : Bk} {n : Nat} {os : List Tie} {us : Row} (hB : BkOk B) (hn : n ≤ 3) : (toldL B n os us).length ≤ 27 := by
  unfold toldL sset
  rw [(srt_perm _).length_eq]
  have h1 := nodup_len (m := (fillL B os n).map fun l => appR l us) (dd_nodup ((fillL B os n).map fun l => appR l us)) fun a ha => dd_mem.mp ha
  rw [List.length_map] at h1
  exact Nat.le_trans h1 (Nat.le_trans (fillL_len B os n) (Nat.le_trans (Nat.pow_le_pow_left hB.size _) (Nat.pow_le_pow_right (by decide) hn)))
theorem putS_new {l : List (Str × PyData)} {x : Str} {v : PyData} (h : x ∉ l.map (·.1)) : putS l x v = l ++ [(x, v)] := by
  unfold putS
  rw [if_neg]
  intro z
  obtain ⟨p, hp, h2⟩ := List.any_eq_true.mp z
  exact h (List.mem_map.mpr ⟨p, hp, of_decide_eq_true h2⟩)
theorem with_told (B : Bk) (n : Nat) (os : List Tie) (us : Row) (h : ∀ t ∈ B.ties, t.1 ∈ baseN) : PyData.dict (strD (putS (B.ties.map tieE) toldN (.tuple [.int (us.items.length : Nat), .tuple (rowsD (toldL B n os us))]))) = .dict (tiesE (toldB B n os us).ties) := by
  rw [putS_new (x := toldN) (fun hm => by
    obtain ⟨p, hp, e⟩ := List.mem_map.mp hm
    obtain ⟨t, ht, rfl⟩ := List.mem_map.mp hp
    have e : t.1 = toldN := e
    exact told_base (e ▸ h t ht))]
  show PyData.dict (strD _) = PyData.dict (strD (List.map tieE (B.ties ++ [(toldN, us.items.length, toldL B n os us)])))
  rw [List.map_append]
  rfl
theorem with_pair {a b v : PyData} : PyData.dict (strD (putS [("size", a), ("ties", b)] "ties" v)) = .dict [(.str "size", a), (.str "ties", v)] := by
  have e : putS [(("size" : Str), a), (("ties" : Str), b)] "ties" v = [(("size" : Str), a), (("ties" : Str), v)] := by
    have h1 : decide (("size" : Str) = "ties") = false := by decide
    have h2 : decide (("ties" : Str) = "ties") = true := by decide
    unfold putS
    rw [if_pos (by show (decide (("size" : Str) = "ties") || (decide (("ties" : Str) = "ties") || false)) = true; rw [h1, h2]; rfl)]
    show [if ("size" : Str) = "ties" then (("size" : Str), v) else (("size" : Str), a), if ("ties" : Str) = "ties" then (("ties" : Str), v) else (("ties" : Str), b)] = _
    rw [if_neg (of_decide_eq_false h1), if_pos rfl]
  rw [e]
  rfl
theorem foundL_perm {l m : List Tie} (h : l.Perm m) (x : Str) : (foundL l x).Perm (foundL m x) := h.filter _
theorem replL_perm {l m : List Tie} (h : l.Perm m) (x : Str) : (replL l x).Perm (replL m x) := (h.filter _).map _
section
variable {P : Program} {w : World} {K : PySem.W.Frag} {mg : Str → Option Value} {base : Heap}
theorem cal_case (M : Md K mg) (c1 : CGrab P w K mg base) (c2 : COne P w K mg base) (c3 : CShuf P w K mg base) (c4 : Cal P w K mg base 4 "_law_book" ["_law_sack_here", "_law_size", "_law_most"] (spK w K Pre_book R_book)) (c5 : Cal P w K mg base 2 "_law_told_rows" ["_law_book_here", "_law_net_here", "_law_places"] (spD w K R_told))
    (c6 : Cal P w K mg base 1 "_law_with" ["_law_record", "_law_word", "_law_value"] (spD w K R_with)) :
    Cal P w K mg base 5 "_law_case" ["_law_sack_here"] (spK w K (fun ds => ds = []) (fun _ d => CaseR d)) := M.cal 40 rfl (fun _ _ _ _ _ _ us hl => match us, hl with | [_], _ => rfl) fun f fd F => by
  refine fnK F sc_case (fun ds h => by rw [h]; rfl) fun cdv A outer s H E hr ds h => ?_
  subst h
  let ρ0 : Sls := iniK n_case []
  refine ds_cons (M := fun r => ∃ B : Bk, BkF B ∧ 2 ≤ B.size ∧ (∀ t ∈ B.ties, t.1 ∈ baseN) ∧ r = ρ0.set 1 (.dat (bookD B))) (d_set 1 (P := fun d r => (∃ B : Bk, BkF B ∧ 2 ≤ B.size ∧ (∀ t ∈ B.ties, t.1 ∈ baseN) ∧ d = bookD B) ∧ r = ρ0) sc_case.nd (ex_imp (ex_c c4 (hr.mono (by decide)) (pv 0) rfl (xa_cons (Pa := fun d r => (∃ k : Nat, d = .int (k : Nat) ∧ 2 ≤ k ∧ k ≤ 3) ∧ r = ρ0) (P := fun ds r => (∃ k : Nat, ds = [.int (k : Nat), .int (2 : Nat)] ∧ 2 ≤ k ∧ k ≤ 3) ∧ r = ρ0)
      (ex_imp (ex_c c2 (hr.mono (by decide)) (pv 0) rfl (xa_of (da_cons (d := .list [.int (2 : Nat), .int (2 : Nat), .int (3 : Nat)]) (de_lst (da_cons de_int (da_cons de_int (da_cons de_int da_nil))) (show 3 ≤ sizeLine by decide)) da_nil)) (fun ds r ⟨e1, _⟩ => ⟨_, .inl e1, (fun h => nomatch h), (show 3 < 1073741824 by decide)⟩)) fun d r ⟨ds, ⟨e1, e2⟩, its, e3, hd⟩ => ⟨?_, e2⟩)
      (fun d r h => h.2) (xa_of (da_cons (d := .int (2 : Nat)) de_int da_nil)) (fun d ds r ⟨⟨k, e, h⟩, _⟩ ⟨e2, e3⟩ => ⟨⟨k, by rw [e, e2], h⟩, e3⟩)) (fun ds r ⟨⟨k, e, a, b⟩, _⟩ => ⟨k, 2, e, a, b, by decide, by decide⟩)) fun d r ⟨ds, ⟨_, e2⟩, most, B, _, e4, e5, e6, e7⟩ => ⟨⟨B, e6, e4, e7, e5⟩, e2⟩) (fun d r ⟨⟨B, a, b, c, e⟩, e2⟩ => ⟨B, a, b, c, by rw [e, e2]⟩)) ?_
  · rw [e1] at e3
    rcases e3 with e3 | e3
    · injection e3 with e3 _
      injection e3 with e3
      subst e3
      simp only [List.mem_cons, List.not_mem_nil, or_false] at hd
      rcases hd with rfl | rfl | rfl
      · exact ⟨2, rfl, by decide, by decide⟩
      · exact ⟨2, rfl, by decide, by decide⟩
      · exact ⟨3, rfl, by decide, by decide⟩
    · cases e3
  rintro r ⟨B, hB, hs2, hbase, rfl⟩
  have hs3 := hB.ok.size
  let ρ1 : Sls := ρ0.set 1 (.dat (bookD B))
  refine ds_cons (M := fun r => ∃ (n : Nat) (os : List Tie), n ≤ 3 ∧ FitB B n os ∧ Asc os ∧ os.length ≤ 3 ∧ r = ρ1.set 2 (.dat (pnD n os))) (d_set 2 (P := fun d r => NetR B 3 3 d ∧ r = ρ1) sc_case.nd (ex_imp (ex_c (cal_net M c1 c2 hB (most := 3) (tm := 3) (by decide) (by decide)) (hr.mono (by decide)) (pv 0) rfl (xa_of (da_cons (d := bookD B) (dv 1) (da_cons (d := .int (3 : Nat)) de_int (da_cons (d := .int (3 : Nat)) de_int da_nil)))) (fun ds r ⟨e1, _⟩ => e1)) fun d r ⟨ds, ⟨_, e2⟩, e⟩ => ⟨e, e2⟩)
    (fun d r ⟨⟨n, os, e, a, b, c, h⟩, e2⟩ => ⟨n, os, a, b, c, h, by rw [e, e2]⟩)) ?_
  rintro r ⟨n0, os0, hn0, hf0, ha0, hl0, rfl⟩
  refine ds_cons (M := fun r => ∃ (n : Nat) (os : List Tie), 1 ≤ n ∧ n ≤ 3 ∧ FitB B n os ∧ Asc os ∧ os.length ≤ 3 ∧ r = ρ1.set 2 (.dat (pnD n os))) (d_set 2 (P := fun d r => (∃ (n : Nat) (os : List Tie), 1 ≤ n ∧ n ≤ 3 ∧ FitB B n os ∧ Asc os ∧ os.length ≤ 3 ∧ d = pnD n os) ∧ r = ρ1.set 2 (.dat (pnD n0 os0))) sc_case.nd ?_ (fun d r ⟨⟨n, os, a, b, c, h, i, e⟩, e2⟩ => ⟨n, os, a, b, c, h, i, by rw [e, e2]; rfl⟩)) ?_
  · by_cases hz : 0 < n0
    · exact ex_imp (ex_of (d := pnD n0 os0) (de_ifT (dt_eq (dt_cmp op_gt rd_gt (pn_size (hu1 hr) (dv 2)) de_int (nomark _)) (decide_eq_true (show (0 : Int) < (n0 : Nat) by omega))) (dv 2))) fun d r ⟨e, e2⟩ => ⟨⟨n0, os0, hz, hn0, hf0, ha0, hl0, e⟩, e2⟩
    · exact ex_imp (ex_of (d := pnD 1 []) (de_ifF (dt_eq (dt_cmp op_gt rd_gt (pn_size (hu1 hr) (dv 2)) de_int (nomark _)) (decide_eq_false (show ¬ (0 : Int) < (n0 : Nat) by omega))) (de_disp2 (k1 := .inr "size") (k2 := .inr "ties") (by decide) de_str de_int de_str (de_tup da_nil (by decide))))) fun d r ⟨e, e2⟩ => ⟨⟨1, [], by decide, by decide, (fun _ h => nomatch h), List.Pairwise.nil, by decide, e⟩, e2⟩
  rintro r ⟨n, os, hn1, hn3, hfo, hao, hlo, rfl⟩
  let ρ2 : Sls := ρ1.set 2 (.dat (pnD n os))
  refine ds_cons (M := fun r => ∃ us : List Nat, us.Nodup ∧ us ≠ [] ∧ (∀ u ∈ us, u < n) ∧ r = ρ2.set 3 (.dat (rowD ⟨us⟩))) (d_set 3 (P := fun d r => (∃ us : List Nat, d = rowD ⟨us⟩ ∧ us.Nodup ∧ us ≠ [] ∧ ∀ u ∈ us, u < n) ∧ r = ρ2) sc_case.nd (ex_imp (ex_callTy (Pa := fun ds r => (∃ us : List Nat, ds = [natsD us] ∧ us.Nodup ∧ us ≠ [] ∧ ∀ u ∈ us, u < n) ∧ r = ρ2) tupOf call_tuple_of (fun ds r' ⟨⟨fs, e, _⟩, _⟩ => by rw [e]; exact rdc_tupleL) rfl (M.fr 4) (by decide +kernel)
      (xa_cons (Pa := fun d r => (∃ us : List Nat, d = natsD us ∧ us.Nodup ∧ us ≠ [] ∧ ∀ u ∈ us, u < n) ∧ r = ρ2) (ex_imp (ex_takeG (Pa := fun d r => (∃ us : List Nat, us.Perm (List.range n) ∧ d = natsD us) ∧ r = ρ2) (C := fun n => 1 ≤ n) (ex_imp (ex_c c3 (hr.mono (by decide)) (pv 0) rfl (xa_of (da_cons (de_listRange (n := n) rfl (pn_size (hu1 hr) (dv 2)) (by omega) (M.fr 6) (M.fr 9)) da_nil)) (fun ds r ⟨e1, _⟩ => ⟨_, .inl e1, by rw [List.length_map, List.length_range]; omega, szl (by rw [List.length_map, List.length_range]; omega)⟩)) fun d r ⟨ds, ⟨e1, e2⟩, its, out, e3, e4, hp⟩ => ⟨?_, e2⟩)
            (fun d r ⟨⟨ns, _, e⟩, e2⟩ => ⟨⟨_, e⟩, e2⟩) (nx_op0 op_add (nx_of (C := fun n => n = 1) de_int rfl) (ex_imp (ex_grab c1 (hr.mono (show 1 ≤ 4 by decide)) (pv 0) rfl (n := if n < 3 then n else 3) (de_eq (de_callB (call_min2 rfl) rdc_min2 rfl (M.fr 12) PyProof.Rows.boot_min (da_cons (de_int (i := 3)) (da_cons (pn_size (hu1 hr) (dv 2)) da_nil))) (by
                congr 1
                split <;> split <;> omega)) (by split <;> omega) (by split <;> omega)) fun d r ⟨⟨m, e, hm⟩, e2⟩ => ⟨⟨(m : Nat), e, (show 0 ≤ ((m : Nat) : Int) by omega)⟩, e2⟩) (fun i j hi hj => by show 1 ≤ i + j; omega)) (fun n hn => by omega)) fun d r ⟨⟨ds, k, ⟨⟨os, hp, e1⟩, _⟩, hk, e2⟩, e3⟩ => ⟨?_, e3⟩)
            (fun d r h => h.2) (xa_nil (P := fun x r => x = [] ∧ r = ρ2) ⟨rfl, rfl⟩) (fun d ds r ⟨⟨fs, e, h⟩, _⟩ ⟨e2, e3⟩ => ⟨⟨fs, by rw [e, e2], h⟩, e3⟩))) fun d r ⟨ds, ⟨⟨fs, e, h⟩, e2⟩, e3⟩ => ⟨⟨fs, by rw [e3, e]; rfl, h⟩, e2⟩) (fun d r ⟨⟨fs, e, a, b, c⟩, e2⟩ => ⟨fs, a, b, c, by rw [e, e2]⟩)) ?_
  · rw [e1] at e3
    rcases e3 with e3 | e3
    · injection e3 with e3 _
      injection e3 with e3
      subst e3
      obtain ⟨os, ho, rfl⟩ := perm_map hp _ rfl
      exact ⟨os, ho, e4⟩
    · cases e3
  · injection e1 with e1
    subst e1
    refine ⟨os.take k, by rw [e2]; exact congrArg PyData.list List.map_take.symm, (List.take_sublist k os).nodup (hp.nodup_iff.mpr List.nodup_range), fun e => ?_, fun u hu => List.mem_range.mp (hp.mem_iff.mp (List.mem_of_mem_take hu))⟩
    have h1 := congrArg List.length e
    rw [List.length_take, hp.length_eq, List.length_range, List.length_nil] at h1
    omega
  rintro r ⟨us, hun, hue, huv, rfl⟩
  have hul : us.length ≤ 3 := Nat.le_trans (nodup_len (m := List.range n) hun fun u hu => List.mem_range.mpr (huv u hu)) (by rw [List.length_range]; exact hn3)
  let T : Bk := toldB B n os ⟨us⟩
  let ρ4 : Sls := (ρ2.set 3 (.dat (rowD ⟨us⟩))).set 4 (.dat (.dict (tiesE T.ties)))
  have hnames : ((B.ties.map tieE).map (·.1)) = B.ties.map (·.1) := by rw [List.map_map]; rfl
  refine ds_then (ρ' := ρ4) (d_let 4 (d := .dict (tiesE T.ties)) sc_case.nd (de_eq (de_c c6 (hr.mono (by decide)) (da_cons (bk_ties (hu1 hr) (dv 1)) (da_cons (de_str (x := toldN)) (da_cons (de_tup (da_cons (d := .int (us.length : Nat)) (de_eq (de_callB call_len_seq rdc_lenT rfl (M.fr 1) PySem.boot_len (da_cons (dv 3) da_nil)) (by rw [List.length_map])) (da_cons (de_c c5 (hr.mono (by decide)) (da_cons (dv 1) (da_cons (dv 2) (da_cons (dv 3) da_nil))) ⟨B, n, os, ⟨us⟩, rfl, hB.ok, hfo, hn3, by omega, huv, hue, hul, rfl⟩) da_nil)) (show 2 ≤ sizeLine by decide)) da_nil)))
    ⟨B.ties.map tieE, toldN, _, rfl, (fun e => hB.ne (List.map_eq_nil_iff.mp e)), by rw [hnames]; exact hB.nd, by rw [List.length_map]; have := hB.few; omega, rfl⟩) (with_told B n os ⟨us⟩ hbase))) ?_
  have e6 : (6 : Int) - (B.size : Nat) = ((6 - B.size : Nat) : Int) := by omega
  let st : Nat → List Tie → List (PyData × PyData) → Sls := fun N ts dd => [.sck, .dat (bookD B), .dat (pnD n os), .dat (rowD ⟨us⟩), .dat (.dict (tiesE T.ties)), .dat (pnD N ts), .ownN dd, .non, .non]
  refine ds_cons (M := fun r => ∃ (N : Nat) (ts : List Tie), N ≤ 6 - B.size ∧ FitB B N ts ∧ Asc ts ∧ ts.length ≤ 3 ∧ r = st N ts []) (d1_parXO (i := 5) (j := 6) (Pa := fun d r => NetR B (6 - B.size) 3 d ∧ r = ρ4) (sl := fun _ _ => .ownN []) (fun ta ha => ps_parC rfl sc_case.nd rfl rfl (by first | exact Or.inl rfl | exact Or.inr rfl) (by first | exact Or.inl rfl | exact Or.inr rfl) ha rfl)
    (ex_imp (ex_c (cal_net M c1 c2 hB (most := 6 - B.size) (tm := 3) (by omega) (by decide)) (hr.mono (by decide)) (pv 0) rfl (xa_of (da_cons (d := bookD B) (dv 1) (da_cons (d := .int ((6 - B.size : Nat) : Int)) (de_eq (de_op op_sub rd_sub de_int (bk_size (hu1 hr) (dv 1))) (by rw [e6])) (da_cons (d := .int (3 : Nat)) de_int da_nil)))) (fun ds r ⟨e1, _⟩ => e1)) fun d r ⟨ds, ⟨_, e2⟩, e⟩ => ⟨e, e2⟩) (fun da r h => do_nilN)
    (fun da r h => by
      obtain ⟨⟨N, ts, rfl, a, b, c, h⟩, rfl⟩ := h
      exact ⟨N, ts, a, b, c, h, rfl⟩)) ?_
  rintro r ⟨N, ts, hN, hft, hat, hlt, rfl⟩
  let Ok : List Tie → Prop := fun fs => fs.Nodup ∧ ∀ t ∈ fs, t.1 = toldN ∧ t.2.items.length = us.length ∧ ∀ u ∈ t.2.items, u < N
  refine ds_cons (M := fun r => ∃ dd fs, KeysAre dd fs ∧ Ok fs ∧ fs.length ≤ 5 - B.size ∧ WeakL r (st N ts dd)) (d1_forX (g := gName 7) (P := fun L r => ∃ k : Nat, L = ((List.range k).map fun (i : Nat) => PyData.int i) ∧ (k ≤ 5 - B.size ∧ (k = 0 ∨ 0 < N)) ∧ r = st N ts []) (fun L j r => ∃ k : Nat, L = ((List.range k).map fun (i : Nat) => PyData.int i) ∧ k ≤ 5 - B.size ∧ (k = 0 ∨ 0 < N) ∧ ∃ dd fs, KeysAre dd fs ∧ Ok fs ∧ fs.length ≤ j ∧ WeakL r (st N ts dd)) PassesOwn.never rfl ?_ (pn 7 sc_case.nd)
    (fun L r ⟨k, e1, ⟨a, b⟩, e2⟩ => ⟨k, e1, a, b, [], [], rfl, ⟨List.nodup_nil, (fun _ h => nomatch h)⟩, Nat.le_refl _, by rw [e2]; exact WeakL.refl _⟩) (fun L j a r hja ⟨k, eL, hk, hk0, dd, fs, hkeys, hok, hlen, hw⟩ => ?_) (fun L r ⟨k, eL, hk, hk0, dd, fs, hkeys, hok, hlen, hw⟩ => ⟨dd, fs, hkeys, hok, by rw [eL, List.length_map, List.length_range] at hlen; omega, hw⟩)) ?_
  · refine pi_imp (xi_range (P := fun d r => (∃ k : Nat, d = .int (k : Nat) ∧ k ≤ 5 - B.size ∧ (k = 0 ∨ 0 < N)) ∧ r = st N ts []) (C := fun k r => (k ≤ 5 - B.size ∧ (k = 0 ∨ 0 < N)) ∧ r = st N ts []) rfl (M.fr 9) ?_ (fun d r ⟨⟨k, e, a, b⟩, e2⟩ => ⟨k, e, by omega, ⟨a, b⟩, e2⟩)) fun σ H R h => h
    by_cases h0 : 0 < N
    · exact ex_ifT (dt_eq (dt_cmp op_gt rd_gt (pn_size (hu1 hr) (dv 5)) de_int (nomark _)) (decide_eq_true (show (0 : Int) < (N : Nat) by omega)))
        (ex_imp (ex_grab c1 (hr.mono (show 1 ≤ 4 by decide)) (pv 0) rfl (n := 6 - B.size) (de_eq (de_op op_sub rd_sub de_int (bk_size (hu1 hr) (dv 1))) (by rw [e6])) (by omega) (by omega)) fun d r ⟨⟨m, e, hm⟩, e2⟩ => ⟨⟨m, e, by omega, .inr h0⟩, e2⟩)
    · exact ex_ifF (dt_eq (dt_cmp op_gt rd_gt (pn_size (hu1 hr) (dv 5)) de_int (nomark _)) (decide_eq_false (show ¬ (0 : Int) < (N : Nat) by omega))) (ex_imp (ex_of (d := .int (0 : Nat)) de_int) fun d r ⟨e, e2⟩ => ⟨⟨0, e, Nat.zero_le _, .inl rfl⟩, e2⟩)
  · subst eL
    have hjl := (List.getElem?_eq_some_iff.mp hja).1
    rw [List.length_map, List.length_range] at hjl
    have hn0 : 0 < N := by omega
    obtain ⟨i, hi, rfl⟩ : ∃ i : Nat, (List.range k)[j]? = some i ∧ a = .int (i : Nat) := by
      rw [List.getElem?_map] at hja
      obtain ⟨i, h1, h2⟩ := Option.map_eq_some_iff.mp hja
      exact ⟨i, h1, h2.symm⟩
    let s1 : Sls := (st N ts dd).set 7 (.dat (.int (i : Nat)))
    refine ⟨s1, fun x σ F G H Q S dx q => tgs_name x σ F G H Q (S.weak hw.weak.1 hw.weak.2) dx q, ?_⟩
    have hddl : dd.length = fs.length := by
      have := congrArg List.length (show dd.map (·.1) = fs.map Datum.toD from hkeys)
      rwa [List.length_map, List.length_map] at this
    refine ds_one (d1_putN (j := 6) (ds0 := dd) (P := Is (.bool true) s1) (Pk := fun d r => (∃ l : List Nat, d = tieD (toldN, ⟨l⟩) ∧ l.length = us.length ∧ ∀ v ∈ l, v < N) ∧ r = s1) (hu9 hr) (pv 6) rfl (szl' (by omega)) (ex_of de_bl) (fun d r h => h.2) (ex_imp (ex_tup (P := fun ds r => (∃ l : List Nat, ds = [.str toldN, rowD ⟨l⟩] ∧ l.length = us.length ∧ ∀ v ∈ l, v < N) ∧ r = s1)
      (xa_cons (ex_of (d := .str toldN) (de_str (x := toldN))) (fun d r h => h.2) (xa_cons (Pa := fun d r => (∃ l : List Nat, d = rowD ⟨l⟩ ∧ l.length = us.length ∧ ∀ v ∈ l, v < N) ∧ r = s1) (P := fun ds r => (∃ l : List Nat, ds = [rowD ⟨l⟩] ∧ l.length = us.length ∧ ∀ v ∈ l, v < N) ∧ r = s1) (ex_imp (ex_callTy (Pa := fun ds r => (∃ l : List Nat, ds = [natsD l] ∧ l.length = us.length ∧ ∀ v ∈ l, v < N) ∧ r = s1) tupOf call_tuple_of (fun ds r' ⟨⟨l, e, _⟩, _⟩ => by rw [e]; exact rdc_tupleL) rfl (M.fr 4) (by decide +kernel)
        (xa_cons (Pa := fun d r => (∃ l : List Nat, d = natsD l ∧ l.length = us.length ∧ ∀ v ∈ l, v < N) ∧ r = s1) (ex_imp (ex_lcX us (fun (i : Nat) => .int (i : Nat)) (j := 8) (y := "_law_at") (fun acc r => (∃ l : List Nat, acc = l.map (fun (v : Nat) => PyData.int (v : Nat)) ∧ ∀ v ∈ l, v < N) ∧ r = s1) rfl sc_case.nd (di_tup (dv 3)) (blk_of rfl)
          (fun _ _ _ _ _ => pn 8 sc_case.nd) (szl (by omega)) ⟨⟨[], rfl, (fun _ h => nomatch h)⟩, rfl⟩ (fun acc r ⟨_, e⟩ => by rw [e]; rfl)
          (fun s' H' C cl fp a acc r ⟨⟨l, e1, hl⟩, e2⟩ ha => by
            subst e2
            refine ex_imp (ex_grab c1 (hr.mono (show 1 ≤ 4 by decide)) (pv 0) rfl (n := N) (pn_size (hu1 hr) (dv 5)) hn0 (by omega)) fun d r ⟨⟨m, e, hm⟩, e3⟩ => ⟨⟨l ++ [m], by rw [e1, e, List.map_append]; rfl, fun v hv => ?_⟩, by rw [e3]; rfl⟩
            rcases List.mem_append.mp hv with h | h
            · exact hl v h
            · rw [List.mem_singleton] at h
              omega)) fun d r ⟨acc, e1, e2, ⟨l, e3, hl⟩, e4⟩ => ⟨⟨l, by rw [e1, e3], by
                have := congrArg List.length e3
                rw [List.length_map, e2] at this
                exact this.symm, hl⟩, e4⟩)
          (fun d r h => h.2) (xa_nil (P := fun x r => x = [] ∧ r = s1) ⟨rfl, rfl⟩) (fun d ds r ⟨⟨l, e, h⟩, _⟩ ⟨e2, e3⟩ => ⟨⟨l, by rw [e, e2], h⟩, e3⟩))) fun d r ⟨ds, ⟨⟨l, e, h⟩, e2⟩, e3⟩ => ⟨⟨l, by rw [e3, e]; rfl, h⟩, e2⟩)
        (fun d r h => h.2) (xa_nil (P := fun x r => x = [] ∧ r = s1) ⟨rfl, rfl⟩) (fun d ds r ⟨⟨l, e, h⟩, _⟩ ⟨e2, e3⟩ => ⟨⟨l, by rw [e, e2], h⟩, e3⟩)) (fun d ds r ⟨e, _⟩ ⟨⟨l, e2, h⟩, e3⟩ => ⟨⟨l, by rw [e, e2], h⟩, e3⟩))
      (fun ds r ⟨⟨l, e, _⟩, _⟩ => by rw [e]; exact (show 2 ≤ sizeLine by decide))) fun d r ⟨ds, ⟨⟨l, e, h⟩, e2⟩, e3⟩ => ⟨⟨l, by rw [e3, e], h⟩, e2⟩) (fun d r h => h.2) fun d kd h8 h9 => ?_)
    obtain ⟨⟨l, rfl, hll, hlv⟩, _⟩ := h9
    refine ⟨_, _, rfl, KeyD.key ((toldN, ⟨l⟩) : Tie), KeyD.dep ((toldN, ⟨l⟩) : Tie), k, rfl, hk, hk0, putD dd (tieD (toldN, ⟨l⟩)) d, addK fs (toldN, ⟨l⟩), keys_put hkeys ((toldN, ⟨l⟩) : Tie) d, ⟨addK_nodup hok.1, fun t ht => ?_⟩, Nat.le_trans (addK_len _ _) (by omega), .same (.same (.same (.same (.same (.same (.same (.non (.same .nil))))))))⟩
    rcases addK_mem.mp ht with h | h
    · exact hok.2 t h
    · subst h
      exact ⟨rfl, hll, hlv⟩
  · rintro r ⟨dd, fs, hkeys, hok, hlen, hw⟩
    have hnot : ∀ t ∈ ts, t.1 ≠ toldN := fun t ht e => by
      obtain ⟨q, hq, e2⟩ := List.mem_map.mp (lookup_mem_fst (hft t ht).1)
      exact told_base (by rw [← e, ← e2]; exact hbase q hq)
    let all : List Tie := ts ++ fs
    have hnd : all.Nodup := List.nodup_append.mpr ⟨hat.nodup, hok.1, fun a ha b hb e => hnot a ha (by rw [e]; exact (hok.2 b hb).1)⟩
    have hperm := srt_perm all
    refine ds_wk hw (ds_frz (i := 6) (sl := .ownN dd) rfl rfl rfl (ds_one (d_ret (d := .list [bookD B, pnD n os, rowD ⟨us⟩, bookD T, pnD N (srt all)]) (de_lst (da_cons (dv 1) (da_cons (dv 2) (da_cons (dv 3) (da_cons (de_eq (de_c c6 (hr.mono (by decide)) (da_cons (d := .dict (strD [(("size" : Str), .int (B.size : Nat)), (("ties" : Str), .dict (tiesE B.ties))])) (dv 1) (da_cons (de_str (x := "ties")) (da_cons (dv 4) da_nil))) ⟨_, _, _, rfl, (fun h => nomatch h), (show (["size", "ties"] : List Str).Nodup by decide), (show 2 ≤ 1000 by decide), rfl⟩) with_pair)
      (da_cons (de_eq (de_c c6 (hr.mono (by decide)) (da_cons (d := .dict (strD [(("size" : Str), .int (N : Nat)), (("ties" : Str), .tuple (tiesD ts))])) (dv 5) (da_cons (de_str (x := "ties")) (da_cons (de_callTy call_tuple_of rdc_tupleL rfl (M.fr 4) (by decide +kernel) (da_cons (de_callB (crD_sortT (α := Tie) (hu64 hr) (by decide)) (rdc_sortT (bs := all) (sort_ties _)) rfl (M.fr 5) (by decide +kernel) (da_cons (de_eq (de_op op_catA (rd_catT (szl ?_)) (pn_ties (hu1 hr) (dv 5)) (de_callTy (call_tupN rfl) (rdc_tupN (isDn_of hkeys)) rfl (M.fr 4) (by decide +kernel) (da_cons (dv 6) da_nil))) ?_) da_nil)) da_nil)) da_nil))) ⟨_, _, _, rfl, (fun h => nomatch h), (show (["size", "ties"] : List Str).Nodup by decide), (show 2 ≤ 1000 by decide), rfl⟩) with_pair) da_nil))))) (show 5 ≤ sizeLine by decide)) ?_)))
    · rw [List.length_map]
      have := congrArg List.length (show dd.map (·.1) = fs.map Datum.toD from hkeys)
      rw [List.length_map, List.length_map] at this
      rw [List.length_map]
      omega
    · rw [show dd.map (·.1) = fs.map Datum.toD from hkeys]
      show PyData.tuple (List.map _ ts ++ List.map _ fs) = PyData.tuple (List.map _ (ts ++ fs))
      rw [List.map_append]
      rfl
    · refine ⟨B, n, os, ⟨us⟩, N, srt all, ⟨hB, hs2, hbase, hn1, hn3, hfo, hao, hlo, hun, hue, huv, hN, fun t ht => ?_, srt_asc hnd, ?_, ?_⟩, rfl⟩
      · rcases List.mem_append.mp (srt_mem.mp ht) with h | h
        · exact .inl ⟨hnot t h, hft t h⟩
        · exact .inr (hok.2 t h)
      · rw [(foundL_perm hperm toldN).length_eq]
        unfold foundL
        rw [List.filter_append, List.length_append]
        have h1 : (fs.filter fun t => !decide (t.1 = toldN)) = [] := List.filter_eq_nil_iff.mpr fun t ht => by simp [(hok.2 t ht).1]
        rw [h1]
        exact Nat.le_trans (List.length_filter_le _ _) hlt
      · rw [(replL_perm hperm toldN).length_eq]
        unfold replL
        rw [List.length_map, List.filter_append, List.length_append]
        have h1 : (ts.filter fun t => decide (t.1 = toldN)) = [] := List.filter_eq_nil_iff.mpr fun t ht => by simpa using hnot t ht
        rw [h1, List.length_nil, Nat.zero_add]
        exact Nat.le_trans (List.length_filter_le _ _) hlen
end
end K64

/-! ## W8 -/
/-! is_net: repr of nets. -/
namespace K64
open PySem PySem.Spec PyProof.Rows L2 PySem.W
theorem wt_nat {n : Nat} (h : n < 64) : (PyData.int (n : Nat)).weight ≤ 6 := by
  show (if ((n : Nat) : Int) == 0 then 0 else ((n : Nat) : Int).natAbs.log2 + 1) ≤ 6
  split
  · omega
  · rename_i h0
    have h1 : n ≠ 0 := by intro e; rw [e] at h0; exact h0 rfl
    have : n.log2 < 6 := (Nat.log2_lt h1).mpr h
    show n.log2 + 1 ≤ 6
    omega
theorem wt_row : ∀ (l : List Nat), (∀ n ∈ l, n < 64) → PyData.weightAll (l.map fun n => .int (n : Nat)) ≤ 7 * l.length
  | [], _ => Nat.le_refl _
  | n :: l, h => by
    have h1 := wt_nat (h n List.mem_cons_self)
    have h2 := wt_row l fun m hm => h m (List.mem_cons_of_mem _ hm)
    rw [List.map_cons, PyData.weightAll, List.length_cons]
    omega
theorem wt_tie {n : Nat} (hn : n ≤ 60) {t : Tie} (h : TieOk n t) : (tieD t).weight ≤ 31 := by
  obtain ⟨⟨_, h1, _⟩, _, h2, h3⟩ := h
  have hr := wt_row t.2.items fun m hm => by have := h3 m hm; omega
  show t.1.cps.size + 1 + (PyData.weightAll (t.2.items.map fun n => .int (n : Nat)) + 1 + 0) ≤ 31
  have : t.1.cps.size ≤ 8 := h1
  omega
theorem wt_ties {n : Nat} (hn : n ≤ 60) : ∀ (ts : List Tie), (∀ t ∈ ts, TieOk n t) → PyData.weightAll (tiesD ts) ≤ 32 * ts.length
  | [], _ => Nat.le_refl _
  | t :: ts, h => by
    have h1 := wt_tie hn (h t List.mem_cons_self)
    have h2 := wt_ties hn ts fun m hm => h m (List.mem_cons_of_mem _ hm)
    show (tieD t).weight + 1 + PyData.weightAll (tiesD ts) ≤ _
    rw [List.length_cons]
    omega
theorem char_ok {x : Str} (h : NameOk x) : ∀ c ∈ x.cps.toList, c < 16 ^ 8 := fun c hc => by
  have h1 := (h.2.2 c hc).2
  have h2 : ¬ (("z" : Str).cps.toList < [c]) := by simpa using h1
  have h3 : ("z" : Str).cps.toList = [122] := by decide +kernel
  rw [h3] at h2
  rcases Nat.lt_or_ge 122 c with h | h
  · exact absurd (List.Lex.rel h) h2
  · have e : (16 : Nat) ^ 8 = 4294967296 := by decide
    omega
theorem ls_nats : ∀ (l : List Nat), (∀ n ∈ l, n < 64) → PyData.leavesShortAll 13 (l.map fun n => .int (n : Nat)) = true
  | [], _ => rfl
  | n :: l, h => by
    rw [List.map_cons, PyData.leavesShortAll, ls_nats l fun m hm => h m (List.mem_cons_of_mem _ hm), Bool.and_true]
    have := PyData.shown_int_le (i := ((n : Nat) : Int)) (by have := h n List.mem_cons_self; omega)
    exact decide_eq_true this
theorem ls_ties {n : Nat} (hn : n ≤ 60) : ∀ (ts : List Tie), (∀ t ∈ ts, TieOk n t) → PyData.leavesShortAll 13 (tiesD ts) = true
  | [], _ => rfl
  | t :: ts, h => by
    obtain ⟨h1, _, _, h3⟩ := h t List.mem_cons_self
    show (PyData.leavesShort 13 (tieD t) && PyData.leavesShortAll 13 (tiesD ts)) = true
    rw [ls_ties hn ts fun m hm => h m (List.mem_cons_of_mem _ hm), Bool.and_true]
    show (PyData.leavesShort 13 (.str t.1) && (PyData.leavesShortAll 13 (t.2.items.map fun n => .int (n : Nat)) && true)) = true
    rw [ls_nats t.2.items fun m hm => by have := h3 m hm; omega]
    simp only [PyData.leavesShort, Bool.and_true, List.all_eq_true, decide_eq_true_eq]
    exact char_ok h1
theorem sh_nats : ∀ (l : List Nat), (∀ n ∈ l, n < 64) → PyData.showableAll (l.map fun n => .int (n : Nat)) = true
  | [], _ => rfl
  | n :: l, h => by
    rw [List.map_cons, PyData.showableAll, sh_nats l fun m hm => h m (List.mem_cons_of_mem _ hm), Bool.and_true]
    refine decide_eq_true ?_
    show n.log2 < 1920
    have h1 := h n List.mem_cons_self
    have : n.log2 ≤ n := Nat.log2_le_self n
    omega
theorem sh_ties {n : Nat} (hn : n ≤ 60) : ∀ (ts : List Tie), (∀ t ∈ ts, TieOk n t) → PyData.showableAll (tiesD ts) = true
  | [], _ => rfl
  | t :: ts, h => by
    obtain ⟨h1, _, _, h3⟩ := h t List.mem_cons_self
    show (PyData.showable (tieD t) && PyData.showableAll (tiesD ts)) = true
    rw [sh_ties hn ts fun m hm => h m (List.mem_cons_of_mem _ hm), Bool.and_true]
    show (PyData.showable (.str t.1) && (PyData.showableAll (t.2.items.map fun n => .int (n : Nat)) && true)) = true
    rw [sh_nats t.2.items fun m hm => by have := h3 m hm; omega]
    rfl
theorem nd_nats : ∀ (l : List Nat), PyData.hasDictAll (l.map fun n => .int (n : Nat)) = false
  | [] => rfl
  | n :: l => by
    rw [List.map_cons, PyData.hasDictAll, nd_nats l]
    rfl
theorem nd_ties : ∀ (ts : List Tie), PyData.hasDictAll (tiesD ts) = false
  | [] => rfl
  | t :: ts => by
    show (PyData.hasDict (tieD t) || PyData.hasDictAll (tiesD ts)) = false
    rw [nd_ties ts, Bool.or_false]
    show (PyData.hasDict (.str t.1) || (PyData.hasDictAll (t.2.items.map fun n => .int (n : Nat)) || false)) = false
    rw [nd_nats]
    rfl
/-- what is shown of a net -/
abbrev netL (n : Nat) (ts : List Tie) : List PyData := [.int (n : Nat), .tuple (tiesD ts)]
theorem net_fits {n : Nat} {ts : List Tie} (h : NetOk n ts) : (PyData.list (netL n ts)).shown.length ≤ sizeLine := by
  obtain ⟨h1, h2, _, h4⟩ := h
  refine PyData.shown_fits (B := 13) (by decide) (by decide) ?_ ?_
  · show (PyData.leavesShort 13 (.int (n : Nat)) && (PyData.leavesShortAll 13 (tiesD ts) && true)) = true
    rw [ls_ties h1 ts h2]
    have := PyData.shown_int_le (i := ((n : Nat) : Int)) (by omega)
    simp only [PyData.leavesShort, Bool.and_true]
    exact decide_eq_true this
  · have e : (2 : Nat) ^ 20 = 1048576 := by decide
    have a := wt_nat (n := n) (by omega)
    have b := wt_ties h1 ts h2
    show (PyData.int (n : Nat)).weight + 1 + (PyData.weightAll (tiesD ts) + 1 + 0) ≤ 2 ^ 20
    omega
theorem net_plain (n : Nat) (ts : List Tie) : PyData.plain (.list (netL n ts)) = true := by
  show (PyData.plain (.int (n : Nat)) && (PyData.plain (.tuple (tiesD ts)) && true)) = true
  rw [plain_ties]
  rfl
theorem net_show {n : Nat} {ts : List Tie} (h : NetOk n ts) : PyData.showable (.list (netL n ts)) = true := by
  obtain ⟨h1, h2, _, h4⟩ := h
  show (PyData.showable (.int (n : Nat)) && (PyData.showableAll (tiesD ts) && true)) = true
  rw [sh_ties h1 ts h2]
  have : PyData.showable (.int ((n : Nat) : Int)) = true := by
    refine decide_eq_true ?_
    show n.log2 < 1920
    have : n.log2 ≤ n := Nat.log2_le_self n
    omega
  rw [this]
  rfl
theorem net_nd (n : Nat) (ts : List Tie) : PyData.hasDict (.list (netL n ts)) = false := by
  show (PyData.hasDict (.int (n : Nat)) || (PyData.hasDictAll (tiesD ts) || false)) = false
  rw [nd_ties]
  rfl
theorem net_depth (n : Nat) (ts : List Tie) : PyData.depth (.list (netL n ts)) ≤ 60 := by
  have h := Datum.depth_le (⟨ts⟩ : Tup Tie)
  have h' : (PyData.tuple (tiesD ts)).depth ≤ Datum.depth (Tup Tie) := h
  have e : Datum.depth (Tup Tie) ≤ 10 := by decide
  show PyData.depthAll (netL n ts) + 1 ≤ 60
  have e2 : PyData.depthAll (netL n ts) = max (PyData.depth (.int (n : Nat))) (max (PyData.tuple (tiesD ts)).depth 0) := rfl
  rw [e2, show PyData.depth (.int ((n : Nat) : Int)) = 0 from rfl]
  omega
def R_isNet (ds : List PyData) (d : PyData) : Prop := ∃ (n : Nat) (ts : List Tie), ds = [netD (n : Nat) (tiesD ts), pnD n ts] ∧ NetOk n ts ∧ d = .bool true
section
variable {P : Program} {w : World} {K : PySem.W.Frag} {mg : Str → Option Value} {base : Heap}
theorem cal_is_net (M : Md K mg) : CalG P w K mg base 3 "_law_is_net" ["_law_made", "_law_plain"] (spD w K R_isNet) := M.calG 34 rfl (fun _ _ _ _ _ _ us hl => match us, hl with | [_, _], _ => rfl) fun f fd F => by
  refine fnGD F sc_is_net (fun ds d ⟨_, _, h, _⟩ => by rw [h]; rfl) fun cdv A outer s H E hg hr ds d h => ?_
  obtain ⟨n, ts, rfl, h1, rfl⟩ := h
  obtain ⟨fd1, F1⟩ := M.fsize
  obtain ⟨fd2, F2⟩ := M.fties
  have b1 : Binds K fd1 ["self"] [] := F1.binds fun _ _ _ _ _ _ us hl => match us, hl with | [_], _ => rfl
  have b2 : Binds K fd2 ["self"] [] := F2.binds fun _ _ _ _ _ _ us hl => match us, hl with | [_], _ => rfl
  have rr : RDC w K (rRepr w K) [.list (netL n ts)] (.str (PyData.list (netL n ts)).shown) := rdc_repr (net_plain n ts) (net_show h1) (net_nd n ts) (net_depth n ts) (net_fits h1)
  refine ds_one (d_ret (de_eq (de_cmp op_eq rd_eqS (de_callB (call_reprD hg (hu64 hr)) rr rfl (M.fr 15) (by decide +kernel) (da_cons (de_lst (da_cons (de_prop M.nk M.psize (ok_size M F1) (hr.mono (by decide)) b1 (dv 0) ⟨_, _, rfl, rfl⟩ pass0) (da_cons (de_prop M.nk M.pties (ok_ties M F2) (hr.mono (by decide)) b2 (dv 0) ⟨_, _, rfl, rfl⟩ pass0) da_nil)) (show 2 ≤ sizeLine by decide)) da_nil))
    (de_callB (call_reprD hg (hu64 hr)) rr rfl (M.fr 15) (by decide +kernel) (da_cons (de_lst (da_cons (pn_size (hu1 hr) (dv 1)) (da_cons (pn_ties (hu1 hr) (dv 1)) da_nil)) (show 2 ≤ sizeLine by decide)) da_nil)) (nomark _)) (by rw [decide_eq_true rfl])) rfl)
end
end K64

/-! ## W26 -/
/-! Walks: cell_right, law; what of the case is asked in plain mathematics. -/
namespace K64
open PySem PySem.Spec PyProof.Rows L2 PySem.W
def dueN (N : Nat) (ts : List Tie) (n : Nat) (us : Row) : Nat := spSize N ts toldN n us
def dueT (N : Nat) (ts : List Tie) (n : Nat) (os : List Tie) (us : Row) : List Tie := spTies N ts toldN n os us
def takeR (k : Nat) (r : Row) : Row := ⟨r.items.take k⟩
structure CaseM (B : Bk) (n : Nat) (os : List Tie) (us : Row) (N : Nat) (ts : List Tie) : Prop where
  netN : NetOk N ts
  netO : NetOk n os
  netD : NetOk (dueN N ts n us) (dueT N ts n os us)
  fitD : FitB B (dueN N ts n us) (dueT N ts n os us)
  okT : BkOk (toldB B n os us)
  fitT : FitB (toldB B n os us) N ts
  dl : dueN N ts n us ≤ 15
  dp : ∀ k, k ≤ dueN N ts n us → B.size ^ k ≤ 50000
  dt : (dueT N ts n os us).length ≤ 1000
  np : B.size ^ N ≤ 27
  fill : sset ((fillL B (dueT N ts n os us) (dueN N ts n us)).map (takeR N)) = fillL (toldB B n os us) ts N
  left : ∀ u, u < N → ∀ v ∈ (listsOf (toldB B n os us) N ts).getD u [], v ∈ (listsOf B (dueN N ts n us) (dueT N ts n os us)).getD u []
  dec : (∃ l, PartC B (setNetN B) l) → ([] ∈ listsOf B (dueN N ts n us) (dueT N ts n os us) ↔ [] ∈ listsOf (toldB B n os us) N ts)
def MathOk : Prop := ∀ (B : Bk) (n : Nat) (os : List Tie) (us : Row) (N : Nat) (ts : List Tie), CaseOk B n os us N ts → CaseM B n os us N ts
theorem lists_mem {L : List (List Nat)} : decide ((⟨[]⟩ : Row) ∈ L.map Tup.mk) = decide ([] ∈ L) := by
  refine decide_eq_decide.mpr ?_
  rw [List.mem_map]
  refine ⟨fun ⟨l, h1, h2⟩ => ?_, fun h => ⟨[], h, rfl⟩⟩
  have : l = [] := congrArg Tup.items h2
  rw [← this]
  exact h1
theorem listsOf_len {B : Bk} {n : Nat} {ts : List Tie} : (listsOf B n ts).length = n := known_len
section
variable {P : Program} {w : World} {K : PySem.W.Frag} {mg : Str → Option Value} {base : Heap}
theorem cal_cell (M : Md K mg) (HM : MathOk) (c1 : Cal P w K mg base 5 "_law_case" ["_law_sack_here"] (spK w K (fun ds => ds = []) (fun _ d => CaseR d))) (c2 : Cal P w K mg base 1 "_law_spelled" ["_law_net_here", "_law_name", "_law_other", "_law_places"] (spD w K R_spelt)) (c3 : Cal P w K mg base 9 "_law_made_net" ["_law_net_here"] (spD w K R_made)) (c4 : Cal P w K mg base 9 "spelled_out" ["net", "name", "other", "unknowns"] (spD w K R_spelled))
    (c5 : CalG P w K mg base 3 "_law_is_net" ["_law_made", "_law_plain"] (spD w K R_isNet)) (c6 : Cal P w K mg base 1 "_law_fits_book" ["_law_book_here", "_law_net_here"] (spD w K R_fits)) (c7 : Cal P w K mg base 1 "_law_fillings_of" ["_law_book_here", "_law_net_here"] (spD w K R_fill)) (c8 : Cal P w K mg base 3 "_law_lists_of" ["_law_book_here", "_law_net_here"] (spD w K R_lists))
    (c9 : ∀ {B : Bk}, BkF B → Cal P w K mg base 5 "_law_is_decided_one" ["_law_book_here"] (spE w K (fun ds => ds = [bookD B]) (fun _ d => CRes B d))) :
    CalG P w K mg base 10 "_law_cell_right" ["_law_sack_here"] (spK w K (fun ds => ds = []) (fun _ d => d = .bool true)) := M.calG 41 rfl (fun _ _ _ _ _ _ us hl => match us, hl with | [_], _ => rfl) fun f fd F => by
  refine fnGK F sc_cell_right (fun ds h => by rw [h]; rfl) fun cdv A outer s H E hg hr ds h => ?_
  subst h
  let ρ0 : Sls := iniK n_cell_right []
  refine ds_cons (M := fun r => ∃ (B : Bk) (n : Nat) (os : List Tie) (us : Row) (N : Nat) (ts : List Tie), CaseOk B n os us N ts ∧ r = [.sck, .dat (bookD B), .dat (pnD n os), .dat (rowD us), .dat (bookD (toldB B n os us)), .dat (pnD N ts), .non, .non, .non, .non, .non, .non, .non, .non, .non])
    (d1_unpL (is := [1, 2, 3, 4, 5]) (P := fun d r => CaseR d ∧ r = ρ0) rfl (ex_imp (ex_c c1 (hr.mono (by decide)) (pv 0) rfl (xa_nil (P := fun x r => x = [] ∧ r = ρ0) ⟨rfl, rfl⟩) (fun ds r ⟨e1, _⟩ => e1)) fun d r ⟨ds, ⟨_, e2⟩, e⟩ => ⟨e, e2⟩)
      (pgs_cons (pn 1 sc_cell_right.nd) (pgs_cons (pn 2 sc_cell_right.nd) (pgs_cons (pn 3 sc_cell_right.nd) (pgs_cons (pn 4 sc_cell_right.nd) (pgs_cons (pn 5 sc_cell_right.nd) pgs_nil))))) fun d r ⟨⟨B, n, os, us, N, ts, h, e⟩, e2⟩ => ⟨_, e, rfl, B, n, os, us, N, ts, h, by rw [e2]; rfl⟩) ?_
  rintro r ⟨B, n, os, us, N, ts, hc, rfl⟩
  have hm := HM B n os us N ts hc
  let T := toldB B n os us
  let D := dueN N ts n us
  let dts := dueT N ts n os us
  have hu3 : us.items.length ≤ n := Nat.le_trans (nodup_len (m := List.range n) hc.un fun u hu => List.mem_range.mpr (hc.uv u hu)) (by rw [List.length_range]; exact Nat.le_refl _)
  have hul1 : 1 ≤ us.items.length := by
    cases e : us.items with
    | nil => exact absurd e hc.ue
    | cons a l => rw [List.length_cons]; omega
  have hn3 := hc.n3
  have hs2 := hc.s2
  have hs3 := hc.bk.ok.size
  have hN6 := hc.N6
  have hrl : ∀ p ∈ replL ts toldN, p.items.length = us.items.length := fun p hp => by
    obtain ⟨t, ht, rfl⟩ := List.mem_map.mp hp
    have h2 := of_decide_eq_true (List.mem_filter.mp ht).2
    rcases hc.ties t (List.mem_filter.mp ht).1 with h | h
    · exact absurd h2 h.1
    · exact h.2.1
  have hcount : (foundL ts toldN).length + (replL ts toldN).length * os.length ≤ 60 := by
    have := hc.few
    have h2 : (replL ts toldN).length * os.length ≤ 3 * 3 := Nat.mul_le_mul (by have := hc.told; omega) hc.lo
    omega
  have hos3 : ∀ t ∈ os, t.2.items.length ≤ 3 ∧ ∀ u ∈ t.2.items, u < n := fun t ht => ⟨(hc.bk.ok.tie _ _ _ (hc.fo t ht).1).2.1, (hc.fo t ht).2⟩
  have htl : ts.length ≤ 1000 := by
    have h1 : ts.length = (foundL ts toldN).length + (replL ts toldN).length := by
      unfold foundL replL
      rw [List.length_map]
      clear hcount hrl hm
      generalize ts = l
      induction l with
      | nil => rfl
      | cons a l ih =>
        by_cases e : a.1 = toldN
        · rw [List.filter_cons_of_neg (by simpa using e), List.filter_cons_of_pos (by simpa using e), List.length_cons, List.length_cons]
          omega
        · rw [List.filter_cons_of_pos (by simpa using e), List.filter_cons_of_neg (by simpa using e), List.length_cons, List.length_cons]
          omega
    have := hc.few
    have := hc.told
    omega
  have hol : os.length ≤ 1000 := by have := hc.lo; omega
  have htold : NameOk toldN := by unfold NameOk; decide
  let ρ1 : Sls := [.sck, .dat (bookD B), .dat (pnD n os), .dat (rowD us), .dat (bookD T), .dat (pnD N ts), .dat (pnD D dts), .non, .non, .non, .non, .non, .non, .non, .non]
  refine ds_then (ρ' := ρ1) (d_let 6 (d := pnD D dts) sc_cell_right.nd (de_c c2 (hr.mono (by decide)) (da_cons (dv 5) (da_cons (de_str (x := toldN)) (da_cons (dv 2) (da_cons (dv 3) da_nil)))) ⟨N, ts, toldN, n, os, us, rfl, hc.un, hc.ue, by omega, hc.uv, by omega, by omega, hrl, hos3, htl, hol, hcount, rfl⟩)) ?_
  let ρ2 : Sls := ρ1.set 7 (.dat (netD (D : Nat) (tiesD dts)))
  refine ds_then (ρ' := ρ2) (d_let 7 (d := netD (D : Nat) (tiesD dts)) sc_cell_right.nd (de_c c4 (hr.mono (by decide)) (da_cons (de_c c3 (hr.mono (by decide)) (da_cons (dv 5) da_nil) ⟨N, ts, rfl, hm.netN, rfl⟩) (da_cons (de_str (x := toldN)) (da_cons (de_c c3 (hr.mono (by decide)) (da_cons (dv 2) da_nil) ⟨n, os, rfl, hm.netO, rfl⟩) (da_cons (dv 3) da_nil))))
    ⟨N, ts, toldN, n, os, us, rfl, ⟨htold, hm.netN, hm.netO, ⟨hul1, by omega, hc.uv⟩, hc.un, hu3, hrl, by omega, hm.netD⟩, rfl⟩)) ?_
  refine ds_then (ρ' := ρ2) (d1_ifF (r := ρ2) (tx_of (dt_eq (DW.dt (dw_or (dt_not (k := true) (dt_val (de_cG c5 hg (hr.mono (by decide)) (da_cons (dv 7) (da_cons (dv 6) da_nil)) ⟨D, dts, rfl, hm.netD, rfl⟩))) (fun _ => dw_or1 (dt_not (k := true) (dt_val (de_c c6 (hr.mono (by decide)) (da_cons (dv 1) (da_cons (dv 6) da_nil)) ⟨B, D, dts, rfl, hm.fitD, hc.bk.ne, hm.dt, fun t ht => (hc.bk.ok.tie _ _ _ (hm.fitD t ht).1).2.1, rfl⟩)))))) rfl)) (ds_nil rfl)) ?_
  let wide := fillL B dts D
  let short := fillL T ts N
  let ρ3 : Sls := (ρ2.set 8 (.dat (.list (rowsD wide)))).set 9 (.dat (.list (rowsD short)))
  refine ds_cons (M := fun r => r = ρ3) (d1_parXX (i := 8) (j := 9) (Pa := Is (.list (rowsD wide)) ρ2) (Pb := fun _ => Is (.list (rowsD short)) ρ2) (fun ta ha => ps_par rfl sc_cell_right.nd rfl rfl (by decide) rfl rfl ha rfl)
    (ex_of (de_c c7 (hr.mono (by decide)) (da_cons (dv 1) (da_cons (dv 6) da_nil)) ⟨B, D, dts, rfl, hc.bk.ok, hm.fitD, hm.dl, hm.dt, hm.dp, rfl⟩)) (fun da r h => by
      obtain ⟨_, rfl⟩ := h
      exact ex_of (de_c c7 (hr.mono (by decide)) (da_cons (dv 4) (da_cons (dv 5) da_nil)) ⟨T, N, ts, rfl, hm.okT, hm.fitT, by omega, htl, fun k hk => pow3 hs3 (by omega) hk, rfl⟩))
    (fun da r db r' h h' => by
      obtain ⟨rfl, _⟩ := h
      obtain ⟨rfl, rfl⟩ := h'
      rfl)) fun r hr0 => ?_
  subst hr0
  have hwl : wide.length ≤ 50000 := Nat.le_trans (fillL_len B dts D) (hm.dp _ (Nat.le_refl _))
  have hval : ∀ (C : Bk) (l : List Tie) (k : Nat) (r : Row), r ∈ fillL C l k → ∀ v ∈ r.items, v < C.size := by
    intro C l k
    induction k with
    | zero =>
      intro r h v hv
      rw [fillL, List.mem_singleton] at h
      rw [h] at hv
      cases hv
    | succ k ih =>
      intro r h v hv
      obtain ⟨q, h1, h2⟩ := List.mem_flatMap.mp h
      obtain ⟨u, hu, rfl⟩ := List.mem_map.mp h2
      rcases List.mem_append.mp hv with h | h
      · exact ih q h1 v h
      · rw [List.mem_singleton] at h
        rw [h]
        exact List.mem_range.mp (List.mem_filter.mp hu).1
  have hND : N ≤ D := Nat.le_add_right _ _
  have hpre : ∀ r ∈ wide.map (takeR N), RowIn B.size N r := fun r hr' => by
    obtain ⟨q, hq, rfl⟩ := List.mem_map.mp hr'
    refine ⟨?_, fun v hv => hval B dts D q hq v (List.mem_of_mem_take hv)⟩
    show (q.items.take N).length = N
    rw [List.length_take, fillL_row D q hq]
    omega
  have hfew : Few (wide.map (takeR N)) := fun l hnd hl => by
    have h1 := nodup_len (m := rowsOf B.size N) hnd fun r hr' => by
      have := hpre r (hl r hr')
      exact List.mem_map.mpr ⟨r.items, allRows_has B.size N _ this.1 this.2, rfl⟩
    unfold rowsOf at h1
    rw [List.length_map, allRows_len] at h1
    have := hm.np
    omega
  refine ds_then (ρ' := ρ3) (d1_ifF (r := ρ3) (tx_of (dt_eq (dt_cmp (opD_ne (α := List Row) (hu64 hr) (by decide)) (rd_neD2 (a := sset (wide.map (takeR N))) (b := short)) (de_sset (α := Row) (bs := wide.map (takeR N)) rfl (hu64 hr) (by decide) rfl (M.fr 5) rfl (M.fr 7) (de_eq (de_map wide rowD (fun r => rowD (takeR N r)) _ rfl sc_cell_right.nd (di_list (dv 8)) (own := [("_law_one", 14)]) (blk_of rfl) (fun _ _ _ _ _ => pn 14 sc_cell_right.nd) (szl (by omega)) (fun a _ => tg_name (by decide))
      (fun _ _ _ _ _ r _ => de_eq (de_takeT (dv 14) (pn_size (hu1 hr) (dv 5))) (congrArg PyData.tuple List.map_take.symm))) (by rw [List.map_map]; rfl)) hfew (fun l hnd hl => ?_)) (dv 9) (nomark _)) (by rw [hm.fill, decide_eq_true rfl]; rfl))) (ds_nil rfl)) ?_
  · by_cases h0 : N = 0
    · have hall : ∀ r ∈ l, r = ⟨[]⟩ := fun r hr' => by
        have h1 := (hpre r ((hl r).mp hr')).1
        obtain ⟨its⟩ := r
        have h1 : its.length = N := h1
        rw [h0] at h1
        rw [List.eq_nil_of_length_eq_zero h1]
      cases l with
      | nil => exact .inl (.inl fun _ h => nomatch h)
      | cons a l =>
        have ha := hall a List.mem_cons_self
        subst ha
        refine .inr ⟨l.map Datum.toD, rfl, fun d hd => ?_⟩
        obtain ⟨r, _, rfl⟩ := List.mem_map.mp hd
        exact ⟨_, rfl⟩
    · exact sort_rows (places := N) (by omega) fun r hr' => (hpre r ((hl r).mp hr')).1
  let left := listsOf B D dts
  let there := listsOf T N ts
  let ρ4 : Sls := (ρ3.set 10 (.dat (.tuple (left.map fun l => rowD ⟨l⟩)))).set 11 (.dat (.tuple (there.map fun l => rowD ⟨l⟩)))
  refine ds_cons (M := fun r => r = ρ4) (d1_parXX (i := 10) (j := 11) (Pa := Is (.tuple (left.map fun l => rowD ⟨l⟩)) ρ3) (Pb := fun _ => Is (.tuple (there.map fun l => rowD ⟨l⟩)) ρ3) (fun ta ha => ps_parC rfl sc_cell_right.nd rfl rfl (by first | exact Or.inl rfl | exact Or.inr rfl) (by first | exact Or.inl rfl | exact Or.inr rfl) ha rfl)
    (ex_of (de_c c8 (hr.mono (by decide)) (da_cons (dv 1) (da_cons (dv 6) da_nil)) ⟨B, D, dts, rfl, hc.bk.ok, hm.fitD, hm.dl, hm.dt, rfl⟩)) (fun da r h => by
      obtain ⟨_, rfl⟩ := h
      exact ex_of (de_c c8 (hr.mono (by decide)) (da_cons (dv 4) (da_cons (dv 5) da_nil)) ⟨T, N, ts, rfl, hm.okT, hm.fitT, by omega, htl, rfl⟩))
    (fun da r db r' h h' => by
      obtain ⟨rfl, _⟩ := h
      obtain ⟨rfl, rfl⟩ := h'
      rfl)) fun r hr0 => ?_
  subst hr0
  have hrow : ∀ {L : List (List Nat)} {u : Nat}, u < L.length → atI (L.map fun l => rowD ⟨l⟩) ((u : Nat) : Int) = some (rowD ⟨L.getD u []⟩) := fun {L u} h => atI_nat (by
    rw [List.getElem?_map, List.getElem?_eq_getElem h, List.getD_eq_getElem?_getD, List.getElem?_eq_getElem h]
    rfl)
  have hkl : ∀ {C : Bk} {k : Nat} {l : List Tie} {u : Nat}, ((listsOf C k l).getD u []).length ≤ C.size := fun {C k l u} => by
    by_cases h : u < k
    · unfold listsOf
      rw [known_get h]
      exact Nat.le_trans (List.length_filter_le _ _) (by rw [List.length_range]; exact Nat.le_refl _)
    · rw [List.getD_eq_getElem?_getD, List.getElem?_eq_none (by rw [listsOf_len]; omega)]
      exact Nat.zero_le _
  refine ds_cons (M := fun r => WeakL r ρ4) (d1_for (List.range N) (fun (i : Nat) => .int (i : Nat)) (fun _ r => WeakL r ρ4) PassesOwn.never rfl (di_range rfl (M.fr 9) (da_cons (pn_size (hu1 hr) (dv 5)) da_nil) (by omega)) (pn 12 sc_cell_right.nd) (WeakL.refl _) (fun i u r hiu hw => ?_) fun r h => h) fun r hw => ?_
  · have hi := List.getElem?_eq_some_iff.mp hiu
    have eu : u = i := by rw [← hi.2]; simp
    subst eu
    have hun : u < N := by have := hi.1; simpa using this
    let ρ5 : Sls := ρ4.set 12 (.dat (.int (u : Nat)))
    refine ⟨ρ5, fun x σ F G H Q S dx q => tgs_name x σ F G H Q (S.weak hw.weak.1 hw.weak.2) dx q, ?_⟩
    have hz : ((there.getD u []).filter fun v => !decide (v ∈ left.getD u [])) = [] := List.filter_eq_nil_iff.mpr fun v hv => by
      have := hm.left u hun v hv
      simpa using this
    refine ds_one (d1_ifF (r := ρ5) (tx_of (dt_eq (dt_cmp (opD_ne (α := List Nat) (hu64 hr) (by decide)) (rd_neD2 (a := (there.getD u []).filter fun v => !decide (v ∈ left.getD u [])) (b := [])) (de_lc (there.getD u []) (fun (v : Nat) => .int (v : Nat)) (fun v => !decide (v ∈ left.getD u [])) (fun (v : Nat) => .int (v : Nat)) _ rfl sc_cell_right.nd (di_tup (de_ix ix_tup (rd_ixT (hrow (L := there) (u := u) (by rw [listsOf_len]; exact hun))) (dv 11) (dv 12) (fun _ _ => rfl))) (own := [("_law_value", 13)]) (blk_of rfl) (fun _ _ _ _ _ => pn 13 sc_cell_right.nd) (szl (by have h8 : (there.getD u []).length ≤ B.size := hkl (C := T) (k := N) (l := ts) (u := u); omega)) (fun a _ => tg_name (by decide))
      (fun _ _ _ _ _ v _ => pts_if (dt_cmp (opD_notIn (α := Nat) (hu64 hr) (by decide)) (rd_ninT (a := v) (bs := left.getD u [])) (dv 13) (de_ix ix_tup (rd_ixT (hrow (L := left) (u := u) (by rw [listsOf_len]; omega))) (dv 10) (dv 12) (fun _ _ => rfl)) rfl)) (fun _ _ _ _ _ v _ _ => dv 13)) (de_lst da_nil (by decide)) (nomark _)) (by rw [hz]; rfl))) (ds_nil ?_))
    exact .same (.same (.same (.same (.same (.same (.same (.same (.same (.same (.same (.same (.non (.same (.same .nil))))))))))))))
  · have he : EX (cxN P w K mg base n_cell_right "_law_cell_right" s_cell_right f cdv A outer s H E) (match (defBody s_cell_right) with | _ :: _ :: _ :: _ :: _ :: _ :: _ :: _ :: .If c _ _ _ :: _ => c | _ => .Constant .none 0 ⟨0, 0, 0, 0⟩) ρ4 (fun d r => CRes B d ∧ r = ρ4) := ex_imp (ex_e (c9 hc.bk) (hr.mono (by decide)) (da_cons (d := bookD B) (dv 1) da_nil) rfl) (fun d r h => h)
    have hcond : TX (cxN P w K mg base n_cell_right "_law_cell_right" s_cell_right f cdv A outer s H E) (match (defBody s_cell_right) with | _ :: _ :: _ :: _ :: _ :: _ :: _ :: _ :: .If c _ _ _ :: _ => c | _ => .Constant .none 0 ⟨0, 0, 0, 0⟩) ρ4 (fun k r => (k = true → ∃ l, PartC B (setNetN B) l) ∧ r = ρ4) :=
      tx_imp (tx_val he (fun d r ⟨⟨k, e, _⟩, _⟩ => ⟨k, e⟩)) fun k r ⟨⟨k', e, h⟩, e2⟩ => ⟨fun hk => h (by injection e with e; rw [← e]; exact hk), e2⟩
    refine ds_wk hw (ds_cons (M := fun r => r = ρ4) (d1_if (P := fun k r => (k = true → ∃ l, PartC B (setNetN B) l) ∧ r = ρ4) hcond (fun r ⟨h, e⟩ => ?_) (fun r ⟨_, e⟩ => ds_nil e)) fun r e => ?_)
    · subst e
      have hd := hm.dec (h rfl)
      have hmem : ∀ L : List (List Nat), PyData.tuple (L.map fun l => rowD ⟨l⟩) = .tuple ((L.map Tup.mk).map Datum.toD) := fun L => by rw [List.map_map]; rfl
      refine ds_one (d_ret (de_cmp (opD_eq (α := Bool) (hu64 hr) (by decide)) (rd_eqD2 (a := decide ([] ∈ left)) (b := decide ([] ∈ there))) (de_eq (de_cmp (opD_in (α := Row) (hu64 hr) (by decide)) (rd_inT (a := (⟨[]⟩ : Row)) (bs := left.map Tup.mk)) (de_tup da_nil (by decide)) (de_eq (dv 10) (hmem left)) rfl) (by rw [lists_mem]; rfl)) (de_eq (de_cmp (opD_in (α := Row) (hu64 hr) (by decide)) (rd_inT (a := (⟨[]⟩ : Row)) (bs := there.map Tup.mk)) (de_tup da_nil (by decide)) (de_eq (dv 11) (hmem there)) rfl) (by rw [lists_mem]; rfl)) (nomark _)) ?_)
      rw [decide_eq_true (decide_eq_decide.mpr hd)]
    · subst e
      exact ds_one (d_ret (de_bl (k := true)) rfl)
end
end K64

/-! ## M1 -/
/-! Plain mathematics: fillings, striking. -/
namespace K64
open PySem PySem.Spec PyProof.Rows L2 PySem.W
theorem appR_snoc {l q : Row} {v : Nat} (h : maxR q < l.items.length) : appR (snocR l v) q = appR l q := by
  show (⟨q.items.map _⟩ : Row) = ⟨q.items.map _⟩
  congr 1
  refine List.map_congr_left fun u hu => ?_
  have := maxR_le hu
  show (l.items ++ [v]).getD u 0 = l.items.getD u 0
  rw [List.getD_eq_getElem?_getD, List.getD_eq_getElem?_getD, List.getElem?_append_left (by omega)]
theorem maxR_lt {q : Row} {n : Nat} (h0 : q.items ≠ []) (h : ∀ u ∈ q.items, u < n) : maxR q < n := by
  have go : ∀ (l : List Nat) (a : Nat), a < n → (∀ u ∈ l, u < n) → l.foldl max a < n := by
    intro l
    induction l with
    | nil => exact fun a ha _ => ha
    | cons b l ih =>
      intro a ha hl
      exact ih (max a b) (Nat.max_lt.mpr ⟨ha, hl b List.mem_cons_self⟩) fun u hu => hl u (List.mem_cons_of_mem _ hu)
  obtain ⟨its⟩ := q
  cases its with
  | nil => exact absurd rfl h0
  | cons a l => exact go (a :: l) 0 (Nat.lt_of_le_of_lt (Nat.zero_le a) (h a List.mem_cons_self)) h
def PartF (B : Bk) (ts : List Tie) (k : Nat) (l : Row) : Prop := l.items.length = k ∧ (∀ v ∈ l.items, v < B.size) ∧ ∀ t ∈ ts, maxR t.2 < k → appR l t.2 ∈ rowsAt B t.1
theorem okF_iff {B : Bk} {ts : List Tie} {k : Nat} {l : Row} : okF B ts k l = true ↔ ∀ t ∈ ts, maxR t.2 = k → appR l t.2 ∈ rowsAt B t.1 := by
  unfold okF badF atMax
  rw [decide_eq_true_iff, List.filter_eq_nil_iff]
  refine ⟨fun h t ht hk => ?_, fun h t ht => ?_⟩
  · have := h t (List.mem_filter.mpr ⟨ht, decide_eq_true hk⟩)
    simpa using this
  · have := List.mem_filter.mp ht
    simpa using h t this.1 (of_decide_eq_true this.2)
theorem fillL_mem {B : Bk} {ts : List Tie} : ∀ (k : Nat) (l : Row), l ∈ fillL B ts k ↔ PartF B ts k l
  | 0, l => by
    rw [fillL, List.mem_singleton]
    refine ⟨fun h => ?_, fun h => ?_⟩
    · rw [h]
      exact ⟨rfl, (fun _ h => nomatch h), fun t _ h => absurd h (Nat.not_lt_zero _)⟩
    · obtain ⟨its⟩ := l
      have e : its = [] := List.eq_nil_of_length_eq_zero h.1
      rw [e]
  | k + 1, l => by
    rw [fillL, List.mem_flatMap]
    refine ⟨fun ⟨q, h1, h2⟩ => ?_, fun ⟨h1, h2, h3⟩ => ?_⟩
    · obtain ⟨v, hv, rfl⟩ := List.mem_map.mp h2
      obtain ⟨hq1, hq2, hq3⟩ := (fillL_mem k q).mp h1
      have hv' := List.mem_filter.mp hv
      refine ⟨by show (q.items ++ [v]).length = _; rw [List.length_append, hq1]; rfl, fun u hu => ?_, fun t ht hm => ?_⟩
      · rcases List.mem_append.mp hu with h | h
        · exact hq2 u h
        · rw [List.mem_singleton] at h
          rw [h]
          exact List.mem_range.mp hv'.1
      · by_cases e : maxR t.2 = k
        · exact okF_iff.mp hv'.2 t ht e
        · rw [appR_snoc (by omega)]
          exact hq3 t ht (by omega)
    · obtain ⟨its⟩ := l
      have hne : its ≠ [] := fun e => by rw [e] at h1; cases h1
      have e := List.dropLast_concat_getLast hne
      have hl : its.dropLast.length = k := by rw [List.length_dropLast, h1]; rfl
      have es : (⟨its⟩ : Row) = snocR ⟨its.dropLast⟩ (its.getLast hne) := by show _ = (⟨its.dropLast ++ [its.getLast hne]⟩ : Row); rw [e]
      refine ⟨⟨its.dropLast⟩, (fillL_mem k _).mpr ⟨hl, fun v hv => h2 v ((List.dropLast_sublist its).subset hv), fun t ht hm => ?_⟩, List.mem_map.mpr ⟨its.getLast hne, List.mem_filter.mpr ⟨List.mem_range.mpr (h2 _ (List.getLast_mem hne)), okF_iff.mpr fun t ht hm => ?_⟩, es.symm⟩⟩
      · have := h3 t ht (by omega)
        rw [es, appR_snoc (by show _ < its.dropLast.length; omega)] at this
        exact this
      · have := h3 t ht (by omega)
        rw [es] at this
        exact this
def IsFill (B : Bk) (n : Nat) (ts : List Tie) (l : Row) : Prop := l.items.length = n ∧ (∀ v ∈ l.items, v < B.size) ∧ ∀ t ∈ ts, appR l t.2 ∈ rowsAt B t.1
theorem fill_iff {B : Bk} {n : Nat} {ts : List Tie} (h : ∀ t ∈ ts, t.2.items ≠ [] ∧ ∀ u ∈ t.2.items, u < n) {l : Row} : l ∈ fillL B ts n ↔ IsFill B n ts l := by
  rw [fillL_mem]
  exact ⟨fun ⟨a, b, c⟩ => ⟨a, b, fun t ht => c t ht (maxR_lt (h t ht).1 (h t ht).2)⟩, fun ⟨a, b, c⟩ => ⟨a, b, fun t ht _ => c t ht⟩⟩
/-! ### ascending -/
theorem listLt_snoc : ∀ {a b : List Nat} {x y : Nat}, a.length = b.length → listLt a b = true → listLt (a ++ [x]) (b ++ [y]) = true
  | [], [], _, _, _, h => by cases h
  | [], _ :: _, _, _, h, _ => by cases h
  | _ :: _, [], _, _, h, _ => by cases h
  | p :: a, q :: b, x, y, h, k => by
    have h' : a.length = b.length := by simpa using h
    have k' : (if p = q then listLt a b else DatumOrd.lt p q) = true := k
    show (if p = q then listLt (a ++ [x]) (b ++ [y]) else DatumOrd.lt p q) = true
    by_cases e : p = q
    · rw [if_pos e] at k' ⊢
      exact listLt_snoc h' k'
    · rw [if_neg e] at k' ⊢
      exact k'
theorem listLt_last : ∀ {a : List Nat} {x y : Nat}, x < y → listLt (a ++ [x]) (a ++ [y]) = true
  | [], x, y, h => by
    show (if x = y then listLt [] [] else DatumOrd.lt x y) = true
    rw [if_neg (by omega)]
    exact decide_eq_true h
  | p :: a, x, y, h => by
    show (if p = p then listLt (a ++ [x]) (a ++ [y]) else DatumOrd.lt p p) = true
    rw [if_pos rfl]
    exact listLt_last h
theorem fillL_asc {B : Bk} {ts : List Tie} : ∀ k, Asc (fillL B ts k)
  | 0 => List.pairwise_singleton _ _
  | k + 1 => by
    unfold Asc
    rw [fillL, List.pairwise_flatMap]
    refine ⟨fun l _ => ?_, ?_⟩
    · unfold fillS
      refine List.pairwise_map.mpr (List.Pairwise.imp (fun {a b} h => ?_) (List.Pairwise.sublist List.filter_sublist List.pairwise_lt_range))
      exact listLt_last h
    · refine List.Pairwise.imp_of_mem (fun {a b} ha hb h => ?_) (fillL_asc k)
      intro x hx y hy
      obtain ⟨v, _, rfl⟩ := List.mem_map.mp hx
      obtain ⟨u, _, rfl⟩ := List.mem_map.mp hy
      exact listLt_snoc (by rw [fillL_row k a ha, fillL_row k b hb]) h
/-! ### striking -/
/-- each listed value has a row of listed values -/
def Con (B : Bk) (ts : List Tie) (L : Nat → Nat → Prop) : Prop := ∀ t ∈ ts, ∀ i, i < t.2.items.length → ∀ v, L (t.2.items.getD i 0) v → ∃ r ∈ rowsAt B t.1, r.items.getD i 0 = v ∧ ∀ p, p < t.2.items.length → L (t.2.items.getD p 0) (r.items.getD p 0)
theorem isListed_iff {rs : List Row} {known : List (List Nat)} {some_ : Row} {at_ v : Nat} (hl : ∀ r ∈ rs, r.items.length = some_.items.length) : isListed rs known some_ at_ v = true ↔ ∃ r ∈ rs, r.items.getD at_ 0 = v ∧ ∀ p, p < some_.items.length → p ≠ at_ → r.items.getD p 0 ∈ known.getD (some_.items.getD p 0) [] := by
  unfold isListed
  rw [List.any_eq_true]
  refine ⟨fun ⟨r, h1, h2⟩ => ?_, fun ⟨r, h1, h2, h3⟩ => ?_⟩
  · rw [Bool.and_eq_true, decide_eq_true_iff, decide_eq_true_iff] at h2
    refine ⟨r, h1, h2.1, fun p hp hne => ?_⟩
    have := (List.filter_eq_nil_iff.mp h2.2) p (List.mem_range.mpr (by rw [hl r h1]; exact hp))
    rw [Bool.and_eq_true, decide_eq_true_iff] at this
    by_cases e : r.items.getD p 0 ∈ known.getD (some_.items.getD p 0) []
    · exact e
    · exact absurd ⟨hne, by rw [decide_eq_false e]; rfl⟩ this
  · refine ⟨r, h1, ?_⟩
    rw [Bool.and_eq_true, decide_eq_true_iff, decide_eq_true_iff]
    refine ⟨h2, List.filter_eq_nil_iff.mpr fun p hp => ?_⟩
    rw [Bool.and_eq_true, decide_eq_true_iff]
    rintro ⟨a, b⟩
    rw [decide_eq_true (h3 p (by rw [← hl r h1]; exact List.mem_range.mp hp) a)] at b
    cases b
theorem freshOf_mem {B : Bk} {n : Nat} {ts : List Tie} {found : List (Nat × Nat)} {p : Nat × Nat} : p ∈ freshOf B n ts found ↔ ∃ t ∈ ts, ∃ i, i < t.2.items.length ∧ ∃ v, v ∈ (knownOf B.size n found).getD (t.2.items.getD i 0) [] ∧ isListed (rowsAt B t.1) (knownOf B.size n found) t.2 i v = false ∧ p = (t.2.items.getD i 0, v) := by
  unfold freshOf
  rw [addKs_mem]
  constructor
  · rintro (h | h)
    · cases h
    · obtain ⟨t, h1, h2⟩ := List.mem_flatMap.mp h
      obtain ⟨i, h3, h4⟩ := List.mem_flatMap.mp h2
      obtain ⟨v, h5, h6⟩ := List.mem_map.mp h4
      have h7 := List.mem_filter.mp h5
      exact ⟨t, h1, i, List.mem_range.mp h3, v, h7.1, by simpa using h7.2, h6.symm⟩
  · rintro ⟨t, h1, i, h2, v, h3, h4, rfl⟩
    exact .inr (List.mem_flatMap.mpr ⟨t, h1, List.mem_flatMap.mpr ⟨i, List.mem_range.mpr h2, List.mem_map.mpr ⟨v, List.mem_filter.mpr ⟨h3, by rw [h4]; rfl⟩, rfl⟩⟩⟩)
theorem known_iff {size n : Nat} {found : List (Nat × Nat)} {u v : Nat} : v ∈ (knownOf size n found).getD u [] ↔ u < n ∧ v < size ∧ (u, v) ∉ found := by
  by_cases h : u < n
  · rw [known_get h, List.mem_filter, List.mem_range]
    simp [h]
  · rw [List.getD_eq_getElem?_getD, List.getElem?_eq_none (by rw [known_len]; omega)]
    exact ⟨(fun h => nomatch h), fun z => absurd z.1 h⟩
section
variable {B : Bk} {n : Nat} {ts : List Tie}
theorem strikeR_sub (L : Nat → Nat → Prop) (hF : FitB B n ts) (hB : BkOk B) (hL : ∀ u v, L u v → u < n ∧ v < B.size) (hc : Con B ts L) : ∀ (k : Nat) (found : List (Nat × Nat)), (∀ p ∈ found, ¬ L p.1 p.2) → ∀ p ∈ strikeR B n ts k found, ¬ L p.1 p.2
  | 0, _, h => h
  | k + 1, found, h => by
    rw [strikeR]
    split
    · exact h
    · refine strikeR_sub L hF hB hL hc k _ fun p hp => ?_
      rcases (addKs_mem _).mp hp with hp | hp
      · exact h p hp
      · obtain ⟨t, ht, i, hi, v, hv, hn, rfl⟩ := freshOf_mem.mp hp
        intro hl
        obtain ⟨r, h1, h2, h3⟩ := hc t ht i hi v hl
        have hlen : ∀ r ∈ rowsAt B t.1, r.items.length = t.2.items.length := fun r hr => ((hB.tie _ _ _ (hF t ht).1).2.2 r hr).1
        have : isListed (rowsAt B t.1) (knownOf B.size n found) t.2 i v = true := (isListed_iff hlen).mpr ⟨r, h1, h2, fun p hp _ => known_iff.mpr ⟨(hL _ _ (h3 p hp)).1, (hL _ _ (h3 p hp)).2, fun z => h _ z (h3 p hp)⟩⟩
        rw [hn] at this
        cases this
theorem strikeR_fix (hF : FitB B n ts) : ∀ (k : Nat) (found : List (Nat × Nat)), found.Nodup → (∀ p ∈ found, p.1 < n ∧ p.2 < B.size) → B.size * n < found.length + k → freshOf B n ts (strikeR B n ts k found) = []
  | 0, found, hn, hs, hk => by
    have h1 := nodup_len (m := (List.range n).flatMap fun u => (List.range B.size).map fun v => (u, v)) hn fun p hp => List.mem_flatMap.mpr ⟨p.1, List.mem_range.mpr (hs p hp).1, List.mem_map.mpr ⟨p.2, List.mem_range.mpr (hs p hp).2, rfl⟩⟩
    rw [List.length_flatMap] at h1
    simp only [List.length_map, List.length_range, List.map_const', List.sum_replicate_nat] at h1
    rw [Nat.mul_comm] at h1
    omega
  | k + 1, found, hn, hs, hk => by
    rw [strikeR]
    split
    · assumption
    · rename_i hne
      refine strikeR_fix hF k _ (addKs_nodup _ hn) (fun p hp => ?_) ?_
      · rcases (addKs_mem _).mp hp with h | h
        · exact hs p h
        · exact fresh_small hF h
      · obtain ⟨p, rest, e⟩ := List.exists_cons_of_ne_nil hne
        have hp : p ∈ freshOf B n ts found := by rw [e]; exact List.mem_cons_self
        have hnf : p ∉ found := by
          obtain ⟨t, ht, i, hi, v, hv, hn, rfl⟩ := freshOf_mem.mp hp
          exact (known_iff.mp hv).2.2
        have := nodup_len (l := p :: found) (m := addKs found (freshOf B n ts found)) (List.nodup_cons.mpr ⟨hnf, hn⟩) fun q hq => by
          rcases List.mem_cons.mp hq with rfl | hq
          · exact (addKs_mem _).mpr (.inr hp)
          · exact (addKs_mem _).mpr (.inl hq)
        rw [List.length_cons] at this
        omega
abbrev Lst (B : Bk) (n : Nat) (ts : List Tie) (u v : Nat) : Prop := v ∈ (listsOf B n ts).getD u []
theorem lst_lt {u v : Nat} (h : Lst B n ts u v) : u < n ∧ v < B.size := by
  have := known_iff.mp (show v ∈ (knownOf B.size n (strikesOf B n ts)).getD u [] from h)
  exact ⟨this.1, this.2.1⟩
/-- what is left is consistent -/
theorem lst_con (hF : FitB B n ts) (hB : BkOk B) : Con B ts (Lst B n ts) := by
  intro t ht i hi v hv
  have hfix : freshOf B n ts (strikesOf B n ts) = [] := strikeR_fix hF _ [] List.nodup_nil (fun _ h => nomatch h) (by rw [List.length_nil]; omega)
  have hlen : ∀ r ∈ rowsAt B t.1, r.items.length = t.2.items.length := fun r hr => ((hB.tie _ _ _ (hF t ht).1).2.2 r hr).1
  have hl : isListed (rowsAt B t.1) (knownOf B.size n (strikesOf B n ts)) t.2 i v = true := by
    cases e : isListed (rowsAt B t.1) (knownOf B.size n (strikesOf B n ts)) t.2 i v with
    | true => rfl
    | false =>
      have : (t.2.items.getD i 0, v) ∈ freshOf B n ts (strikesOf B n ts) := freshOf_mem.mpr ⟨t, ht, i, hi, v, hv, e, rfl⟩
      rw [hfix] at this
      cases this
  obtain ⟨r, h1, h2, h3⟩ := (isListed_iff hlen).mp hl
  refine ⟨r, h1, h2, fun p hp => ?_⟩
  by_cases e : p = i
  · rw [e, h2]; exact hv
  · exact h3 p hp e
/-- .. and greatest -/
theorem lst_max (hF : FitB B n ts) (hB : BkOk B) {L : Nat → Nat → Prop} (hL : ∀ u v, L u v → u < n ∧ v < B.size) (hc : Con B ts L) {u v : Nat} (h : L u v) : Lst B n ts u v :=
  known_iff.mpr ⟨(hL u v h).1, (hL u v h).2, fun z => strikeR_sub L hF hB hL hc _ [] (fun _ h => nomatch h) _ z h⟩
theorem lst_empty : [] ∈ listsOf B n ts ↔ ∃ u, u < n ∧ ∀ v, ¬ Lst B n ts u v := by
  constructor
  · intro h
    obtain ⟨u, hu, e⟩ := List.getElem_of_mem h
    refine ⟨u, by rw [listsOf_len] at hu; exact hu, fun v hv => ?_⟩
    unfold Lst at hv
    rw [List.getD_eq_getElem?_getD, List.getElem?_eq_getElem hu, e] at hv
    cases hv
  · rintro ⟨u, hu, h⟩
    have hu' : u < (listsOf B n ts).length := by rw [listsOf_len]; exact hu
    have e : (listsOf B n ts)[u] = [] := List.eq_nil_iff_forall_not_mem.mpr fun v hv => h v (by
      unfold Lst
      rw [List.getD_eq_getElem?_getD, List.getElem?_eq_getElem hu']
      exact hv)
    rw [← e]
    exact List.getElem_mem hu'
end
end K64

/-! ## M2 -/
/-! Plain mathematics: the net that is spelled out. -/
namespace K64
open PySem PySem.Spec PyProof.Rows L2 PySem.W
/-- an unknown's number in a copy -/
def nu (us ps : Row) (first n u : Nat) : Nat := numOf (numB us.items ps.items first n).1 u
theorem zip_lookup_at : ∀ {us ps : List Nat} {i : Nat}, us.Nodup → i < us.length → i < ps.length → (us.zip ps).lookup (us.getD i 0) = some (ps.getD i 0)
  | [], _, _, _, h, _ => by cases h
  | _ :: _, [], _, _, _, h => by cases h
  | a :: us, b :: ps, 0, _, _, _ => by
    rw [List.zip_cons_cons, List.lookup_cons]
    show (match (a == a) with | true => _ | false => _) = _
    rw [show (a == a) = true by simp]
    rfl
  | a :: us, b :: ps, i + 1, hn, h1, h2 => by
    have hn' := List.nodup_cons.mp hn
    have h1' : i < us.length := by simpa using h1
    rw [List.zip_cons_cons, List.lookup_cons]
    have hne : us.getD i 0 ≠ a := fun e => hn'.1 (by rw [← e]; exact getD_mem h1')
    show (match (us.getD i 0 == a) with | true => _ | false => _) = _
    rw [show (us.getD i 0 == a) = false by simpa using hne]
    exact zip_lookup_at hn'.2 h1' (by simpa using h2)
section
variable {us ps : Row} {first n : Nat}
theorem nu_out (hl : us.items.length ≤ ps.items.length) {u : Nat} (h : u < n) (hu : u ∉ us.items) : nu us ps first n u = first + rk us.items u := by
  unfold nu numOf numB
  rw [(fold_char hl n).2 u, if_neg hu, if_pos h]
  rfl
theorem nu_in (hl : us.items.length ≤ ps.items.length) (hn : us.items.Nodup) {i : Nat} (h : i < us.items.length) : nu us ps first n (us.items.getD i 0) = ps.items.getD i 0 := by
  unfold nu numOf numB
  rw [(fold_char hl n).2, if_pos (getD_mem h), zip_lookup_at hn h (by omega)]
  rfl
theorem rk_room (hn : us.items.Nodup) (hv : ∀ u ∈ us.items, u < n) {u : Nat} (h : u < n) (hu : u ∉ us.items) : rk us.items u < n - us.items.length := by
  rw [← rk_total hn hv]
  exact rk_lt h hu
theorem rk_inj {l : List Nat} {a b : Nat} (ha : a ∉ l) (hb : b ∉ l) (h : rk l a = rk l b) : a = b := by
  rcases Nat.lt_trichotomy a b with z | z | z
  · have := rk_lt z ha; omega
  · exact z
  · have := rk_lt z hb; omega
end
theorem mem_repl {ts : List Tie} {x : Str} {ps : Row} : ps ∈ replL ts x ↔ (x, ps) ∈ ts := by
  unfold replL
  rw [List.mem_map]
  refine ⟨fun ⟨t, h1, h2⟩ => ?_, fun h => ⟨_, List.mem_filter.mpr ⟨h, decide_eq_true rfl⟩, rfl⟩⟩
  obtain ⟨h3, h4⟩ := List.mem_filter.mp h1
  have h4 := of_decide_eq_true h4
  rw [← h2, ← h4]
  exact h3
theorem due_mem {N n : Nat} {ts os : List Tie} {us : Row} {t : Tie} : t ∈ dueT N ts n os us ↔ (t ∈ ts ∧ t.1 ≠ toldN) ∨ ∃ k ps, (replL ts toldN)[k]? = some ps ∧ ∃ q ∈ os, t = (q.1, ⟨q.2.items.map (nu us ps (N + k * (n - us.items.length)) n)⟩) := by
  unfold dueT spTies
  rw [sset_mem, List.mem_append]
  have h1 : t ∈ foundL ts toldN ↔ t ∈ ts ∧ t.1 ≠ toldN := by
    unfold foundL
    rw [List.mem_filter]
    simp
  have h2 : t ∈ copiesL N (replL ts toldN) n os us (replL ts toldN).length ↔ ∃ k ps, (replL ts toldN)[k]? = some ps ∧ ∃ q ∈ os, t = (q.1, ⟨q.2.items.map (nu us ps (N + k * (n - us.items.length)) n)⟩) := by
    unfold copiesL
    rw [List.take_of_length_le (by rw [List.length_zipIdx]; exact Nat.le_refl _), List.mem_flatMap]
    constructor
    · rintro ⟨⟨ps, k⟩, h, h'⟩
      obtain ⟨i, hi⟩ := List.getElem?_of_mem h
      rw [List.getElem?_zipIdx] at hi
      obtain ⟨p', e1, e2⟩ := Option.map_eq_some_iff.mp hi
      obtain ⟨q, hq, e3⟩ := List.mem_map.mp h'
      have e4 : p' = ps := congrArg Prod.fst e2
      have e5 : 0 + i = k := congrArg Prod.snd e2
      rw [Nat.zero_add] at e5
      subst e4 e5
      exact ⟨i, p', e1, q, hq, e3.symm⟩
    · rintro ⟨k, ps, h, q, hq, rfl⟩
      refine ⟨(ps, k), List.mem_of_getElem? (i := k) ?_, List.mem_map.mpr ⟨q, hq, rfl⟩⟩
      rw [List.getElem?_zipIdx, h]
      simp
  rw [h1, h2]
section
variable {B : Bk} {n : Nat} {os : List Tie} {us : Row} {N : Nat} {ts : List Tie}
theorem lookup_old {x : Str} {a : Nat × List Row} (h : B.ties.lookup x = some a) : (toldB B n os us).ties.lookup x = some a := by
  show (B.ties ++ _).lookup x = _
  rw [List.lookup_append, h]
  rfl
theorem rows_old {x : Str} {a : Nat × List Row} (h : B.ties.lookup x = some a) : rowsAt (toldB B n os us) x = rowsAt B x := by
  unfold rowsAt
  rw [lookup_old h, h]
theorem no_told (hb : ∀ t ∈ B.ties, t.1 ∈ baseN) : B.ties.lookup toldN = none := by
  cases e : B.ties.lookup toldN with
  | none => rfl
  | some a =>
    obtain ⟨q, hq, e2⟩ := List.mem_map.mp (lookup_mem_fst e)
    exact absurd (e2 ▸ hb q hq) told_base
theorem lookup_told (hb : ∀ t ∈ B.ties, t.1 ∈ baseN) : (toldB B n os us).ties.lookup toldN = some (us.items.length, toldL B n os us) := by
  show (B.ties ++ _).lookup toldN = _
  rw [List.lookup_append, no_told hb, List.lookup_cons, show (toldN == toldN) = true by simp]
  rfl
theorem rows_told (hb : ∀ t ∈ B.ties, t.1 ∈ baseN) : rowsAt (toldB B n os us) toldN = toldL B n os us := by
  unfold rowsAt
  rw [lookup_told hb]
  rfl
variable (c : CaseOk B n os us N ts)
include c
theorem os_ok : ∀ t ∈ os, t.2.items ≠ [] ∧ ∀ u ∈ t.2.items, u < n := fun t ht => ⟨fun e => by
  have := (c.bk.ok.tie _ _ _ (c.fo t ht).1).1
  rw [e] at this
  exact absurd this (by decide), (c.fo t ht).2⟩
theorem told_iff {r : Row} : r ∈ toldL B n os us ↔ ∃ h, IsFill B n os h ∧ r = appR h us := by
  unfold toldL
  rw [sset_mem, List.mem_map]
  exact ⟨fun ⟨h, a, b⟩ => ⟨h, (fill_iff (os_ok c)).mp a, b.symm⟩, fun ⟨h, a, b⟩ => ⟨h, (fill_iff (os_ok c)).mpr a, b.symm⟩⟩
theorem us_pos : 1 ≤ us.items.length := by
  cases e : us.items with
  | nil => exact absurd e c.ue
  | cons a l => rw [List.length_cons]; omega
theorem us_le : us.items.length ≤ n := Nat.le_trans (nodup_len (m := List.range n) c.un fun u hu => List.mem_range.mpr (c.uv u hu)) (by rw [List.length_range]; exact Nat.le_refl _)
theorem ts_ne {t : Tie} (ht : t ∈ ts) : t.2.items ≠ [] := fun e => by
  rcases c.ties t ht with h | h
  · have := (c.bk.ok.tie _ _ _ h.2.1).1
    rw [e] at this
    exact absurd this (by decide)
  · have h1 := us_pos c
    rw [← h.2.1, e] at h1
    exact absurd h1 (by decide)
theorem ts_lt {t : Tie} (ht : t ∈ ts) : ∀ u ∈ t.2.items, u < N := by
  rcases c.ties t ht with h | h
  · exact h.2.2
  · exact h.2.2
theorem repl_ok {k : Nat} {ps : Row} (h : (replL ts toldN)[k]? = some ps) : (toldN, ps) ∈ ts ∧ ps.items.length = us.items.length ∧ ∀ u ∈ ps.items, u < N := by
  have h1 := mem_repl.mp (List.mem_of_getElem? h)
  rcases c.ties _ h1 with h2 | h2
  · exact absurd rfl h2.1
  · exact ⟨h1, h2.2⟩
theorem old_ok {t : Tie} (ht : t ∈ ts) (h : t.1 ≠ toldN) : B.ties.lookup t.1 = some (t.2.items.length, rowsAt B t.1) ∧ rowsAt (toldB B n os us) t.1 = rowsAt B t.1 := by
  rcases c.ties t ht with h2 | h2
  · exact ⟨h2.2.1, rows_old h2.2.1⟩
  · exact absurd h2.1 h
/-- a copy's numbers are small -/
theorem nu_lt {k : Nat} {ps : Row} (h : (replL ts toldN)[k]? = some ps) {u : Nat} (hu : u < n) : nu us ps (N + k * (n - us.items.length)) n u < dueN N ts n us := by
  obtain ⟨h1, h2, h3⟩ := repl_ok c h
  have hk : k < (replL ts toldN).length := (List.getElem?_eq_some_iff.mp h).1
  have hD : dueN N ts n us = N + (n - us.items.length) * (replL ts toldN).length := rfl
  by_cases hin : u ∈ us.items
  · obtain ⟨i, hi, e⟩ := List.getElem_of_mem hin
    have e' : u = us.items.getD i 0 := by rw [List.getD_eq_getElem?_getD, List.getElem?_eq_getElem hi, ← e]; rfl
    rw [e', nu_in (by omega) c.un hi]
    have := h3 _ (getD_mem (l := ps.items) (i := i) (by omega))
    rw [hD]
    exact Nat.lt_of_lt_of_le this (Nat.le_add_right _ _)
  · rw [nu_out (by omega) hu hin]
    have h4 := rk_room c.un c.uv hu hin
    have h5 : (k + 1) * (n - us.items.length) ≤ (replL ts toldN).length * (n - us.items.length) := Nat.mul_le_mul_right _ hk
    rw [Nat.succ_mul] at h5
    rw [hD, Nat.mul_comm (n - us.items.length)]
    omega
/-! ### fillings -/
theorem map_getD {l : List Nat} {f : Nat → Nat} {i : Nat} (h : i < l.length) : (l.map f).getD i 0 = f (l.getD i 0) := by
  rw [List.getD_eq_getElem?_getD, List.getElem?_map, List.getD_eq_getElem?_getD, List.getElem?_eq_getElem h]
  rfl
theorem range_getD {D x : Nat} {f : Nat → Nat} (h : x < D) : ((List.range D).map f).getD x 0 = f x := by
  rw [List.getD_eq_getElem?_getD, List.getElem?_map, List.getElem?_range h]
  rfl
theorem fill_down {f : Row} (hf : IsFill B (dueN N ts n us) (dueT N ts n os us) f) : IsFill (toldB B n os us) N ts (takeR N f) := by
  obtain ⟨h1, h2, h3⟩ := hf
  have hND : N ≤ dueN N ts n us := Nat.le_add_right _ _
  have hg : ∀ u, u < N → (f.items.take N).getD u 0 = f.items.getD u 0 := fun u hu => by
    rw [List.getD_eq_getElem?_getD, List.getElem?_take_of_lt hu, List.getD_eq_getElem?_getD]
  have happ : ∀ t ∈ ts, appR (takeR N f) t.2 = appR f t.2 := fun t ht => by
    show (⟨t.2.items.map _⟩ : Row) = ⟨t.2.items.map _⟩
    congr 1
    exact List.map_congr_left fun u hu => hg u (ts_lt c ht u hu)
  refine ⟨by show (f.items.take N).length = N; rw [List.length_take, h1]; omega, fun v hv => h2 v (List.mem_of_mem_take hv), fun t ht => ?_⟩
  rw [happ t ht]
  by_cases hx : t.1 = toldN
  · obtain ⟨x, ps⟩ := t
    have hx : x = toldN := hx
    subst hx
    rw [rows_told c.base, told_iff c]
    obtain ⟨k, hk⟩ := List.getElem?_of_mem (mem_repl.mpr ht)
    obtain ⟨_, hp1, hp2⟩ := repl_ok c hk
    refine ⟨⟨(List.range n).map fun u => f.items.getD (nu us ps (N + k * (n - us.items.length)) n u) 0⟩, ⟨by show (List.map _ _).length = n; rw [List.length_map, List.length_range], fun v hv => ?_, fun q hq => ?_⟩, ?_⟩
    · obtain ⟨u, hu, rfl⟩ := List.mem_map.mp hv
      exact h2 _ (getD_mem (by rw [h1]; exact nu_lt c hk (List.mem_range.mp hu)))
    · have := h3 _ (due_mem.mpr (.inr ⟨k, ps, hk, q, hq, rfl⟩))
      have e : appR f ⟨q.2.items.map (nu us ps (N + k * (n - us.items.length)) n)⟩ = appR ⟨(List.range n).map fun u => f.items.getD (nu us ps (N + k * (n - us.items.length)) n u) 0⟩ q.2 := by
        show (⟨List.map _ (List.map _ _)⟩ : Row) = ⟨List.map _ _⟩
        rw [List.map_map]
        congr 1
        exact List.map_congr_left fun u hu => (range_getD c ((os_ok c q hq).2 u hu)).symm
      rw [← e]
      exact this
    · show (⟨ps.items.map _⟩ : Row) = ⟨us.items.map _⟩
      congr 1
      refine List.ext_getElem? fun i => ?_
      by_cases hi : i < us.items.length
      · rw [List.getElem?_map, List.getElem?_map, List.getElem?_eq_getElem hi, List.getElem?_eq_getElem (show i < ps.items.length by omega)]
        have e1 : us.items[i] = us.items.getD i 0 := by rw [List.getD_eq_getElem?_getD, List.getElem?_eq_getElem hi]; rfl
        have e2 : ps.items[i]'(by omega) = ps.items.getD i 0 := by rw [List.getD_eq_getElem?_getD, List.getElem?_eq_getElem (show i < ps.items.length by omega)]; rfl
        rw [e1, e2]
        show some (f.items.getD (ps.items.getD i 0) 0) = some (((List.range n).map fun u => f.items.getD (nu us ps (N + k * (n - us.items.length)) n u) 0).getD (us.items.getD i 0) 0)
        rw [range_getD c (c.uv _ (getD_mem hi)), nu_in (by omega) c.un hi]
      · rw [List.getElem?_map, List.getElem?_map, List.getElem?_eq_none (by omega), List.getElem?_eq_none (by omega)]
        rfl
  · rw [(old_ok c ht hx).2]
    exact h3 t (due_mem.mpr (.inl ⟨ht, hx⟩))
/-- a number of a copy alone -/
def IsNew (us : Row) (N n K x k u : Nat) : Prop := k < K ∧ u < n ∧ u ∉ us.items ∧ x = N + k * (n - us.items.length) + rk us.items u
theorem new_inj {K x k k' u u' : Nat} (h : IsNew us N n K x k u) (h' : IsNew us N n K x k' u') : k = k' ∧ u = u' := by
  obtain ⟨_, h1, h2, h3⟩ := h
  obtain ⟨_, h1', h2', h3'⟩ := h'
  have r1 := rk_room c.un c.uv h1 h2
  have r2 := rk_room c.un c.uv h1' h2'
  have e : k * (n - us.items.length) + rk us.items u = k' * (n - us.items.length) + rk us.items u' := by omega
  have ek : k = k' := by
    rcases Nat.lt_trichotomy k k' with z | z | z
    · have := Nat.mul_le_mul_right (n - us.items.length) (show k + 1 ≤ k' from z)
      rw [Nat.succ_mul] at this
      omega
    · exact z
    · have := Nat.mul_le_mul_right (n - us.items.length) (show k' + 1 ≤ k from z)
      rw [Nat.succ_mul] at this
      omega
  subst ek
  exact ⟨rfl, rk_inj h2 h2' (by omega)⟩
theorem fill_up {g : Row} (hg : IsFill (toldB B n os us) N ts g) : ∃ f, IsFill B (dueN N ts n us) (dueT N ts n os us) f ∧ takeR N f = g := by
  obtain ⟨g1, g2, g3⟩ := hg
  let K := (replL ts toldN).length
  have hch : ∀ k : Nat, ∃ h : Row, ∀ ps, (replL ts toldN)[k]? = some ps → IsFill B n os h ∧ appR g ps = appR h us := fun k => by
    cases e : (replL ts toldN)[k]? with
    | none => exact ⟨⟨[]⟩, fun ps h => by cases h⟩
    | some ps =>
      have h1 := (repl_ok c e).1
      have h2 := g3 _ h1
      rw [rows_told c.base, told_iff c] at h2
      obtain ⟨h, h3, h4⟩ := h2
      exact ⟨h, fun ps' e' => by cases e'; exact ⟨h3, h4⟩⟩
  let H : Nat → Row := fun k => Classical.choose (hch k)
  have hH : ∀ k ps, (replL ts toldN)[k]? = some ps → IsFill B n os (H k) ∧ appR g ps = appR (H k) us := fun k => Classical.choose_spec (hch k)
  have hs2 := c.s2
  obtain ⟨F, hF⟩ : ∃ F : Nat → Nat, (∀ x, x < N → F x = g.items.getD x 0) ∧ (∀ x k u, N ≤ x → IsNew us N n K x k u → F x = (H k).items.getD u 0) ∧ ∀ x, N ≤ x → (∀ k u, ¬ IsNew us N n K x k u) → F x = 0 := by
    refine ⟨fun x => open Classical in if x < N then g.items.getD x 0 else if h : ∃ p : Nat × Nat, IsNew us N n K x p.1 p.2 then (H (Classical.choose h).1).items.getD (Classical.choose h).2 0 else 0, fun x hx => by dsimp only; rw [if_pos hx], fun x k u hx hn => ?_, fun x hx hn => ?_⟩
    · dsimp only
      have h : ∃ p : Nat × Nat, IsNew us N n K x p.1 p.2 := ⟨(k, u), hn⟩
      rw [if_neg (by omega), dif_pos h]
      obtain ⟨e1, e2⟩ := new_inj c (Classical.choose_spec h) hn
      rw [e1, e2]
    · dsimp only
      rw [if_neg (by omega), dif_neg fun ⟨p, h⟩ => hn _ _ h]
  obtain ⟨hF1, hF2, hF3⟩ := hF
  let D := dueN N ts n us
  have hND : N ≤ D := Nat.le_add_right _ _
  let f : Row := ⟨(List.range D).map F⟩
  have hfx : ∀ x, x < D → f.items.getD x 0 = F x := fun x hx => range_getD c hx
  have hnu : ∀ k ps, (replL ts toldN)[k]? = some ps → ∀ u, u < n → f.items.getD (nu us ps (N + k * (n - us.items.length)) n u) 0 = (H k).items.getD u 0 := fun k ps hk u hu => by
    obtain ⟨_, hp1, hp2⟩ := repl_ok c hk
    have hkK : k < K := (List.getElem?_eq_some_iff.mp hk).1
    rw [hfx _ (nu_lt c hk hu)]
    by_cases hin : u ∈ us.items
    · obtain ⟨i, hi, e⟩ := List.getElem_of_mem hin
      have e' : u = us.items.getD i 0 := by rw [List.getD_eq_getElem?_getD, List.getElem?_eq_getElem hi, ← e]; rfl
      rw [e', nu_in (by omega) c.un hi, hF1 _ (hp2 _ (getD_mem (l := ps.items) (i := i) (by omega)))]
      have e2 := (hH k ps hk).2
      have e3 : (appR g ps).items.getD i 0 = (appR (H k) us).items.getD i 0 := by rw [e2]
      have e4 : (appR g ps).items.getD i 0 = g.items.getD (ps.items.getD i 0) 0 := map_getD c (by omega)
      have e5 : (appR (H k) us).items.getD i 0 = (H k).items.getD (us.items.getD i 0) 0 := map_getD c hi
      rw [← e4, e3, e5]
    · rw [nu_out (by omega) hu hin]
      exact hF2 _ k u (by omega) ⟨hkK, hu, hin, rfl⟩
  refine ⟨f, ⟨by show (List.map _ _).length = D; rw [List.length_map, List.length_range], fun v hv => ?_, fun t ht => ?_⟩, ?_⟩
  · obtain ⟨x, hx, rfl⟩ := List.mem_map.mp hv
    have hx := List.mem_range.mp hx
    by_cases h : x < N
    · rw [hF1 x h]
      exact g2 _ (getD_mem (by rw [g1]; exact h))
    · by_cases h2 : ∃ k u, IsNew us N n K x k u
      · obtain ⟨k, u, hn⟩ := h2
        rw [hF2 x k u (by omega) hn]
        have hk : k < (replL ts toldN).length := hn.1
        have h3 := (hH k _ (List.getElem?_eq_getElem hk)).1
        exact h3.2.1 _ (getD_mem (by rw [h3.1]; exact hn.2.1))
      · rw [hF3 x (by omega) fun k u hn => h2 ⟨k, u, hn⟩]
        omega
  · rcases due_mem.mp ht with ⟨h1, h2⟩ | ⟨k, ps, hk, q, hq, rfl⟩
    · have e : appR f t.2 = appR g t.2 := by
        show (⟨t.2.items.map _⟩ : Row) = ⟨t.2.items.map _⟩
        congr 1
        refine List.map_congr_left fun u hu => ?_
        have := ts_lt c h1 u hu
        rw [hfx u (by omega), hF1 u this]
      rw [e, ← (old_ok c h1 h2).2]
      exact g3 t h1
    · have h3 := (hH k ps hk).1
      have e : appR f ⟨q.2.items.map (nu us ps (N + k * (n - us.items.length)) n)⟩ = appR (H k) q.2 := by
        show (⟨List.map _ (List.map _ _)⟩ : Row) = ⟨List.map _ _⟩
        rw [List.map_map]
        congr 1
        exact List.map_congr_left fun u hu => hnu k ps hk u ((os_ok c q hq).2 u hu)
      show appR f ⟨q.2.items.map (nu us ps (N + k * (n - us.items.length)) n)⟩ ∈ rowsAt B q.1
      rw [e]
      exact h3.2.2 q hq
  · obtain ⟨its⟩ := g
    show (⟨((List.range D).map F).take N⟩ : Row) = ⟨its⟩
    congr 1
    have g1 : its.length = N := g1
    refine List.ext_getElem? fun i => ?_
    by_cases hi : i < N
    · rw [List.getElem?_take_of_lt hi, List.getElem?_map, List.getElem?_range (by omega), List.getElem?_eq_getElem (by omega)]
      show some (F i) = some _
      rw [hF1 i hi]
      show some (its.getD i 0) = _
      rw [List.getD_eq_getElem?_getD, List.getElem?_eq_getElem (by omega)]
      rfl
    · rw [List.getElem?_eq_none (by rw [List.length_take]; omega), List.getElem?_eq_none (by omega)]
theorem ts_ok2 : ∀ t ∈ ts, t.2.items ≠ [] ∧ ∀ u ∈ t.2.items, u < N := fun t ht => ⟨ts_ne c ht, ts_lt c ht⟩
theorem due_ok : ∀ t ∈ dueT N ts n os us, t.2.items ≠ [] ∧ ∀ u ∈ t.2.items, u < dueN N ts n us := fun t ht => by
  rcases due_mem.mp ht with ⟨h1, h2⟩ | ⟨k, ps, hk, q, hq, rfl⟩
  · exact ⟨ts_ne c h1, fun u hu => Nat.lt_of_lt_of_le (ts_lt c h1 u hu) (Nat.le_add_right _ _)⟩
  · refine ⟨fun e => (os_ok c q hq).1 (List.map_eq_nil_iff.mp e), fun u hu => ?_⟩
    obtain ⟨v, hv, rfl⟩ := List.mem_map.mp hu
    exact nu_lt c hk ((os_ok c q hq).2 v hv)
theorem fill_cut : sset ((fillL B (dueT N ts n os us) (dueN N ts n us)).map (takeR N)) = fillL (toldB B n os us) ts N := by
  refine asc_ext (sset_asc _) (fillL_asc N) fun g => ?_
  rw [sset_mem, List.mem_map, fill_iff (ts_ok2 c)]
  refine ⟨fun ⟨f, h1, h2⟩ => ?_, fun h => ?_⟩
  · rw [← h2]
    exact fill_down c ((fill_iff (due_ok c)).mp h1)
  · obtain ⟨f, h1, h2⟩ := fill_up c h
    exact ⟨f, (fill_iff (due_ok c)).mpr h1, h2⟩
end
end K64

/-! ## M3 -/
/-! Plain mathematics: what striking leaves; choosers; the sizes. -/
namespace K64
open PySem PySem.Spec PyProof.Rows L2 PySem.W
section
variable {B : Bk} {n : Nat} {os : List Tie} {us : Row} {N : Nat} {ts : List Tie} (c : CaseOk B n os us N ts)
include c
theorem due_fit : FitB B (dueN N ts n us) (dueT N ts n os us) := fun t ht => ⟨by
  rcases due_mem.mp ht with ⟨h1, h2⟩ | ⟨k, ps, hk, q, hq, rfl⟩
  · exact (old_ok c h1 h2).1
  · show B.ties.lookup q.1 = some ((q.2.items.map _).length, rowsAt B q.1)
    rw [List.length_map]
    exact (c.fo q hq).1, (due_ok c t ht).2⟩
theorem told_row {r : Row} (h : r ∈ toldL B n os us) : r.items.length = us.items.length ∧ ∀ v ∈ r.items, v < B.size := by
  obtain ⟨q, h1, rfl⟩ := (told_iff c).mp h
  refine ⟨by show (us.items.map _).length = _; rw [List.length_map], fun v hv => ?_⟩
  obtain ⟨u, hu, rfl⟩ := List.mem_map.mp hv
  exact h1.2.1 _ (getD_mem (by rw [h1.1]; exact c.uv u hu))
theorem okT : BkOk (toldB B n os us) where
  size := c.bk.ok.size
  tie x k rs h := by
    have h' : (B.ties ++ [(toldN, us.items.length, toldL B n os us)]).lookup x = some (k, rs) := h
    rw [List.lookup_append] at h'
    cases e : B.ties.lookup x with
    | some a =>
      rw [e] at h'
      cases h'
      exact c.bk.ok.tie x k rs e
    | none =>
      rw [e, Option.none_or, List.lookup_cons] at h'
      cases e2 : x == toldN with
      | false =>
        rw [e2] at h'
        cases h'
      | true =>
        rw [e2] at h'
        cases h'
        refine ⟨us_pos c, Nat.le_trans (us_le c) c.n3, fun r hr => told_row c hr⟩
theorem fitT : FitB (toldB B n os us) N ts := fun t ht => ⟨by
  rcases c.ties t ht with h | h
  · rw [lookup_old h.2.1, rows_old h.2.1]
  · rw [h.1, lookup_told c.base, rows_told c.base, h.2.1], ts_lt c ht⟩
/-- what is left there is left -/
def Good (B : Bk) (n : Nat) (os : List Tie) (us : Row) (N : Nat) (ts : List Tie) (ps h : Row) : Prop := IsFill B n os h ∧ ∀ i, i < us.items.length → Lst (toldB B n os us) N ts (ps.items.getD i 0) (h.items.getD (us.items.getD i 0) 0)
theorem good_of {ps : Row} (hps : (toldN, ps) ∈ ts) {j v : Nat} (hj : j < us.items.length) (hl : ps.items.length = us.items.length) (hv : Lst (toldB B n os us) N ts (ps.items.getD j 0) v) : ∃ h, Good B n os us N ts ps h ∧ h.items.getD (us.items.getD j 0) 0 = v := by
  obtain ⟨r, h1, h2, h3⟩ := lst_con (fitT c) (okT c) (toldN, ps) hps j (by show j < ps.items.length; omega) v hv
  rw [show rowsAt (toldB B n os us) (toldN, ps).1 = toldL B n os us from rows_told c.base, told_iff c] at h1
  obtain ⟨h, h4, rfl⟩ := h1
  have e : ∀ i, i < us.items.length → (appR h us).items.getD i 0 = h.items.getD (us.items.getD i 0) 0 := fun i hi => map_getD c hi
  refine ⟨h, ⟨h4, fun i hi => ?_⟩, by rw [← e j hj]; exact h2⟩
  rw [← e i hi]
  exact h3 i (by show i < ps.items.length; omega)
def MM (B : Bk) (n : Nat) (os : List Tie) (us : Row) (N : Nat) (ts : List Tie) (x v : Nat) : Prop :=
  (x < N ∧ Lst (toldB B n os us) N ts x v) ∨ (N ≤ x ∧ x < dueN N ts n us ∧ v < B.size ∧ ((∃ k u ps h, IsNew us N n (replL ts toldN).length x k u ∧ (replL ts toldN)[k]? = some ps ∧ Good B n os us N ts ps h ∧ v = h.items.getD u 0) ∨ ∀ k u, ¬ IsNew us N n (replL ts toldN).length x k u))
theorem mm_lt (x v : Nat) (h : MM B n os us N ts x v) : x < dueN N ts n us ∧ v < B.size := by
  rcases h with ⟨h1, h2⟩ | ⟨_, h2, h3, _⟩
  · exact ⟨Nat.lt_of_lt_of_le h1 (Nat.le_add_right _ _), (lst_lt h2).2⟩
  · exact ⟨h2, h3⟩
theorem good_mm {k : Nat} {ps h : Row} (hk : (replL ts toldN)[k]? = some ps) (hg : Good B n os us N ts ps h) {u : Nat} (hu : u < n) : MM B n os us N ts (nu us ps (N + k * (n - us.items.length)) n u) (h.items.getD u 0) := by
  obtain ⟨hp, hpl, hpN⟩ := repl_ok c hk
  have hkK : k < (replL ts toldN).length := (List.getElem?_eq_some_iff.mp hk).1
  by_cases hin : u ∈ us.items
  · obtain ⟨i, hi, e⟩ := List.getElem_of_mem hin
    have e' : u = us.items.getD i 0 := by rw [List.getD_eq_getElem?_getD, List.getElem?_eq_getElem hi, ← e]; rfl
    rw [e', nu_in (by omega) c.un hi]
    exact .inl ⟨hpN _ (getD_mem (by omega)), hg.2 i hi⟩
  · have hlt := nu_lt c hk hu
    rw [nu_out (by omega) hu hin] at hlt ⊢
    exact .inr ⟨by omega, hlt, hg.1.2.1 _ (getD_mem (by rw [hg.1.1]; exact hu)), .inl ⟨k, u, ps, h, ⟨hkK, hu, hin, rfl⟩, hk, hg, rfl⟩⟩
theorem mm_con : Con B (dueT N ts n os us) (MM B n os us N ts) := by
  intro t ht i hi v hv
  rcases due_mem.mp ht with ⟨h1, h2⟩ | ⟨k, ps, hk, q, hq, rfl⟩
  · have hlt : ∀ p, p < t.2.items.length → t.2.items.getD p 0 < N := fun p hp => ts_lt c h1 _ (getD_mem hp)
    have hl : Lst (toldB B n os us) N ts (t.2.items.getD i 0) v := by
      rcases hv with h | h
      · exact h.2
      · have := hlt i hi
        omega
    obtain ⟨r, a1, a2, a3⟩ := lst_con (fitT c) (okT c) t h1 i hi v hl
    rw [(old_ok c h1 h2).2] at a1
    exact ⟨r, a1, a2, fun p hp => .inl ⟨hlt p hp, a3 p hp⟩⟩
  · obtain ⟨hp, hpl, hpN⟩ := repl_ok c hk
    have hlen : (q.2.items.map (nu us ps (N + k * (n - us.items.length)) n)).length = q.2.items.length := List.length_map ..
    have hi' : i < q.2.items.length := by rw [← hlen]; exact hi
    have hq2 : ∀ p, p < q.2.items.length → q.2.items.getD p 0 < n := fun p hp => (os_ok c q hq).2 _ (getD_mem hp)
    have hat : ∀ p, p < q.2.items.length → (q.2.items.map (nu us ps (N + k * (n - us.items.length)) n)).getD p 0 = nu us ps (N + k * (n - us.items.length)) n (q.2.items.getD p 0) := fun p hp => map_getD c hp
    have hv' : MM B n os us N ts (nu us ps (N + k * (n - us.items.length)) n (q.2.items.getD i 0)) v := by rw [← hat i hi']; exact hv
    have hgood : ∃ h, Good B n os us N ts ps h ∧ h.items.getD (q.2.items.getD i 0) 0 = v := by
      have hu := hq2 i hi'
      generalize q.2.items.getD i 0 = u at hu hv'
      by_cases hin : u ∈ us.items
      · obtain ⟨j, hj, e⟩ := List.getElem_of_mem hin
        have e' : u = us.items.getD j 0 := by rw [List.getD_eq_getElem?_getD, List.getElem?_eq_getElem hj, ← e]; rfl
        rw [e', nu_in (by omega) c.un hj] at hv'
        rw [e']
        rcases hv' with h | h
        · exact good_of c hp hj hpl h.2
        · have := hpN _ (getD_mem (l := ps.items) (i := j) (by omega))
          omega
      · have hnew : IsNew us N n (replL ts toldN).length (nu us ps (N + k * (n - us.items.length)) n u) k u := ⟨(List.getElem?_eq_some_iff.mp hk).1, hu, hin, nu_out (by omega) hu hin⟩
        rcases hv' with h | ⟨_, _, _, h | h⟩
        · have := hnew.2.2.2
          omega
        · obtain ⟨k', u', ps', h', b1, b2, b3, b4⟩ := h
          obtain ⟨e1, e2⟩ := new_inj c hnew b1
          subst e1 e2
          rw [hk] at b2
          cases b2
          exact ⟨h', b3, b4.symm⟩
        · exact absurd hnew (h k u)
    obtain ⟨h, hg, he⟩ := hgood
    have hr : ∀ p, p < q.2.items.length → (appR h q.2).items.getD p 0 = h.items.getD (q.2.items.getD p 0) 0 := fun p hp => map_getD c hp
    refine ⟨appR h q.2, hg.1.2.2 q hq, by rw [hr i hi']; exact he, fun p hp' => ?_⟩
    have hp2 : p < q.2.items.length := by rw [← hlen]; exact hp'
    show MM B n os us N ts ((q.2.items.map (nu us ps (N + k * (n - us.items.length)) n)).getD p 0) ((appR h q.2).items.getD p 0)
    rw [hat p hp2, hr p hp2]
    exact good_mm c hk hg (hq2 p hp2)
theorem mm_left {x v : Nat} (h : MM B n os us N ts x v) : Lst B (dueN N ts n us) (dueT N ts n os us) x v := lst_max (due_fit c) c.bk.ok (mm_lt c) (mm_con c) h
theorem mm_full (h : ∀ u, u < N → ∃ v, Lst (toldB B n os us) N ts u v) {x : Nat} (hx : x < dueN N ts n us) : ∃ v, MM B n os us N ts x v := by
  by_cases h1 : x < N
  · obtain ⟨v, hv⟩ := h x h1
    exact ⟨v, .inl ⟨h1, hv⟩⟩
  · by_cases h2 : ∃ k u, IsNew us N n (replL ts toldN).length x k u
    · obtain ⟨k, u, hn⟩ := h2
      have hk := List.getElem?_eq_getElem hn.1
      obtain ⟨hp, hpl, hpN⟩ := repl_ok c hk
      have h0 := us_pos c
      obtain ⟨v, hv⟩ := h _ (hpN _ (getD_mem (l := ((replL ts toldN)[k]'hn.1).items) (i := 0) (by omega)))
      obtain ⟨q, hg, _⟩ := good_of c hp (j := 0) (by omega) hpl hv
      exact ⟨_, .inr ⟨by omega, hx, hg.1.2.1 _ (getD_mem (by rw [hg.1.1]; exact hn.2.1)), .inl ⟨k, u, _, q, hn, hk, hg, rfl⟩⟩⟩
    · have := c.s2
      exact ⟨0, .inr ⟨by omega, hx, by omega, .inr fun k u hn => h2 ⟨k, u, hn⟩⟩⟩
end
/-! ### choosers -/
theorem asc_nat_filter {k : Nat} {p : Nat → Bool} : Asc ((List.range k).filter p) := nat_asc.mpr (List.Pairwise.sublist List.filter_sublist List.pairwise_lt_range)
theorem allTup_has {its : List Row} : ∀ (l : List Row), (∀ r ∈ l, r ∈ its) → (⟨l⟩ : Tup Row) ∈ allTup its l.length
  | l, h => by
    have go : ∀ (k : Nat) (l : List Row), l.length = k → (∀ r ∈ l, r ∈ its) → (⟨l⟩ : Tup Row) ∈ allTup its k := by
      intro k
      induction k with
      | zero =>
        intro l hl _
        rw [List.eq_nil_of_length_eq_zero hl]
        exact List.mem_singleton.mpr rfl
      | succ k ih =>
        intro l hl h
        have hne : l ≠ [] := fun e => by rw [e] at hl; cases hl
        have e := List.dropLast_concat_getLast hne
        rw [allTup]
        exact List.mem_flatMap.mpr ⟨⟨l.dropLast⟩, ih _ (by rw [List.length_dropLast, hl]; rfl) fun r hr => h r ((List.dropLast_sublist l).subset hr), List.mem_map.mpr ⟨l.getLast hne, h _ (List.getLast_mem hne), by show (⟨l.dropLast ++ [l.getLast hne]⟩ : Tup Row) = _; rw [e]⟩⟩
    exact go _ l rfl h
/-- a good chooser's values of the lists are a filling -/
theorem chooser_fill {B : Bk} (hB : BkF B) {D : Nat} {dts : List Tie} (hF : FitB B D dts) {l : Row} (hl : PartC B (setNetN B) l) (hfull : ∀ u, u < D → ∃ v, Lst B D dts u v) : ∃ f, IsFill B D dts f := by
  have hset : ∀ u, u < D → (⟨(listsOf B D dts).getD u []⟩ : Row) ∈ setsOf B.size := fun u hu => by
    have e : (listsOf B D dts).getD u [] = (List.range B.size).filter fun v => !decide ((u, v) ∈ strikesOf B D dts) := known_get hu
    refine setsOf_mem.mpr ⟨by rw [e]; exact filter_subs _ _, fun z => ?_⟩
    obtain ⟨v, hv⟩ := hfull u hu
    have z : (listsOf B D dts).getD u [] = [] := z
    unfold Lst at hv
    rw [z] at hv
    cases hv
  let ch : Nat → Nat := fun u => l.items.getD ((setsOf B.size).idxOf (⟨(listsOf B D dts).getD u []⟩ : Row)) 0
  have hchv : ∀ u, u < D → ch u < B.size := fun u hu => hl.2.1 _ (getD_mem (by rw [hl.1]; exact List.idxOf_lt_length_of_mem (hset u hu)))
  refine ⟨⟨(List.range D).map ch⟩, by show (List.map _ _).length = D; rw [List.length_map, List.length_range], fun v hv => ?_, fun t ht => ?_⟩
  · obtain ⟨u, hu, rfl⟩ := List.mem_map.mp hv
    exact hchv u (List.mem_range.mp hu)
  · obtain ⟨hlk, htD⟩ := hF t ht
    obtain ⟨p1, p3, hrows⟩ := hB.ok.tie _ _ _ hlk
    let S : Tup Row := ⟨t.2.items.map fun u => ⟨(listsOf B D dts).getD u []⟩⟩
    let k := t.2.items.length
    have hpl : placesAt B t.1 = k := by unfold placesAt; rw [hlk]; rfl
    have hSat : ∀ p, p < k → S.items.getD p ⟨[]⟩ = ⟨(listsOf B D dts).getD (t.2.items.getD p 0) []⟩ := fun p hp => by
      show (List.map _ _).getD p _ = _
      rw [List.getD_eq_getElem?_getD, List.getElem?_map, List.getD_eq_getElem?_getD (l := t.2.items), List.getElem?_eq_getElem hp]
      rfl
    have hwith : ∀ r, withinB k S r = true ↔ ∀ p, p < k → Lst B D dts (t.2.items.getD p 0) (r.items.getD p 0) := fun r => by
      unfold withinB
      rw [decide_eq_true_iff, List.filter_eq_nil_iff]
      refine ⟨fun h p hp => ?_, fun h p hp => ?_⟩
      · have := h p (List.mem_range.mpr hp)
        rw [hSat p hp] at this
        refine Classical.byContradiction fun z => this ?_
        show (!decide (r.items.getD p 0 ∈ (listsOf B D dts).getD (t.2.items.getD p 0) [])) = true
        rw [decide_eq_false z]
        rfl
      · have hp := List.mem_range.mp hp
        have := h p hp
        rw [hSat p hp]
        intro z
        have z : (!decide (r.items.getD p 0 ∈ (listsOf B D dts).getD (t.2.items.getD p 0) [])) = true := z
        rw [decide_eq_true this] at z
        cases z
    have hcon := lst_con hF hB.ok
    have hSm : ∀ r ∈ S.items, r ∈ setsOf B.size := fun r hr => by
      obtain ⟨u, hu, rfl⟩ := List.mem_map.mp hr
      exact hset u (htD u hu)
    have hSl : S.items.length = k := List.length_map ..
    have hsh : isSh k (rowsAt B t.1) S = true := by
      unfold isSh
      rw [Bool.and_eq_true]
      refine ⟨?_, decide_eq_true ?_⟩
      · obtain ⟨v, hv⟩ := hfull _ (htD _ (getD_mem (l := t.2.items) (i := 0) p1))
        obtain ⟨r, h1, h2, h3⟩ := hcon t ht 0 p1 v hv
        have : inS k (rowsAt B t.1) S ≠ [] := fun e => by
          have hm : r ∈ inS k (rowsAt B t.1) S := List.mem_filter.mpr ⟨h1, (hwith r).mpr h3⟩
          rw [e] at hm
          cases hm
        rw [decide_eq_false this]
        rfl
      · show (⟨(List.range k).map fun p => (⟨placesL (inS k (rowsAt B t.1) S) p⟩ : Row)⟩ : Tup Row) = ⟨t.2.items.map fun u => ⟨(listsOf B D dts).getD u []⟩⟩
        congr 1
        refine List.ext_getElem? fun p => ?_
        by_cases hp : p < k
        · rw [List.getElem?_map, List.getElem?_range hp, List.getElem?_map, List.getElem?_eq_getElem hp]
          show some (⟨_⟩ : Row) = some ⟨_⟩
          have e : t.2.items[p]'hp = t.2.items.getD p 0 := by rw [List.getD_eq_getElem?_getD, List.getElem?_eq_getElem hp]; rfl
          rw [e]
          congr 2
          unfold placesL
          refine asc_ext (sset_asc _) ?_ fun v => ?_
          · have hu := htD _ (getD_mem hp)
            have e2 : (listsOf B D dts).getD (t.2.items.getD p 0) [] = (List.range B.size).filter fun v => !decide ((t.2.items.getD p 0, v) ∈ strikesOf B D dts) := known_get hu
            rw [e2]
            exact asc_nat_filter
          · rw [sset_mem, List.mem_map]
            refine ⟨fun ⟨r, h1, h2⟩ => ?_, fun hv => ?_⟩
            · have := (hwith r).mp (List.mem_filter.mp h1).2 p hp
              rw [h2] at this
              exact this
            · obtain ⟨r, h1, h2, h3⟩ := hcon t ht p hp v hv
              exact ⟨r, List.mem_filter.mpr ⟨h1, (hwith r).mpr h3⟩, h2⟩
        · rw [List.getElem?_eq_none (by rw [List.length_map, List.length_range]; omega), List.getElem?_eq_none (by rw [List.length_map]; omega)]
    have hSh : S ∈ shadowsAt B t.1 := by
      unfold shadowsAt
      rw [srt_mem, addKs_mem, hpl]
      refine .inr (List.mem_filter.mpr ⟨?_, hsh⟩)
      have := allTup_has (its := setsOf B.size) S.items hSm
      rw [hSl] at this
      exact this
    have hT : (t.1, idxT B.size S) ∈ setNetT B := by
      unfold setNetT
      rw [srt_mem]
      exact List.mem_flatMap.mpr ⟨t.1, srt_mem.mpr (lookup_mem_fst hlk), List.mem_map.mpr ⟨S, hSh, rfl⟩⟩
    have hne : (idxT B.size S).items ≠ [] := fun e => by
      have h1 := congrArg List.length e
      have h2 : (idxT B.size S).items.length = k := by show (S.items.map _).length = k; rw [List.length_map, hSl]
      rw [h2, List.length_nil] at h1
      omega
    have hmx : maxR (idxT B.size S) < setNetN B := maxR_lt hne fun u hu => by
      obtain ⟨r, hr, rfl⟩ := List.mem_map.mp hu
      exact List.idxOf_lt_length_of_mem (hSm r hr)
    have hkeep := hl.2.2 _ hT hmx
    have e : appR ⟨(List.range D).map ch⟩ t.2 = appR l (idxT B.size S) := by
      show (⟨List.map _ _⟩ : Row) = ⟨List.map _ (List.map _ (List.map _ _))⟩
      rw [List.map_map, List.map_map]
      congr 1
      refine List.map_congr_left fun u hu => ?_
      show ((List.range D).map ch).getD u 0 = _
      rw [List.getD_eq_getElem?_getD, List.getElem?_map, List.getElem?_range (htD u hu)]
      rfl
    rw [e]
    exact hkeep
/-! ### all -/
theorem nameOk_base : ∀ x ∈ baseN, NameOk x := by
  intro x hx
  simp only [baseN, List.mem_cons, List.not_mem_nil, or_false] at hx
  rcases hx with rfl | rfl | rfl | rfl | rfl | rfl <;> (unfold NameOk; decide)
theorem math_ok : MathOk := fun B n os us N ts c => by
  have hs2 := c.s2
  have hs3 := c.bk.ok.size
  have hN6 := c.N6
  have hn3 := c.n3
  have h0 := us_pos c
  have hul := us_le c
  have hK := c.told
  have hname : ∀ t ∈ B.ties, NameOk t.1 := fun t ht => nameOk_base _ (c.base t ht)
  have hnm : ∀ {x : Str} {a : Nat × List Row}, B.ties.lookup x = some a → NameOk x := fun {x a} h => by
    obtain ⟨q, hq, e⟩ := List.mem_map.mp (lookup_mem_fst h)
    rw [← e]
    exact hname q hq
  have hD : dueN N ts n us = N + (n - us.items.length) * (replL ts toldN).length := rfl
  have hDle : dueN N ts n us ≤ N + 2 * (5 - B.size) := by
    rw [hD]
    exact Nat.add_le_add_left (Nat.mul_le_mul (by omega) hK) _
  have hraw : (dueT N ts n os us).length ≤ 60 := by
    show (sset _).length ≤ 60
    unfold sset
    rw [(srt_perm _).length_eq]
    have h1 := nodup_len (dd_nodup (foundL ts toldN ++ copiesL N (replL ts toldN) n os us (replL ts toldN).length)) fun a ha => dd_mem.mp ha
    have h2 := copiesL_len (N := N) (n := n) (rs := replL ts toldN) (os := os) (us := us) (replL ts toldN).length
    have h3 : (replL ts toldN).length * os.length ≤ 3 * 3 := Nat.mul_le_mul (by omega) c.lo
    have h4 := c.few
    rw [List.length_append] at h1
    omega
  have hts : ts.length ≤ 1000 := by
    have h1 : ts.length = (foundL ts toldN).length + (replL ts toldN).length := by
      unfold foundL replL
      rw [List.length_map]
      clear hraw hDle hD hK c
      induction ts with
      | nil => rfl
      | cons a l ih =>
        by_cases e : a.1 = toldN
        · rw [List.filter_cons_of_neg (by simpa using e), List.filter_cons_of_pos (by simpa using e), List.length_cons, List.length_cons]
          omega
        · rw [List.filter_cons_of_pos (by simpa using e), List.filter_cons_of_neg (by simpa using e), List.length_cons, List.length_cons]
          omega
    have := c.few
    omega
  have htold : NameOk toldN := by unfold NameOk; decide
  have hdf := due_fit c
  refine ⟨⟨by omega, fun t ht => ?_, c.asc, by omega⟩, ⟨by omega, fun t ht => ?_, c.ao, by have := c.lo; omega⟩, ⟨by omega, fun t ht => ?_, sset_asc _, by omega⟩, hdf, okT c, fitT c, by omega, fun k hk => ?_, by omega, ?_, fill_cut c, fun u hu v hv => mm_left c (.inl ⟨hu, hv⟩), fun ⟨l, hl⟩ => ?_⟩
  · rcases c.ties t ht with h | h
    · have := c.bk.ok.tie _ _ _ h.2.1
      exact ⟨hnm h.2.1, this.1, this.2.1, h.2.2⟩
    · exact ⟨by rw [h.1]; exact htold, by omega, by omega, h.2.2⟩
  · have h := c.fo t ht
    have := c.bk.ok.tie _ _ _ h.1
    exact ⟨hnm h.1, this.1, this.2.1, h.2⟩
  · have h := hdf t ht
    have := c.bk.ok.tie _ _ _ h.1
    exact ⟨hnm h.1, this.1, this.2.1, h.2⟩
  · by_cases h : B.size = 2
    · rw [h]
      exact Nat.le_trans (Nat.pow_le_pow_right (by decide) (show k ≤ 10 by omega)) (by decide)
    · have h3 : B.size = 3 := by omega
      rw [h3]
      exact Nat.le_trans (Nat.pow_le_pow_right (by decide) (show k ≤ 7 by omega)) (by decide)
  · by_cases h : B.size = 2
    · rw [h]
      exact Nat.le_trans (Nat.pow_le_pow_right (by decide) (show N ≤ 4 by omega)) (by decide)
    · have h3 : B.size = 3 := by omega
      rw [h3]
      exact Nat.pow_le_pow_right (by decide) (show N ≤ 3 by omega)
  · rw [lst_empty, lst_empty]
    refine ⟨fun ⟨x, hx, h⟩ => ?_, fun ⟨u, hu, h⟩ => ?_⟩
    · apply Classical.byContradiction
      intro hno
      have hfull : ∀ u, u < N → ∃ v, Lst (toldB B n os us) N ts u v := fun u hu => Classical.byContradiction fun z => hno ⟨u, hu, fun v hv => z ⟨v, hv⟩⟩
      obtain ⟨v, hv⟩ := mm_full c hfull hx
      exact h v (mm_left c hv)
    · apply Classical.byContradiction
      intro hno
      have hfull : ∀ x, x < dueN N ts n us → ∃ v, Lst B (dueN N ts n us) (dueT N ts n os us) x v := fun x hx => Classical.byContradiction fun z => hno ⟨x, hx, fun v hv => z ⟨v, hv⟩⟩
      obtain ⟨f, hf⟩ := chooser_fill c.bk hdf hl hfull
      obtain ⟨g1, g2, g3⟩ := fill_down c hf
      have hcon : Con (toldB B n os us) ts (fun u v => u < N ∧ v = (takeR N f).items.getD u 0) := by
        intro t ht i hi v hv
        have e : ∀ p, p < t.2.items.length → (appR (takeR N f) t.2).items.getD p 0 = (takeR N f).items.getD (t.2.items.getD p 0) 0 := fun p hp => map_getD c hp
        exact ⟨_, g3 t ht, by rw [e i hi]; exact hv.2.symm, fun p hp => ⟨ts_lt c ht _ (getD_mem hp), e p hp⟩⟩
      exact h _ (lst_max (fitT c) (okT c) (L := fun u v => u < N ∧ v = (takeR N f).items.getD u 0) (fun u v hv => ⟨hv.1, by rw [hv.2]; exact g2 _ (getD_mem (by rw [g1]; exact hv.1))⟩) hcon ⟨hu, rfl⟩)
end K64

/-! ## W27 -/
/-! Walk: law. -/
namespace K64
open PySem PySem.Spec PyProof.Rows L2 PySem.W
section
variable {w : World} {K : PySem.W.Frag} {F : Fr} {ρ : Sls} {σ : L2.St} {G H G' H' : Hp}
/-- the sack is a list of one's own, behind data -/
theorem StG.drawnOwn {j : Nat} {p : Addr} {ds : List PyData} (S : StG w K F ρ σ G H) (hj : ρ[j]? = some (.ownL ds)) (hp : σ[j]? = some (some (.ref p))) (g : Grow G (del H p) G' H') (hG : G' p = none) (hs : Sk H' p) :
    ∃ a b c : Int, StG w K F (ρ.set j (.ownL [.int a, .int b, .int c])) σ G' H' := by
  obtain ⟨p', o, e1, e2, e3, e4, e5, e6⟩ := SlOk.own (sl := .ownL ds) rfl (S.at_ j _ hj)
  rw [hp] at e1
  cases e1
  obtain ⟨a, b, c, hs⟩ := hs
  have kn : ∀ {x : Addr} {u : HO}, F.H0 x = some u → x ≠ p := fun e => ne_of_none e e4
  refine ⟨a, b, c, ⟨S.grow.g.trans g.g, fun x u e => g.h x u (by rw [del_ne (kn e)]; exact S.grow.h x u e), g.s, fun x h1 h2 => ?_⟩, by rw [List.length_set]; exact S.len, fun i sl h => ?_, fun i k x y hi hk hx hy hik => ?_, fun k h => ?_⟩
  · obtain ⟨u, hu⟩ := Option.ne_none_iff_exists'.mp h2
    refine g.n x (S.grow.n x h1 h2) ?_
    rw [del_ne (kn hu), S.grow.h x u hu]
    exact fun z => nomatch z
  · rcases get_set h with ⟨z1, _, z2⟩ | ⟨z1, z2⟩
    · subst z1 z2
      exact ⟨p, _, hp, hs, hG, e4, e5, [.int a, .int b, .int c], rfl, .cons (.int a) (.cons (.int b) (.cons (.int c) .nil))⟩
    · have q := S.at_ i sl z2
      by_cases os : sl.isOwn = true
      · obtain ⟨q', u, f1, f2, f3, f4, f5, f6⟩ := SlOk.own os q
        have pk : q' ≠ p := fun z => S.dist i j sl _ z2 hj os rfl (Ne.symm z1) (by rw [f1, hp, z])
        refine .mk f1 (g.h q' u (by rw [del_ne pk]; exact f2)) (g.n q' f3 (by rw [del_ne pk, f2]; exact fun z => nomatch z)) f4 f5 (f6.mono g.g)
      · cases sl with
        | non => exact trivial
        | dat d => obtain ⟨v, q1, q2⟩ := q; exact ⟨v, q1, q2.mono g.g⟩
        | sck => exact q
        | _ => exact absurd rfl os
  · have old : ∀ {i : Nat} {x : Sl}, (ρ.set j (.ownL [.int a, .int b, .int c]))[i]? = some x → x.isOwn = true → ∃ x', ρ[i]? = some x' ∧ x'.isOwn = true := fun {i x} h hx => by
      rcases get_set h with ⟨z1, _, z2⟩ | ⟨z1, z2⟩
      · subst z1
        exact ⟨_, hj, rfl⟩
      · exact ⟨x, z2, hx⟩
    obtain ⟨x', hx1, hx2⟩ := old hi hx
    obtain ⟨y', hy1, hy2⟩ := old hk hy
    exact S.dist i k x' y' hx1 hy1 hx2 hy2 hik
  · obtain ⟨s1, s2, a', b', c', s3⟩ := S.sack k h
    have pk : k ≠ p := fun z => e5 (by rw [h, z])
    exact ⟨s1, g.n k s2 (by rw [del_ne pk, s3]; exact fun z => nomatch z), a', b', c', g.h k _ (by rw [del_ne pk]; exact s3)⟩
end
section
variable {X : Cx} {ρ : Sls} {pos p p2 : Pos} {a b : Expr} {P P2 : Bool → Sls → Prop}
/-- f(sack), the sack a list of one's own -/
theorem ex_cO {k : Nat} {ps : List Str} {R : List PyData → PyData → Prop} {x y : Str} {i : Nat} {i1 i2 i3 : Int} (c : CalG X.prog X.w X.K X.mg X.base k x ps (spK X.w X.K (fun ds => ds = []) R)) (hgd : X.A.guards = some []) (hr : Room k X.A) (hv : PE X (.Name y p2) (tVar i)) (hi : ρ[i]? = some (.ownL [.int i1, .int i2, .int i3]))
    (hg : Gl X x := by rfl) (hs : starEach [.Name y p2] X.env = (false, eval (.Name y p2) X.env) :: starEach [] X.env := by rfl) (hdb : (x == ("__debug__" : Str)) = false := by decide) (hpl : (backTo pos (starEach [] X.env)).any (·.1) = false := by rfl) :
    EX X (.Call (.Name x p) [.Name y p2] [] pos) ρ (fun d r => R [] d ∧ ∃ j1 j2 j3 : Int, r = ρ.set i (.ownL [.int j1, .int j2, .int j3])) := by
  obtain ⟨f, fd, F, hm, hk, hb⟩ := c
  refine pe_imp (pe_callG F hgd hr hg hm hk hb .nil pass0 (pa_cons hv (xa_nil (P := fun x r => x = [] ∧ r = ρ) ⟨rfl, rfl⟩) hs) hdb hs hpl) fun σ H Q ⟨F', G, S, q⟩ => ?_
  obtain ⟨l, o, e1, e2, e3, e4, e5, xs, e6, e7⟩ := SlOk.own (sl := .ownL [.int i1, .int i2, .int i3]) rfl (S.at_ i _ hi)
  refine ⟨.ref l, e1, F', G, S, fun vs ds r G1 H1 p1 S1 s1 dvs => ?_⟩
  obtain ⟨rfl, rfl⟩ := p1
  obtain ⟨l', o', f1, f2, f3, f4, f5, ys, f6, f7⟩ := SlOk.own (sl := .ownL [.int i1, .int i2, .int i3]) rfl (S1.at_ i _ hi)
  rw [e1] at f1
  cases f1
  have hsk : Sk H1 l := by
    subst f6
    cases f7 with
    | cons d1 r1 =>
      cases r1 with
      | cons d2 r2 =>
        cases r2 with
        | cons d3 r3 =>
          cases r3
          cases d1
          cases d2
          cases d3
          exact ⟨i1, i2, i3, f2⟩
  cases dvs
  refine ⟨G1, l, [], [], rfl, S1.grow.s, f3, hsk, .nil, rfl, fun v d G' H' hR g hG hS dv => ?_⟩
  obtain ⟨j1, j2, j3, S2⟩ := S1.drawnOwn hi e1 g hG hS
  exact q v d _ G' H' ⟨hR, j1, j2, j3, rfl⟩ S2 (s1.trans g.g) dv
theorem tx_not (h : TX X a ρ P) : TX X (.UnaryOp .Not a pos) ρ (fun k r => P (!k) r) :=
  pt_imp (pt_not h) fun σ H Q ⟨F, G, S, q⟩ => ⟨F, G, S, fun k r G' H' p S' s' => q (!k) r G' H' (by show P (!!k) r; rw [Bool.not_not]; exact p) S' s'⟩
theorem tx_orF (ha : TX X a ρ P) (hP : ∀ k r, P k r → k = false) (hb : ∀ r, P false r → TX X b r P2) : TX X (.BoolOp .Or [a, b] pos) ρ P2 := by
  have hb' : PT X b (fun σ H Q => ∃ r, P false r ∧ tXT X.w X.K r P2 σ H Q) := ⟨fun pins s σ H Q I ⟨r, h, z⟩ => (hb r h).run pins s σ H Q I z⟩
  refine pt_imp (PW.pt (pw_or ha (pw_or1 hb'))) fun σ H Q ⟨F, G, S, q⟩ => ⟨F, G, S, fun k r G' H' p S' s' => ?_⟩
  have := hP k r p
  subst this
  show if false = true then _ else _
  rw [if_neg Bool.false_ne_true]
  exact ⟨r, p, F, G', S', fun k2 r2 G2 H2 p2 S2 s2 => q k2 r2 G2 H2 p2 S2 (s'.trans s2)⟩
end
def lawA : List Tie := [("less", ⟨[0, 1]⟩), ("less", ⟨[1, 2]⟩)]
def lawB : List Tie := [("far", ⟨[0, 2]⟩), ("far", ⟨[1, 1]⟩)]
def lawC : List Tie := [("less", ⟨[1, 4]⟩), ("less", ⟨[2, 3]⟩), ("less", ⟨[3, 0]⟩), ("less", ⟨[4, 1]⟩)]
theorem law_list : foundL lawB "far" ++ copiesL 3 (replL lawB "far") 3 lawA ⟨[2, 0]⟩ (replL lawB "far").length = ([("less", ⟨[2, 3]⟩), ("less", ⟨[3, 0]⟩), ("less", ⟨[1, 4]⟩), ("less", ⟨[4, 1]⟩)] : List Tie) := by decide +kernel
theorem lawC_asc : Asc lawC := by unfold Asc lawC; decide +kernel
theorem law_ties : spTies 3 lawB "far" 3 lawA ⟨[2, 0]⟩ = lawC := by
  unfold spTies
  rw [law_list]
  refine asc_ext (sset_asc _) lawC_asc fun a => ?_
  rw [sset_mem]
  unfold lawC
  simp only [List.mem_cons, List.not_mem_nil, or_false]
  constructor
  · rintro (h | h | h | h) <;> simp [h]
  · rintro (h | h | h | h) <;> simp [h]
theorem name_less : NameOk "less" := by unfold NameOk; decide
theorem name_far : NameOk "far" := by unfold NameOk; decide
theorem netOk_of {n : Nat} {ts : List Tie} (hn : n ≤ 60) (h : ∀ t ∈ ts, TieOk n t) (ha : Asc ts) (hl : ts.length ≤ 30000) : NetOk n ts := ⟨hn, h, ha, hl⟩
theorem rowOk2 {n a b : Nat} (ha : a < n) (hb : b < n) : RowOk n ⟨[a, b]⟩ := ⟨(show 1 ≤ 2 by decide), (show 2 ≤ 3 by decide), fun m hm => by
  rcases List.mem_cons.mp hm with rfl | hm
  · exact ha
  · rw [List.mem_singleton] at hm
    rw [hm]; exact hb⟩
theorem netA : NetOk 3 lawA := netOk_of (by decide) (fun t ht => by
  simp only [lawA, List.mem_cons, List.not_mem_nil, or_false] at ht
  rcases ht with rfl | rfl
  · exact ⟨name_less, rowOk2 (by decide) (by decide)⟩
  · exact ⟨name_less, rowOk2 (by decide) (by decide)⟩) (by unfold Asc lawA; decide +kernel) (by decide)
theorem netB : NetOk 3 lawB := netOk_of (by decide) (fun t ht => by
  simp only [lawB, List.mem_cons, List.not_mem_nil, or_false] at ht
  rcases ht with rfl | rfl
  · exact ⟨name_far, rowOk2 (by decide) (by decide)⟩
  · exact ⟨name_far, rowOk2 (by decide) (by decide)⟩) (by unfold Asc lawB; decide +kernel) (by decide)
theorem netC5 : NetOk 5 lawC := netOk_of (by decide) (fun t ht => by
  simp only [lawC, List.mem_cons, List.not_mem_nil, or_false] at ht
  rcases ht with rfl | rfl | rfl | rfl
  · exact ⟨name_less, rowOk2 (by decide) (by decide)⟩
  · exact ⟨name_less, rowOk2 (by decide) (by decide)⟩
  · exact ⟨name_less, rowOk2 (by decide) (by decide)⟩
  · exact ⟨name_less, rowOk2 (by decide) (by decide)⟩) lawC_asc (by decide)
theorem law_size : spSize 3 lawB "far" 3 ⟨[2, 0]⟩ = 5 := by decide +kernel
theorem law_pre : SpPre 3 lawB "far" 3 lawA ⟨[2, 0]⟩ := by
  refine ⟨name_far, netB, netA, rowOk2 (by decide) (by decide), by decide, by decide, ?_, by decide +kernel, ?_⟩
  · have : replL lawB "far" = [⟨[0, 2]⟩, ⟨[1, 1]⟩] := by decide +kernel
    rw [this]
    intro p hp
    simp only [List.mem_cons, List.not_mem_nil, or_false] at hp
    rcases hp with rfl | rfl <;> rfl
  · rw [law_ties, law_size]
    exact netC5
def R_law (ds : List PyData) (d : PyData) : Prop := ∃ ns : List Int, ds = [scrD ns] ∧ ns.length ≤ 63 ∧ d = .bool true
section
variable {P : Program} {w : World} {K : PySem.W.Frag} {mg : Str → Option Value} {base : Heap}
theorem fn_law (M : Md K mg) (c1 : Cal P w K mg base 1 "_law_sack" ["_law_script", "_law_at"] (spO w K R_sack)) (c2 : CalG P w K mg base 10 "_law_cell_right" ["_law_sack_here"] (spK w K (fun ds => ds = []) (fun _ d => d = .bool true))) (c3 : CalI P w K mg base) (c4 : Cal P w K mg base 9 "spelled_out" ["net", "name", "other", "unknowns"] (spD w K R_spelled))
    {f : Addr} {fd : FuncData} (F : Fun K "law" "law" s_law f fd) : FnG P w K mg base CX0 11 f fd ["_law_script"] (spD w K R_law) := by
  refine fnGD F sc_law (fun ds d ⟨_, h, _⟩ => by rw [h]; rfl) fun cdv A outer s H E hg hr ds d h => ?_
  obtain ⟨ns, rfl, hns, rfl⟩ := h
  obtain ⟨fdI, cI, hbI⟩ := c3
  obtain ⟨fd1, F1⟩ := M.fsize
  obtain ⟨fd2, F2⟩ := M.fties
  have b1 : Binds K fd1 ["self"] [] := F1.binds fun _ _ _ _ _ _ us hl => match us, hl with | [_], _ => rfl
  have b2 : Binds K fd2 ["self"] [] := F2.binds fun _ _ _ _ _ _ us hl => match us, hl with | [_], _ => rfl
  let ρ0 : Sls := ini n_law [scrD ns]
  let m : Nat := if 1 < (if ns.length < 4 then ns.length else 4) then (if ns.length < 4 then ns.length else 4) else 1
  have em : m ≤ 4 := by show (if _ then _ else _) ≤ 4; split <;> split <;> omega
  have hrange : DE (cxN P w K mg base n_law "law" s_law f cdv A outer s H E) (match (defBody s_law) with | .For _ (.Call _ [e] _ _) _ _ _ :: _ => e | _ => .Constant .none 0 ⟨0, 0, 0, 0⟩) (er ρ0) (.int (m : Nat)) :=
    de_eq (de_callB (call_max2 rfl) rdc_max2 rfl (M.fr 11) PyProof.Rows.boot_max (da_cons (de_int (i := 1)) (da_cons (de_callB (call_min2 rfl) rdc_min2 rfl (M.fr 12) PyProof.Rows.boot_min (da_cons (de_int (i := 4)) (da_cons (de_callB call_len_seq rdc_lenScr rfl (M.fr 1) PySem.boot_len (da_cons (dv 0) da_nil)) da_nil))) da_nil))) (by
      show PyData.int _ = PyData.int ((if _ then _ else _ : Nat) : Int)
      congr 1
      split <;> split <;> split <;> split <;> omega)
  refine ds_cons (M := fun r => WeakL r ρ0) (d1_for (List.range m) (fun (i : Nat) => .int (i : Nat)) (fun _ r => WeakL r ρ0) PassesOwn.never rfl (di_range rfl (M.fr 9) (da_cons hrange da_nil) (by omega)) (pn 1 sc_law.nd) (WeakL.refl _) (fun i a r hia hw => ?_) fun r h => h) fun r hw => ?_
  · let s1 : Sls := ρ0.set 1 (.dat (.int (a : Nat)))
    refine ⟨s1, fun x σ F G H Q S dx q => tgs_name x σ F G H Q (S.weak hw.weak.1 hw.weak.2) dx q, ?_⟩
    let s2 : Int → Int → Int → Sls := fun i1 i2 i3 => s1.set 2 (.ownL [.int i1, .int i2, .int i3])
    refine ds_cons (M := fun r => ∃ i1 i2 i3, r = s2 i1 i2 i3) (d1_imp (d_own 2 (sl := .ownL (sackL ns a)) sc_law.nd (do_c c1 (hr.mono (by decide)) (da_cons (dv 0) (da_cons (dv 1) da_nil)) ⟨ns, a, rfl, rfl⟩)) (fun r h => ⟨_, _, _, h⟩) fun _ _ h => h) ?_
    rintro r ⟨i1, i2, i3, rfl⟩
    have hcall : ∀ (p1 p2 p3 p4 : Pos) (i1 i2 i3 : Int), TX (cxN P w K mg base n_law "law" s_law f cdv A outer s H E) (.UnaryOp .Not (.Call (.Name "_law_cell_right" p1) [.Name "_law_sack_here" p2] [] p3) p4) (s2 i1 i2 i3) (fun k r => k = false ∧ ∃ j1 j2 j3, r = s2 j1 j2 j3) := fun p1 p2 p3 p4 i1 i2 i3 => by
      have he : EX (cxN P w K mg base n_law "law" s_law f cdv A outer s H E) (.Call (.Name "_law_cell_right" p1) [.Name "_law_sack_here" p2] [] p3) (s2 i1 i2 i3) (fun d r => d = .bool true ∧ ∃ j1 j2 j3 : Int, r = (s2 i1 i2 i3).set 2 (.ownL [.int j1, .int j2, .int j3])) := ex_imp (ex_cO c2 hg hr (pv 2) rfl) fun d r h => h
      exact tx_imp (tx_not (tx_val he fun d r h => ⟨true, h.1⟩)) fun k r ⟨h1, j1, j2, j3, h2⟩ => ⟨by injection h1 with h1; simpa using h1, j1, j2, j3, h2⟩
    refine ds_one (d1_if (P := fun k r => k = false ∧ ∃ j1 j2 j3, r = s2 j1 j2 j3) (tx_orF (hcall _ _ _ _ i1 i2 i3) (fun k r h => h.1) (fun r ⟨_, j1, j2, j3, e⟩ => by rw [e]; exact hcall _ _ _ _ j1 j2 j3)) (fun r ⟨h, _⟩ => by cases h) (fun r ⟨_, j1, j2, j3, e⟩ => ds_nil ?_))
    rw [e]
    exact .same (.non (.non (.same (.same (.same .nil)))))
  · refine ds_wk hw ?_
    let ρ1 : Sls := ρ0.set 3 (.dat (netD ((3 : Nat) : Int) (tiesD lawA)))
    refine ds_then (ρ' := ρ1) (d_let 3 (d := netD ((3 : Nat) : Int) (tiesD lawA)) sc_law.nd (de_make M.mkr cI (hr.mono (by decide)) rfl M.net hbI (da_cons (de_int (i := ((3 : Nat) : Int))) (da_cons (de_eq (d := .tuple (tiesD lawA)) (de_tup (da_cons (de_tup (da_cons de_str (da_cons (de_tup (da_cons de_int (da_cons de_int da_nil)) (show 2 ≤ sizeLine by decide)) da_nil)) (show 2 ≤ sizeLine by decide)) (da_cons (de_tup (da_cons de_str (da_cons (de_tup (da_cons de_int (da_cons de_int da_nil)) (show 2 ≤ sizeLine by decide)) da_nil)) (show 2 ≤ sizeLine by decide)) da_nil)) (show 2 ≤ sizeLine by decide)) rfl) da_nil)) ⟨3, lawA, rfl, rfl, netA⟩ pass0)) ?_
    let ρ2 : Sls := ρ1.set 4 (.dat (netD ((5 : Nat) : Int) (tiesD lawC)))
    refine ds_then (ρ' := ρ2) (d_let 4 (d := netD ((5 : Nat) : Int) (tiesD lawC)) sc_law.nd (de_eq (de_c c4 (hr.mono (by decide)) (da_cons (de_make M.mkr cI (hr.mono (by decide)) rfl M.net hbI (da_cons (de_int (i := ((3 : Nat) : Int))) (da_cons (de_eq (d := .tuple (tiesD lawB)) (de_tup (da_cons (de_tup (da_cons de_str (da_cons (de_tup (da_cons de_int (da_cons de_int da_nil)) (show 2 ≤ sizeLine by decide)) da_nil)) (show 2 ≤ sizeLine by decide)) (da_cons (de_tup (da_cons de_str (da_cons (de_tup (da_cons de_int (da_cons de_int da_nil)) (show 2 ≤ sizeLine by decide)) da_nil)) (show 2 ≤ sizeLine by decide)) da_nil)) (show 2 ≤ sizeLine by decide)) rfl) da_nil)) ⟨3, lawB, rfl, rfl, netB⟩ pass0)
      (da_cons (de_str (x := "far")) (da_cons (dv 3) (da_cons (de_eq (d := rowD ⟨[2, 0]⟩) (de_tup (da_cons de_int (da_cons de_int da_nil)) (show 2 ≤ sizeLine by decide)) rfl) da_nil)))) ⟨3, lawB, "far", 3, lawA, ⟨[2, 0]⟩, rfl, law_pre, rfl⟩) (by rw [law_ties, law_size]))) ?_
    let ρ3 : Sls := ρ2.set 5 (.dat (.tuple (tiesD lawC)))
    refine ds_then (ρ' := ρ3) (d_let 5 (d := .tuple (tiesD lawC)) sc_law.nd (de_eq (de_tup (da_cons (de_tup (da_cons de_str (da_cons (de_tup (da_cons de_int (da_cons de_int da_nil)) (show 2 ≤ sizeLine by decide)) da_nil)) (show 2 ≤ sizeLine by decide)) (da_cons (de_tup (da_cons de_str (da_cons (de_tup (da_cons de_int (da_cons de_int da_nil)) (show 2 ≤ sizeLine by decide)) da_nil)) (show 2 ≤ sizeLine by decide)) (da_cons (de_tup (da_cons de_str (da_cons (de_tup (da_cons de_int (da_cons de_int da_nil)) (show 2 ≤ sizeLine by decide)) da_nil)) (show 2 ≤ sizeLine by decide)) (da_cons (de_tup (da_cons de_str (da_cons (de_tup (da_cons de_int (da_cons de_int da_nil)) (show 2 ≤ sizeLine by decide)) da_nil)) (show 2 ≤ sizeLine by decide)) da_nil)))) (show 4 ≤ sizeLine by decide)) rfl)) ?_
    refine ds_one (d_ret (de_and (k := true) (l := true) (de_eq (de_cmp op_eq rd_eqI (de_prop M.nk M.psize (ok_size M F1) (hr.mono (by decide)) b1 (dv 4) ⟨_, _, rfl, rfl⟩ pass0) (de_int (i := 5)) (nomark _)) (by rw [decide_eq_true (by decide)])) (fun _ => de_one (de_eq (de_cmp (opD_eq (α := Tup Tie) (hu64 hr) (by decide)) (rd_eqD2 (a := (⟨lawC⟩ : Tup Tie)) (b := ⟨lawC⟩)) (de_prop M.nk M.pties (ok_ties M F2) (hr.mono (by decide)) b2 (dv 4) ⟨_, _, rfl, rfl⟩ pass0) (dv 5) (nomark _)) (by rw [decide_eq_true rfl])))) rfl)
end
end K64

/-! ## W28 -/
/-! The module's facts from the head; the law, given the plain mathematics. -/
namespace K64
open PySem PySem.Spec PyProof.Rows L2 PySem.W
theorem glo_list : (defsL.map fun d => He.Fa.glo d.1) ++ [.glo "Net"] = fa1 ++ fa2 := rfl
theorem free_list : (frees.map fun x => He.Fa.free x) = fa3 := rfl
theorem fn_list : (defsL.map fun d => (⟨fun K => He.ga K d.1, d.1, d.1, d.2⟩ : Dd)) ++ [d_Net_init, d_Net_size, d_Net_ties] = fnAll := rfl
theorem glo_mem {f : He.Fa} (h : f ∈ fa1 ++ fa2) : f ∈ faAll := by
  unfold faAll
  rcases List.mem_append.mp h with h | h
  · exact List.mem_append_left _ h
  · exact List.mem_append_right _ (List.mem_append_left _ h)
theorem free_mem {f : He.Fa} (h : f ∈ fa3) : f ∈ faAll := List.mem_append_right _ (List.mem_append_right _ (List.mem_append_left _ h))
theorem last_mem {f : He.Fa} (i : Nat) (h : fa4[i]? = some f) : f ∈ faAll := List.mem_append_right _ (List.mem_append_right _ (List.mem_append_right _ (List.mem_of_getElem? h)))
theorem defs_len : defsL.length = 43 := rfl
theorem md_of {K : PySem.W.Frag} {h : Heap} {mg : Str → Option Value} (X : K.In h) (G : h.Ns mainGlobals mg) (c : Says2 faAll moAll fnAll K) : Md K mg := by
  have hm := c.more
  unfold moAll at hm
  rw [Bool.and_eq_true, Bool.and_eq_true] at hm
  obtain ⟨m1, m2, m3⟩ := hm
  unfold instB at m1
  simp only [Bool.and_eq_true, decide_eq_true_eq] at m1
  obtain ⟨i1, i2, i3, i4⟩ := m1
  have hnet : He.Fa.glo "Net" ∈ faAll := glo_mem (by rw [← glo_list]; exact List.mem_append_right _ (List.mem_singleton.mpr rfl))
  have hdef : ∀ (i : Nat) (d : Str × Stmt), defsL[i]? = some d → fnAll[i]? = some ⟨fun K => He.ga K d.1, d.1, d.1, d.2⟩ := fun i d hd => by
    rw [← fn_list, List.getElem?_append_left (by rw [List.length_map]; exact (List.getElem?_eq_some_iff.mp hd).1), List.getElem?_map, hd]
    rfl
  exact {
    free := fun i x hx => He.free_ok X G (c.fact (free_mem (by rw [← free_list]; exact List.mem_map.mpr ⟨x, List.mem_of_getElem? hx, rfl⟩)))
    fn_ := fun i d hd => ⟨He.glo_ok X G (c.fact (glo_mem (by rw [← glo_list]; exact List.mem_append_left _ (List.mem_map.mpr ⟨d, List.mem_of_getElem? hd, rfl⟩)))), c.def_ i (hdef i d hd)⟩
    iLetters := He.int_ok X G (c.fact (last_mem 0 rfl))
    iGreatest := He.int_ok X G (c.fact (last_mem 1 rfl))
    iPlaces := He.int_ok X G (c.fact (last_mem 2 rfl))
    iUnknowns := He.int_ok X G (c.fact (last_mem 3 rfl))
    iApplied := He.int_ok X G (c.fact (last_mem 4 rfl))
    net := He.glo_ok X G (c.fact hnet)
    nk := ⟨He.cls_ok (c.fact (last_mem 5 rfl)), He.noat_ok (c.fact (last_mem 7 rfl)), He.noat_ok (c.fact (last_mem 8 rfl)), He.noat_ok (c.fact (last_mem 9 rfl)), i1, i2, i3, i4⟩
    mkr := He.mkr_ok (c.fact (last_mem 6 rfl))
    init := c.def_ 43 (d := d_Net_init) rfl
    psize := propB_ok m2
    fsize := c.def_ 44 (d := d_Net_size) rfl
    pties := propB_ok m3
    fties := c.def_ 45 (d := d_Net_ties) rfl }
section
variable {P : Program} {w : World} {K : PySem.W.Frag} {mg : Str → Option Value} {base : Heap}
theorem law_all (HM : MathOk) (M : Md K mg) {f : Addr} {fd : FuncData} (F : Fun K "law" "law" s_law f fd) : FnG P w K mg base CX0 11 f fd ["_law_script"] (spD w K R_law) := by
  have a1 := cal_is_integer (P := P) (w := w) (base := base) M
  have a2 := cal_within M a1
  have a3 := cal_is_name (P := P) (w := w) (base := base) M
  have a4 := cal_asc (P := P) (w := w) (base := base) M
  have a5 := cal_is_row M a2
  have a6 := cal_is_row_of M a5
  have a7 := cal_applied M a3 a6
  have a8 := cal_are_applied M a7 a4
  have a9 := cal_joined (P := P) (w := w) (base := base) M
  have a10 := cal_reqNet (P := P) (w := w) (base := base) M
  have a11 := cal_reqUnk M a6
  have a12 := cal_init M a2 a8
  have a13 := cal_made M a12
  have a14 := cal_copy (P := P) (w := w) (base := base) M
  have a15 := cal_spelled_out M a10 a3 a11 a14 a9 a12
  have a16 := cal_is_net (P := P) (w := w) (base := base) M
  have b1 := cal_sack (P := P) (w := w) (base := base) M
  have b2 := cal_grab (P := P) (w := w) (base := base) M
  have b3 := cal_one_of M b2
  have b4 := cal_shuffled M b2
  have b5 := cal_sets_of (P := P) (w := w) (base := base) M
  have b6 := cal_all_rows (P := P) (w := w) (base := base) M
  have b7 := cal_all_tuples (P := P) (w := w) (base := base) M
  have b8 := cal_places_of (P := P) (w := w) (base := base) M
  have b9 := cal_rows_any M b6 b3 b2
  have b10 := cal_with (P := P) (w := w) (base := base) M
  have d1 := cal_listed (P := P) (w := w) (base := base) M
  have d2 := cal_lists M d1
  have d3 := cal_fill (P := P) (w := w) (base := base) M
  have d4 := cal_shadow_rows M b5 b7 b8
  have d5 := cal_shadows M d4
  have d6 := cal_set_net M b5 d5
  have d7 := cal_closed M b6 d4
  have d8 := cal_any M b5 b2 b3 b4
  have d9 := cal_book M b2 b3 b4 d8 b9 d7
  have d10 := cal_told M d3
  have d11 := cal_fits (P := P) (w := w) (base := base) M
  have d12 := cal_spelt (P := P) (w := w) (base := base) M
  have d13 := cal_case M b2 b3 b4 d9 d10 b10
  have d14 := cal_cell M HM d13 d12 a13 a15 a16 d11 d3 d2 (fun hB => cal_decided M d6 hB)
  exact fn_law M b1 d14 a12 a15 F
end
end K64
theorem K64_holds (HM : K64.MathOk) : PySem.Challenge.rw_setchooser_k64_whole_nets_spelled_out.Holds := by
  open PySem PySem.W PySem.Calls PyProof.Rows in
  w_on; o_law
  refine HandSHeadRun.head_any (r := K64.R) (q := PySem.W.view K64.R.prog [59]) (H := K64.hk) (ob := K64.ob) (M := 12000) (loose := K64.loose) (d := HandSHeadRun.topDef K64.R.prog 59) (kwd := []) K64.ob_eq
    (by kernel_rfl) (fun s => by kernel_rfl) K64.run (by kernel_rfl) (by kernel_rfl) (by kernel_rfl) (by rfl) (by first | assumption | decide +kernel) (by decide +kernel) ⟨rfl, rfl, rfl, rfl, rfl, by decide +kernel⟩ ?hw ?hc
  case hw => w_witness2
  case hc =>
    refine K64.walk_ofG (l := PySem.Challenge.rw_setchooser_k64_whole_nets_spelled_out) (n := 63) (k := 11) (x := "_law_script") (CX := L2.CX0) rfl (by decide) (by kernel_rfl) ⟨rfl, by decide, by decide⟩ ?F (fun _ _ _ _ z => z)
    intro w mg fa h Y G hmg0
    obtain ⟨K, KX, c⟩ := Y
    have hmg : mg ("law" : PySem.Str) = some (.ref fa) := by
      have e : (HandSHeadRun.topDef K64.R.prog 59).name = ("law" : PySem.Str) := by kernel_rfl
      rw [← e]
      exact hmg0
    have M := K64.md_of KX G c
    obtain ⟨h1, fd, F⟩ := M.fn_ 42 _ rfl
    have e := hmg.symm.trans h1
    injection e with e
    injection e with e
    subst e
    have b : ∀ (s : PySem.Shared) (u : PySem.Value), PySem.BindsTo s fd ⟨[u], []⟩ [("_law_script", u)] := by
      obtain ⟨oc, od, kV, doc, pm, an, cdv, ct, osl, e, _⟩ := F.ex
      intro s u
      rw [e]
      exact .of_eq rfl
    refine ⟨K, fd, K64.spD w K K64.R_law, KX, b, fun H a ns hl hO hS => ⟨H, [K64.scrD ns], .bool true, L2.Same.refl _, .cons (.scr hS) .nil, ⟨ns, rfl, hl, rfl⟩, fun v G' H' g dv => ?_⟩, fun base _ _ => K64.law_all HM M F⟩
    cases dv
    rfl

theorem PySem.Challenge.cw_setchooser_k64_whole_nets_spelled_out_holds : PySem.Challenge.rw_setchooser_k64_whole_nets_spelled_out.Holds := by
  exact K64_holds K64.math_ok
