import PyProof.Rows.All
import Wide.All
import OpenK.AllK
import Wide.FinOn
import HandS.ForMost
import PySem.Challenge.RW_shortbook_k66_whole_texts_doubled
import HandS.Defaults
import HandS.HeadHook2
import HandS.SortInts
import HandS.More
import KE.KDictSum
import HandS.Wide
import HandS.WideBits
import HandS.TupAny
import HandS.IsInst
import HandS.Codes
import HandS.Walk
import KE.KStateDown
import Lean
import HandS.Head0
import HandS.Head1
import HandS.Head2
import HandS.HeadEnd
import HandS.HeadHook1
set_option Elab.async false
set_option maxRecDepth 100000
/-! The program by places, and its scopes (printed by gen_head.py). -/
namespace Sb
open PySem L2
def topS (i : Nat) : Stmt := PySem.Challenge.pw_shortbook_k66_whole_texts_doubled.main.body.getD i (.Pass ⟨0, 0, 0, 0⟩)
abbrev s_is_sign : Stmt := topS 11
abbrev s_size_of : Stmt := topS 14
abbrev s_parts_of : Stmt := topS 15
abbrev s_needed : Stmt := topS 16
abbrev s_named : Stmt := topS 19
abbrev s_lengths : Stmt := topS 20
abbrev s_length : Stmt := topS 21
abbrev s_count : Stmt := topS 22
abbrev s_sign_at : Stmt := topS 23
abbrev s_put : Stmt := topS 26
abbrev s_linked : Stmt := topS 28
abbrev s_over : Stmt := topS 29
abbrev s_renamed : Stmt := topS 30
abbrev s_joined : Stmt := topS 31
abbrev s_repeated : Stmt := topS 32
abbrev s_brought : Stmt := topS 33
abbrev s_beginning : Stmt := topS 34
abbrev s_ending : Stmt := topS 35
abbrev s_across : Stmt := topS 36
abbrev s_cut : Stmt := topS 37
abbrev s_tidy : Stmt := topS 39
abbrev s_turned : Stmt := topS 41
abbrev s_is_word : Stmt := topS 50
abbrev s_number_of : Stmt := topS 51
abbrev s_signs_of : Stmt := topS 52
abbrev s_value_of : Stmt := topS 53
abbrev s_values_of : Stmt := topS 54
abbrev s_kinds_of : Stmt := topS 56
abbrev s_statement_of : Stmt := topS 57
abbrev s_ask_standing : Stmt := topS 58
abbrev s_spelled_rules : Stmt := topS 59
abbrev s_side_by_side : Stmt := topS 60
abbrev s_put_in : Stmt := topS 61
abbrev s_of_two : Stmt := topS 63
abbrev s_of_one : Stmt := topS 64
abbrev s_made_text : Stmt := topS 65
abbrev s_texts_of : Stmt := topS 67
abbrev s_read : Stmt := topS 68
abbrev s_asked_kinds : Stmt := topS 103
abbrev s_asking_of : Stmt := topS 104
abbrev s_about_one : Stmt := topS 107
abbrev s_about_more : Stmt := topS 108
abbrev s_Lmixed : Stmt := topS 112
abbrev s_Ldraws : Stmt := topS 113
abbrev s_Lsign_by : Stmt := topS 114
abbrev s_Lplace : Stmt := topS 115
abbrev s_Lwhole : Stmt := topS 116
abbrev s_Lgood_rule : Stmt := topS 117
abbrev s_Llengths : Stmt := topS 118
abbrev s_Ltold : Stmt := topS 119
abbrev s_Llength : Stmt := topS 120
abbrev s_Lsign_at : Stmt := topS 121
abbrev s_Lsigns : Stmt := topS 122
abbrev s_Lstep : Stmt := topS 123
abbrev s_Lmade : Stmt := topS 124
abbrev s_Lback : Stmt := topS 125
abbrev s_Lsign_of : Stmt := topS 126
abbrev s_Lcounts : Stmt := topS 127
abbrev s_Lis_right : Stmt := topS 128
abbrev s_Lbook_keeps : Stmt := topS 129
abbrev s_law : Stmt := topS 130
abbrev s_Binit : Stmt := inClass (topS 110) 0
abbrev s_Bsay : Stmt := inClass (topS 110) 1
abbrev s_Banswer : Stmt := inClass (topS 110) 3
theorem sc_is_sign : FnScope ["thing"] ["thing"] (defScope s_is_sign) := ⟨rfl, rfl, rfl, by decide +kernel, rfl, by decide +kernel, by decide +kernel⟩
theorem sc_size_of : FnScope ["rule", "sizes"] ["rule", "sizes"] (defScope s_size_of) := ⟨rfl, rfl, rfl, by decide +kernel, rfl, by decide +kernel, by decide +kernel⟩
theorem sc_parts_of : FnScope ["rule"] ["rule"] (defScope s_parts_of) := ⟨rfl, rfl, rfl, by decide +kernel, rfl, by decide +kernel, by decide +kernel⟩
theorem sc_needed : FnScope ["rules", "name", "seen", "number", "part"] ["rules", "name"] (defScope s_needed) := ⟨rfl, rfl, rfl, by decide +kernel, rfl, by decide +kernel, by decide +kernel⟩
theorem sc_named : FnScope ["rules", "name"] ["rules", "name"] (defScope s_named) := ⟨rfl, rfl, rfl, by decide +kernel, rfl, by decide +kernel, by decide +kernel⟩
theorem sc_lengths : FnScope ["rules", "sizes", "rule"] ["rules"] (defScope s_lengths) := ⟨rfl, rfl, rfl, by decide +kernel, rfl, by decide +kernel, by decide +kernel⟩
theorem sc_length : FnScope ["rules", "name"] ["rules", "name"] (defScope s_length) := ⟨rfl, rfl, rfl, by decide +kernel, rfl, by decide +kernel, by decide +kernel⟩
theorem sc_count : FnScope ["rules", "name", "sign", "many", "rule"] ["rules", "name", "sign"] (defScope s_count) := ⟨rfl, rfl, rfl, by decide +kernel, rfl, by decide +kernel, by decide +kernel⟩
theorem sc_sign_at : FnScope ["rules", "name", "place", "size", "sizes", "rule"] ["rules", "name", "place"] (defScope s_sign_at) := ⟨rfl, rfl, rfl, by decide +kernel, rfl, by decide +kernel, by decide +kernel⟩
theorem sc_put : FnScope ["rows", "rule"] ["rows", "rule"] (defScope s_put) := ⟨rfl, rfl, rfl, by decide +kernel, rfl, by decide +kernel, by decide +kernel⟩
theorem sc_linked : FnScope ["rows", "one", "other"] ["rows", "one", "other"] (defScope s_linked) := ⟨rfl, rfl, rfl, by decide +kernel, rfl, by decide +kernel, by decide +kernel⟩
theorem sc_over : FnScope ["rows", "one", "many"] ["rows", "one", "many"] (defScope s_over) := ⟨rfl, rfl, rfl, by decide +kernel, rfl, by decide +kernel, by decide +kernel⟩
theorem sc_renamed : FnScope ["rule", "numbers"] ["rule", "numbers"] (defScope s_renamed) := ⟨rfl, rfl, rfl, by decide +kernel, rfl, by decide +kernel, by decide +kernel⟩
theorem sc_joined : FnScope ["rules", "one", "other", "rows", "name"] ["rules", "one", "other"] (defScope s_joined) := ⟨rfl, rfl, rfl, by decide +kernel, rfl, by decide +kernel, by decide +kernel⟩
theorem sc_repeated : FnScope ["rules", "name", "many", "rows", "found"] ["rules", "name", "many"] (defScope s_repeated) := ⟨rfl, rfl, rfl, by decide +kernel, rfl, by decide +kernel, by decide +kernel⟩
theorem sc_brought : FnScope ["rules", "others", "name", "far", "numbers", "rows", "rule", "number"] ["rules", "others", "name"] (defScope s_brought) := ⟨rfl, rfl, rfl, by decide +kernel, rfl, by decide +kernel, by decide +kernel⟩
theorem sc_beginning : FnScope ["rows", "sizes", "name", "many", "parts", "rule", "size", "found", "part"] ["rows", "sizes", "name", "many"] (defScope s_beginning) := ⟨rfl, rfl, rfl, by decide +kernel, rfl, by decide +kernel, by decide +kernel⟩
theorem sc_ending : FnScope ["rows", "sizes", "name", "many", "parts", "rule", "found", "part"] ["rows", "sizes", "name", "many"] (defScope s_ending) := ⟨rfl, rfl, rfl, by decide +kernel, rfl, by decide +kernel, by decide +kernel⟩
theorem sc_across : FnScope ["rows", "sizes", "rule", "start", "end", "one", "size", "found"] ["rows", "sizes", "rule", "start", "end"] (defScope s_across) := ⟨rfl, rfl, rfl, by decide +kernel, rfl, by decide +kernel, by decide +kernel⟩
theorem sc_cut : FnScope ["rules", "name", "start", "end", "size", "sizes", "rule", "rows", "found"] ["rules", "name", "start", "end"] (defScope s_cut) := ⟨rfl, rfl, rfl, by decide +kernel, rfl, by decide +kernel, by decide +kernel⟩
theorem sc_tidy : FnScope ["rules", "name", "rows", "kept", "numbers", "number", "rule"] ["rules", "name"] (defScope s_tidy) := ⟨rfl, rfl, rfl, by decide +kernel, rfl, by decide +kernel, by decide +kernel⟩
theorem sc_turned : FnScope ["rules", "name", "rows", "numbers", "number", "rule"] ["rules", "name"] (defScope s_turned) := ⟨rfl, rfl, rfl, by decide +kernel, rfl, by decide +kernel, by decide +kernel⟩
theorem sc_is_word : FnScope ["text", "sign"] ["text"] (defScope s_is_word) := ⟨rfl, rfl, rfl, by decide +kernel, rfl, by decide +kernel, by decide +kernel⟩
theorem sc_number_of : FnScope ["text", "most", "sign", "number"] ["text", "most"] (defScope s_number_of) := ⟨rfl, rfl, rfl, by decide +kernel, rfl, by decide +kernel, by decide +kernel⟩
theorem sc_signs_of : FnScope ["text", "most", "sign"] ["text", "most"] (defScope s_signs_of) := ⟨rfl, rfl, rfl, by decide +kernel, rfl, by decide +kernel, by decide +kernel⟩
theorem sc_value_of : FnScope ["kind", "word"] ["kind", "word"] (defScope s_value_of) := ⟨rfl, rfl, rfl, by decide +kernel, rfl, by decide +kernel, by decide +kernel⟩
theorem sc_values_of : FnScope ["kinds", "words", "values", "kind", "word", "value"] ["kinds", "words"] (defScope s_values_of) := ⟨rfl, rfl, rfl, by decide +kernel, rfl, by decide +kernel, by decide +kernel⟩
theorem sc_kinds_of : FnScope ["verb"] ["verb"] (defScope s_kinds_of) := ⟨rfl, rfl, rfl, by decide +kernel, rfl, by decide +kernel, by decide +kernel⟩
theorem sc_statement_of : FnScope ["row", "words", "kinds", "values"] ["row"] (defScope s_statement_of) := ⟨rfl, rfl, rfl, by decide +kernel, rfl, by decide +kernel, by decide +kernel⟩
theorem sc_ask_standing : FnScope ["texts", "kinds", "values", "kind", "value"] ["texts", "kinds", "values"] (defScope s_ask_standing) := ⟨rfl, rfl, rfl, by decide +kernel, rfl, by decide +kernel, by decide +kernel⟩
theorem sc_spelled_rules : FnScope ["signs", "rules", "names", "sign", "above", "at"] ["signs"] (defScope s_spelled_rules) := ⟨rfl, rfl, rfl, by decide +kernel, rfl, by decide +kernel, by decide +kernel⟩
theorem sc_side_by_side : FnScope ["one", "other", "rules", "name"] ["one", "other"] (defScope s_side_by_side) := ⟨rfl, rfl, rfl, by decide +kernel, rfl, by decide +kernel, by decide +kernel⟩
theorem sc_put_in : FnScope ["one", "place", "other", "rules", "name", "middle", "size", "head", "tail", "front"] ["one", "place", "other"] (defScope s_put_in) := ⟨rfl, rfl, rfl, by decide +kernel, rfl, by decide +kernel, by decide +kernel⟩
theorem sc_of_two : FnScope ["verb", "one", "values", "texts", "rules", "name", "other"] ["verb", "one", "values", "texts"] (defScope s_of_two) := ⟨rfl, rfl, rfl, by decide +kernel, rfl, by decide +kernel, by decide +kernel⟩
theorem sc_of_one : FnScope ["verb", "one", "values"] ["verb", "one", "values"] (defScope s_of_one) := ⟨rfl, rfl, rfl, by decide +kernel, rfl, by decide +kernel, by decide +kernel⟩
theorem sc_made_text : FnScope ["texts", "deed", "verb", "new", "values", "rules", "name"] ["texts", "deed"] (defScope s_made_text) := ⟨rfl, rfl, rfl, by decide +kernel, rfl, by decide +kernel, by decide +kernel⟩
theorem sc_texts_of : FnScope ["text", "texts", "row", "deed"] ["text"] (defScope s_texts_of) := ⟨rfl, rfl, rfl, by decide +kernel, rfl, by decide +kernel, by decide +kernel⟩
theorem sc_read : FnScope ["text", "texts", "rules", "names", "word", "some", "name"] ["text"] (defScope s_read) := ⟨rfl, rfl, rfl, by decide +kernel, rfl, by decide +kernel, by decide +kernel⟩
theorem sc_asked_kinds : FnScope ["verb"] ["verb"] (defScope s_asked_kinds) := ⟨rfl, rfl, rfl, by decide +kernel, rfl, by decide +kernel, by decide +kernel⟩
theorem sc_asking_of : FnScope ["row", "words", "kinds", "values"] ["row"] (defScope s_asking_of) := ⟨rfl, rfl, rfl, by decide +kernel, rfl, by decide +kernel, by decide +kernel⟩
theorem sc_about_one : FnScope ["verb", "rules", "name", "size", "many"] ["verb", "rules", "name"] (defScope s_about_one) := ⟨rfl, rfl, rfl, by decide +kernel, rfl, by decide +kernel, by decide +kernel⟩
theorem sc_about_more : FnScope ["verb", "rules", "name", "thing"] ["verb", "rules", "name", "thing"] (defScope s_about_more) := ⟨rfl, rfl, rfl, by decide +kernel, rfl, by decide +kernel, by decide +kernel⟩
theorem sc_Lmixed : FnScope ["_law_cells", "_law_k", "_law_number"] ["_law_cells", "_law_k"] (defScope s_Lmixed) := ⟨rfl, rfl, rfl, by decide +kernel, rfl, by decide +kernel, by decide +kernel⟩
theorem sc_Ldraws : FnScope ["_law_script", "_law_ahead_of", "_law_most", "_law_cells", "_law_many", "_law_draws_here", "_law_k"] ["_law_script", "_law_ahead_of", "_law_most"] (defScope s_Ldraws) := ⟨rfl, rfl, rfl, by decide +kernel, rfl, by decide +kernel, by decide +kernel⟩
theorem sc_Lsign_by : FnScope ["_law_cell"] ["_law_cell"] (defScope s_Lsign_by) := ⟨rfl, rfl, rfl, by decide +kernel, rfl, by decide +kernel, by decide +kernel⟩
theorem sc_Lplace : FnScope ["_law_cell", "_law_size"] ["_law_cell", "_law_size"] (defScope s_Lplace) := ⟨rfl, rfl, rfl, by decide +kernel, rfl, by decide +kernel, by decide +kernel⟩
theorem sc_Lwhole : FnScope ["_law_found"] ["_law_found"] (defScope s_Lwhole) := ⟨rfl, rfl, rfl, by decide +kernel, rfl, by decide +kernel, by decide +kernel⟩
theorem sc_Lgood_rule : FnScope ["_law_rule", "_law_k"] ["_law_rule", "_law_k"] (defScope s_Lgood_rule) := ⟨rfl, rfl, rfl, by decide +kernel, rfl, by decide +kernel, by decide +kernel⟩
theorem sc_Llengths : FnScope ["_law_rules", "_law_sizes", "_law_rule", "_law_size"] ["_law_rules"] (defScope s_Llengths) := ⟨rfl, rfl, rfl, by decide +kernel, rfl, by decide +kernel, by decide +kernel⟩
theorem sc_Ltold : FnScope ["_law_found", "_law_words", "_law_k", "_law_pair", "_law_word"] ["_law_found", "_law_words"] (defScope s_Ltold) := ⟨rfl, rfl, rfl, by decide +kernel, rfl, by decide +kernel, by decide +kernel⟩
theorem sc_Llength : FnScope ["_law_sizes", "_law_name"] ["_law_sizes", "_law_name"] (defScope s_Llength) := ⟨rfl, rfl, rfl, by decide +kernel, rfl, by decide +kernel, by decide +kernel⟩
theorem sc_Lsign_at : FnScope ["_law_rules", "_law_sizes", "_law_name", "_law_place_here", "_law_one"] ["_law_rules", "_law_sizes", "_law_name", "_law_place_here"] (defScope s_Lsign_at) := ⟨rfl, rfl, rfl, by decide +kernel, rfl, by decide +kernel, by decide +kernel⟩
theorem sc_Lsigns : FnScope ["_law_cell", "_law_signs_here", "_law_k"] ["_law_cell"] (defScope s_Lsigns) := ⟨rfl, rfl, rfl, by decide +kernel, rfl, by decide +kernel, by decide +kernel⟩
theorem sc_Lstep : FnScope ["_law_cell", "_law_word", "_law_other", "_law_names", "_law_sizes", "_law_one", "_law_two", "_law_both", "_law_at"] ["_law_cell", "_law_word", "_law_other", "_law_names", "_law_sizes"] (defScope s_Lstep) := ⟨rfl, rfl, rfl, by decide +kernel, rfl, by decide +kernel, by decide +kernel⟩
theorem sc_Lmade : FnScope ["_law_draws_here", "_law_kinds", "_law_rows", "_law_names", "_law_kind", "_law_sizes", "_law_some", "_law_cell", "_law_word", "_law_other", "_law_row", "_law_size"] ["_law_draws_here"] (defScope s_Lmade) := ⟨rfl, rfl, rfl, by decide +kernel, rfl, by decide +kernel, by decide +kernel⟩
theorem sc_Lback : FnScope ["_law_kind", "_law_sizes", "_law_place_here", "_law_gap"] ["_law_kind", "_law_sizes", "_law_place_here"] (defScope s_Lback) := ⟨rfl, rfl, rfl, by decide +kernel, rfl, by decide +kernel, by decide +kernel⟩
theorem sc_Lsign_of : FnScope ["_law_kinds", "_law_sizes", "_law_at", "_law_place_here", "_law_kind"] ["_law_kinds", "_law_sizes", "_law_at", "_law_place_here"] (defScope s_Lsign_of) := ⟨rfl, rfl, rfl, by decide +kernel, rfl, by decide +kernel, by decide +kernel⟩
theorem sc_Lcounts : FnScope ["_law_kinds", "_law_sign", "_law_counts_here", "_law_kind"] ["_law_kinds", "_law_sign"] (defScope s_Lcounts) := ⟨rfl, rfl, rfl, by decide +kernel, rfl, by decide +kernel, by decide +kernel⟩
theorem sc_Lis_right : FnScope ["_law_found", "_law_made_here", "_law_cell", "_law_rows", "_law_kinds", "_law_sizes", "_law_names", "_law_longs", "_law_word", "_law_name", "_law_at", "_law_place_here"] ["_law_found", "_law_made_here", "_law_cell"] (defScope s_Lis_right) := ⟨rfl, rfl, rfl, by decide +kernel, rfl, by decide +kernel, by decide +kernel⟩
theorem sc_Lbook_keeps : FnScope ["_law_made_here", "_law_draws_here", "_law_sign", "_law_rows", "_law_kinds", "_law_sizes", "_law_names", "_law_book", "_law_more", "_law_row", "_law_counts_here", "_law_word", "_law_at", "_law_often", "_law_place_here"] ["_law_made_here", "_law_draws_here", "_law_sign"] (defScope s_Lbook_keeps) := ⟨rfl, rfl, rfl, by decide +kernel, rfl, by decide +kernel, by decide +kernel⟩
theorem sc_law : FnScope ["_law_script", "_law_draws_here", "_law_made_here", "_law_sign"] ["_law_script"] (defScope s_law) := ⟨rfl, rfl, rfl, by decide +kernel, rfl, by decide +kernel, by decide +kernel⟩
theorem sc_Binit : FnScope ["self"] ["self"] (defScope s_Binit) := ⟨rfl, rfl, rfl, by decide +kernel, rfl, by decide +kernel, by decide +kernel⟩
theorem sc_Bsay : FnScope ["self", "row", "deed", "asked", "verb", "values"] ["self", "row"] (defScope s_Bsay) := ⟨rfl, rfl, rfl, by decide +kernel, rfl, by decide +kernel, by decide +kernel⟩
theorem sc_Banswer : FnScope ["self", "verb", "values", "rules", "name"] ["self", "verb", "values"] (defScope s_Banswer) := ⟨rfl, rfl, rfl, by decide +kernel, rfl, by decide +kernel, by decide +kernel⟩
end Sb
set_option Elab.async false
set_option linter.all false
set_option maxRecDepth 100000
/-! What the top leaves, as one structure; a def by its promise (printed by gen_head.py). -/
namespace Sb
open PySem PySem.Spec PyProof.Rows L2
/-- a def of the module, by the name that the module has for it -/
def Df (K : PySem.W.Frag) (mg : Str → Option Value) (x nm : Str) (st : Stmt) : Prop := ∃ f fd, mg x = some (.ref f) ∧ FunD K nm nm (defArgs st) (defBody st) (defScope st) [] [] f fd
/-- the class Book: its address, its methods -/
structure Bk (K : PySem.W.Frag) (mg : Str → Option Value) (C : Addr) : Prop where
  g : mg "Book" = some (.ref C)
  cl : Cls K C
  nt : NoAttr K C "texts"
  ini : ∃ f fd, Mk K C f ∧ FunD K "__init__" "Book.__init__" (defArgs s_Binit) (defBody s_Binit) (defScope s_Binit) [] [] f fd
  say : ∃ f fd, Meth K C "say" f ∧ FunD K "say" "Book.say" (defArgs s_Bsay) (defBody s_Bsay) (defScope s_Bsay) [] [] f fd
  ans : ∃ f fd, Meth K C "answer" f ∧ FunD K "answer" "Book.answer" (defArgs s_Banswer) (defBody s_Banswer) (defScope s_Banswer) [] [] f fd
/-- the module's x is a def that keeps the promise sp -/
def Own (P : Program) (w : World) (K : PySem.W.Frag) (mg : Str → Option Value) (base : Heap) (x : Str) (ps : List Str) (k : Nat) (sp : Sp) : Prop :=
  ∃ f fd, FnOk P w K mg base CX0 k f fd ps sp ∧ mg x = some (.ref f) ∧ PySem.W.keepIn K (.ref f) = true ∧ Binds K fd ps []
section
variable {P : Program} {w : World} {K : PySem.W.Frag} {mg : Str → Option Value} {base : Heap}
/-- a call of it -/
theorem pe_own {X : Cx} {x : Str} {ps : List Str} {k : Nat} {sp : Sp} {p pos : Pos} {e : Expr} {es : List Expr} {t : TA} (c : Own X.prog X.w X.K X.mg X.base x ps k sp) (hr : Room k X.A) (hg : Gl X x) (ha : PA X (e :: es) t)
    (hdb : (x == ("__debug__" : Str)) = false := by decide) (hs : starEach (e :: es) X.env = (false, eval e X.env) :: starEach es X.env := by rfl) (hpl : (backTo pos (starEach es X.env)).any (·.1) = false := by rfl) :
    PE X (.Call (.Name x p) (e :: es) [] pos) (tCall sp [] E0 t) := by
  obtain ⟨f, fd, G, g, kp, b⟩ := c
  exact pe_call G hr hg g kp b .nil pass0 ha hdb hs hpl
theorem own_mk {x nm : Str} {st : Stmt} {N ps : List Str} {k : Nat} {sp : Sp} (d : Df K mg x nm st) (S : FnScope N ps (defScope st)) (len : ∀ vs H Q E, sp vs H Q E → vs.length = ps.length)
    (hb : ∀ (kV doc pm : Value) (an : Option Addr) (cdv ct : Value) (us : List Value), us.length = ps.length → bindArgs (PySem.W.fnOf nm nm (defArgs st) (defBody st) (defScope st) .none kV doc pm an cdv ct) ⟨us, []⟩ = pure (ps.zip us))
    (hbody : ∀ (f : Addr) (cdv : Value) (A : Around) (outer : List Env) (s : Shared) (H : Hp) (vs : List V) (Q : VK) (E : XK), Room k (A.deeper (envOfC nm (defScope st) s.heap.objs.size f cdv)) → sp vs H Q E →
      ∃ t, PSs (cxOf CX0 P w K mg base N nm (defScope st) f cdv A outer s H E).nox (defBody st) t ∧ t { nx := fun _ H' => Q .non H', rt := Q } (start N vs) H) : Own P w K mg base x ps (k + 1) sp := by
  obtain ⟨f, fd, g, F⟩ := d
  refine ⟨f, fd, F.ok S len fun cdv A outer s H vs Q E hr h => ?_, g, F.kp, F.bindsN hb⟩
  obtain ⟨t, h1, h2⟩ := hbody f cdv A outer s H vs Q E hr h
  exact ⟨t, h1.nox, h2⟩
end
/-- what the top leaves -/
structure Hd (K : PySem.W.Frag) (mg : Str → Option Value) : Prop where
  d_is_sign : Df K mg "is_sign" "is_sign" s_is_sign
  d_size_of : Df K mg "size_of" "size_of" s_size_of
  d_parts_of : Df K mg "parts_of" "parts_of" s_parts_of
  d_needed : Df K mg "needed" "needed" s_needed
  d_named : Df K mg "named" "named" s_named
  d_lengths : Df K mg "lengths" "lengths" s_lengths
  d_length : Df K mg "length" "length" s_length
  d_count : Df K mg "count" "count" s_count
  d_sign_at : Df K mg "sign_at" "sign_at" s_sign_at
  d_put : Df K mg "put_making" "put" s_put
  d_linked : Df K mg "linked" "linked" s_linked
  d_over : Df K mg "over" "over" s_over
  d_renamed : Df K mg "renamed" "renamed" s_renamed
  d_joined : Df K mg "joined" "joined" s_joined
  d_repeated : Df K mg "repeated" "repeated" s_repeated
  d_brought : Df K mg "brought" "brought" s_brought
  d_beginning : Df K mg "beginning" "beginning" s_beginning
  d_ending : Df K mg "ending" "ending" s_ending
  d_across : Df K mg "across" "across" s_across
  d_cut : Df K mg "cut" "cut" s_cut
  d_tidy : Df K mg "tidy" "tidy" s_tidy
  d_turned : Df K mg "turned" "turned" s_turned
  d_is_word : Df K mg "is_word" "is_word" s_is_word
  d_number_of : Df K mg "number_of" "number_of" s_number_of
  d_signs_of : Df K mg "signs_of" "signs_of" s_signs_of
  d_value_of : Df K mg "value_of" "value_of" s_value_of
  d_values_of : Df K mg "values_of" "values_of" s_values_of
  d_kinds_of : Df K mg "kinds_of" "kinds_of" s_kinds_of
  d_statement_of : Df K mg "statement_of" "statement_of" s_statement_of
  d_ask_standing : Df K mg "ask_standing" "ask_standing" s_ask_standing
  d_spelled_rules : Df K mg "spelled_rules" "spelled_rules" s_spelled_rules
  d_side_by_side : Df K mg "side_by_side" "side_by_side" s_side_by_side
  d_put_in : Df K mg "put_in" "put_in" s_put_in
  d_of_two : Df K mg "of_two" "of_two" s_of_two
  d_of_one : Df K mg "of_one" "of_one" s_of_one
  d_made_text : Df K mg "made_text" "made_text" s_made_text
  d_texts_of : Df K mg "texts_of" "texts_of" s_texts_of
  d_read : Df K mg "read" "read" s_read
  d_asked_kinds : Df K mg "asked_kinds" "asked_kinds" s_asked_kinds
  d_asking_of : Df K mg "asking_of" "asking_of" s_asking_of
  d_about_one : Df K mg "about_one" "about_one" s_about_one
  d_about_more : Df K mg "about_more" "about_more" s_about_more
  d_Lmixed : Df K mg "_law_mixed" "_law_mixed" s_Lmixed
  d_Ldraws : Df K mg "_law_draws" "_law_draws" s_Ldraws
  d_Lsign_by : Df K mg "_law_sign_by" "_law_sign_by" s_Lsign_by
  d_Lplace : Df K mg "_law_place" "_law_place" s_Lplace
  d_Lwhole : Df K mg "_law_whole" "_law_whole" s_Lwhole
  d_Lgood_rule : Df K mg "_law_good_rule" "_law_good_rule" s_Lgood_rule
  d_Llengths : Df K mg "_law_lengths" "_law_lengths" s_Llengths
  d_Ltold : Df K mg "_law_told" "_law_told" s_Ltold
  d_Llength : Df K mg "_law_length" "_law_length" s_Llength
  d_Lsign_at : Df K mg "_law_sign_at" "_law_sign_at" s_Lsign_at
  d_Lsigns : Df K mg "_law_signs" "_law_signs" s_Lsigns
  d_Lstep : Df K mg "_law_step" "_law_step" s_Lstep
  d_Lmade : Df K mg "_law_made" "_law_made" s_Lmade
  d_Lback : Df K mg "_law_back" "_law_back" s_Lback
  d_Lsign_of : Df K mg "_law_sign_of" "_law_sign_of" s_Lsign_of
  d_Lcounts : Df K mg "_law_counts" "_law_counts" s_Lcounts
  d_Lis_right : Df K mg "_law_is_right" "_law_is_right" s_Lis_right
  d_Lbook_keeps : Df K mg "_law_book_keeps" "_law_book_keeps" s_Lbook_keeps
  d_law : Df K mg "law" "law" s_law
  z_bool : mg "bool" = none
  z_int : mg "int" = none
  z_isinstance : mg "isinstance" = none
  z_len : mg "len" = none
  z_list : mg "list" = none
  z_max : mg "max" = none
  z_min : mg "min" = none
  z_range : mg "range" = none
  z_reversed : mg "reversed" = none
  z_sorted : mg "sorted" = none
  z_str : mg "str" = none
  z_tuple : mg "tuple" = none
  z_zip : mg "zip" = none
  i_MOST : ∃ t, mg "MOST" = some (.int 1152921504606846976 t)
  i_WORD : ∃ t, mg "WORD" = some (.int 8 t)
  i_NUMBER : ∃ t, mg "NUMBER" = some (.int 19 t)
  i_WRITTEN_words : ∃ t, mg "WRITTEN_words" = some (.int 40 t)
  s_SIGNS : ∃ t, mg "SIGNS" = some (.str "0123456789ABCDEFGHIJKLMNOPQRSTUVWXYZabcdefghijklmnopqrstuvwxyz" t)
  s_FIGURES : ∃ t, mg "FIGURES" = some (.str "0123456789" t)
  s_LETTERS : ∃ t, mg "LETTERS" = some (.str "abcdefghijklmnopqrstuvwxyz" t)
  bk : ∃ C, Bk K mg C
end Sb
set_option Elab.async false
set_option linter.all false
set_option maxRecDepth 100000
set_option maxHeartbeats 2000000
/-! Two rules that the layer lacks: d.keys() as a value, sorted of it (ints, any number of them; texts, few). -/
namespace Sb
open PySem PySem.Spec PyProof.Rows L2
/-- the view of the keys of the dict at d -/
def keysO (p d : Addr) : HO := .ext fun h => PySem.W.KdlKeysView h p d
theorem keysO_ok {P : Program} {w : World} {H : Hp} {h : Heap} {p d : Addr} (e : h.get? p = some { cls := .type "dict_keys", data := .fields #[.ref d] }) : ObjOk P w H h p (keysO p d) :=
  ⟨⟨_, e, rfl, rfl⟩, ⟨_, e⟩, fun h1 h2 x k => let ⟨o, ho, r⟩ := x; ⟨o, k o ho, r⟩⟩
def rKeys : V → List V → Hp → VK → Prop := fun x xs H Q => ∃ (a : Addr) (kvs : List (Key × V)), x = .ref a ∧ xs = [] ∧ H a = some (.dK kvs) ∧ ∀ p, H p = none → Q (.ref p) (upd H p (keysO p a))
def rSortKI : List V → Hp → VK → Prop := fun vs H Q => ∃ (p a : Addr) (kvs : List (Key × V)) (ns : List Int), vs = [.ref p] ∧ H p = some (keysO p a) ∧ H a = some (.dK kvs) ∧ kvs.map (·.1) = ns.map Sum.inl ∧
  ∀ (ns' : List Int) (q : Addr), ns'.Perm ns → ns'.Pairwise (· ≤ ·) → H q = none → Q (.ref q) (upd H q (.lst (ns'.map V.int)))
def rSortKS : List V → Hp → VK → Prop := fun vs H Q => ∃ (p a : Addr) (kvs : List (Key × V)) (ks : List Str), vs = [.ref p] ∧ H p = some (keysO p a) ∧ H a = some (.dK kvs) ∧ kvs.map (·.1) = ks.map Sum.inr ∧ ks.length < 64 ∧
  ∀ (ys : List Str) (q : Addr), ys.Perm ks → sortedS ys = true → H q = none → Q (.ref q) (upd H q (.lst (ys.map V.str)))
section
variable {X : Cx}
theorem mt_keys : MtR X "dict.keys" rKeys := by
  intro pins s σ H x xs v us Q I rx rxs h
  obtain ⟨a, kvs, rfl, rfl, ha, q⟩ := h
  cases rx
  cases rxs
  obtain ⟨z, lo, vs, rel, dd⟩ := dk_of I.hok ha
  refine call_meetsIn PySem.F.slot_dict_keys dd.typeIs PySem.F.entry_dict_keys (PySem.F.args_dict_keys_1 _) (PySem.W.kdl_meets_keys (mixKind X.prog X.w) a lo) ⟨⟨vs, dd⟩, ?_⟩
  have hf : H s.heap.objs.size = none := I.hok.fresh (Nat.le_refl _)
  exact ⟨.ref s.heap.objs.size, upd H s.heap.objs.size (keysO s.heap.objs.size a), I.laid (t' := s.toks) (fun b u e => Heap.get?_push_of_some _ e) (Nat.le_refl _) (keysO_ok (Heap.get?_push_size _ rfl)), rfl, q _ hf⟩
theorem ints_at : ∀ {us : List Value} {ks : List Int}, us.length = ks.length → (∀ (j : Nat) (v : Value), us[j]? = some v → ∃ (x : Int) (t : Tok), ks[j]? = some x ∧ v = Value.int x t) → IntsAre us ks
  | [], [], _, _ => .nil
  | u :: us, k :: ks, hl, h => by
    obtain ⟨x, t, e1, e2⟩ := h 0 u rfl
    have e1' : k = x := Option.some.inj e1
    subst e1'
    subst e2
    refine .cons _ _ (ints_at (by simpa using hl) fun j v e => ?_)
    obtain ⟨x, t, a, b⟩ := h (j + 1) v (by simpa using e)
    exact ⟨x, t, by simpa using a, b⟩
  | [], _ :: _, hl, _ => by simp at hl
  | _ :: _, [], hl, _ => by simp at hl
theorem cr_sortKI (hcalm : X.calm = true) : CallR X (.builtin "sorted") rSortKI := by
  intro pins s σ H xs us Q I r h
  obtain ⟨p, a, kvs, ns, rfl, hp, ha, hks, q⟩ := h
  rw [Vals.ref1 r]
  have view : PySem.W.KdlKeysView s.heap p a := (show ObjOk X.prog X.w H s.heap p (keysO p a) from I.hok p _ hp).1
  obtain ⟨z, lo, vs, rel, dd⟩ := dk_of I.hok ha
  obtain ⟨ep, hat⟩ := dd.dictAt
  have hkeys : vs.map (·.1) = ns.map Sum.inl := rel.keys.symm.trans hks
  have hl : vs.length = ns.length := by
    have e := congrArg List.length hkeys
    rw [List.length_map, List.length_map] at e
    exact e
  have hz : vs.length ≤ sizeLine := by
    rw [← Paired.length rel]
    exact z
  refine Calls.call_function_entry PyProof.Rows.kind_sorted PyProof.Rows.plain_sorted PyProof.Rows.entry_sorted (PyProof.Rows.args_sorted1 _) ?_
  unfold Builtin.«sorted»
  refine wpAny_bind (m := checkCount "sorted" 1 1 _) (wpAny_pure ?_)
  refine wpAny_bind (PySem.W.kdu_collect (A := X.A.in1) (PySem.W.kdl_keys (knd := mixKind X.prog X.w) (kvs := vs) (ep := ep)) (I.ok.hd hcalm) ⟨view, hat⟩ hz fun h' tk acc hk hacc => ?_)
  have hal : acc.toList.length = ns.length := by rw [Array.length_toList, hacc.1, hl]
  have hI : IntsAre acc.toList ns := ints_at hal fun j v e => by
    obtain ⟨k, x, e1, e2⟩ := hacc.2 j v (by rw [← Array.getElem?_toList]; exact e)
    have e3 : (vs.map (·.1))[j]? = some k := by rw [List.getElem?_map, e1]; all_goals rfl
    rw [hkeys, List.getElem?_map] at e3
    cases e4 : ns[j]? with
    | none => rw [e4] at e3; cases e3
    | some y =>
      rw [e4] at e3
      have e5 : Sum.inl y = k := Option.some.inj e3
      subst e5
      obtain ⟨t, ev⟩ := Value.isInt_shape (k := y) (v := v) e2
      exact ⟨y, t, rfl, ev⟩
  have I1 : Inv X pins σ H { s with heap := h', toks := tk } := I.kept hk
  have hza : acc.toList.length ≤ sizeLine := by rw [hal, ← hl]; exact hz
  refine wpAny_bind (wpAny_newList ?_ hza)
  have hoL : (h'.push (seqObj "list" acc.toList.toArray 0)).get? h'.objs.size = some (seqObj "list" acc.toList.toArray 0) := Heap.get?_push_size _ rfl
  show wpAny _ _ _ _ _ { s with heap := h'.push (seqObj "list" acc.toList.toArray 0), toks := tk }
  refine wpAny_bind (wpAny_holding (wpAny_call_entry PyProof.Rows.slot_list_sort ⟨_, hoL, rfl⟩ PyProof.Rows.entry_list_sort
    (SrtO.list_sort_ord (s := { s with heap := h'.push (seqObj "list" acc.toList.toArray 0), toks := tk }) SrtO.swo_int hoL hza (fun h2 => SrtO.ints_sortable hI h2) fun out h1 h2 => ⟨_, rfl, ?_⟩)
    (PyProof.Rows.args_list_sort _)))
  obtain ⟨k1, k2, k3⟩ := SrtO.ints_out hI h1 h2
  obtain ⟨e', he'⟩ := PyProof.Rows.sortedHeap_at (vs := acc.toList) (out := out.toArray) hoL
  have hlen : ((out.map SrtO.iv).map V.int).length ≤ sizeLine := by
    rw [List.length_map, k2.length_eq, ← hl]
    exact hz
  refine wpAny_pure ⟨_, rfl, .ref h'.objs.size, upd H h'.objs.size (.lst ((out.map SrtO.iv).map V.int)), I1.laid (t' := tk) (fun b u e => ?_) (Nat.le_refl _)
    (show ObjOk X.prog X.w _ _ _ (.lst ((out.map SrtO.iv).map V.int)) from ⟨hlen, out, e', vals_of_ints k1, he'⟩), rfl, q _ _ k2 k3 (I1.hok.fresh (Nat.le_refl _))⟩
  have hb : b < h'.objs.size := Heap.lt_size e
  rw [PyProof.Rows.sortedHeap_old (Nat.ne_of_lt hb) (by rw [size_push']; exact Nat.lt_succ_of_lt hb)]
  exact Heap.get?_push_of_some _ e
theorem cr_sortKS (hcalm : X.calm = true) : CallR X (.builtin "sorted") rSortKS := by
  intro pins s σ H xs us Q I r h
  obtain ⟨p, a, kvs, ks, rfl, hp, ha, hks, h64, q⟩ := h
  rw [Vals.ref1 r]
  have view : PySem.W.KdlKeysView s.heap p a := (show ObjOk X.prog X.w H s.heap p (keysO p a) from I.hok p _ hp).1
  obtain ⟨z, lo, vs, rel, dd⟩ := dk_of I.hok ha
  obtain ⟨ep, hat⟩ := dd.dictAt
  have hkeys : vs.map (·.1) = ks.map Sum.inr := rel.keys.symm.trans hks
  have hl : vs.length = ks.length := by
    have e := congrArg List.length hkeys
    rw [List.length_map, List.length_map] at e
    exact e
  have hz : vs.length ≤ sizeLine := by
    rw [← Paired.length rel]
    exact z
  refine Calls.call_function_entry PyProof.Rows.kind_sorted PyProof.Rows.plain_sorted PyProof.Rows.entry_sorted (PyProof.Rows.args_sorted1 _) ?_
  unfold Builtin.«sorted»
  refine wpAny_bind (m := checkCount "sorted" 1 1 _) (wpAny_pure ?_)
  refine wpAny_bind (PySem.W.kdu_collect (A := X.A.in1) (PySem.W.kdl_keys (knd := mixKind X.prog X.w) (kvs := vs) (ep := ep)) (I.ok.hd hcalm) ⟨view, hat⟩ hz fun h' tk acc hk hacc => ?_)
  have hal : acc.toList.length = ks.length := by rw [Array.length_toList, hacc.1, hl]
  have hS : StrsAre acc.toList ks := strs_at hal fun j v e => by
    obtain ⟨k, x, e1, e2⟩ := hacc.2 j v (by rw [← Array.getElem?_toList]; exact e)
    have e3 : (vs.map (·.1))[j]? = some k := by rw [List.getElem?_map, e1]; all_goals rfl
    rw [hkeys, List.getElem?_map] at e3
    cases e4 : ks[j]? with
    | none => rw [e4] at e3; cases e3
    | some y =>
      rw [e4] at e3
      have e5 : Sum.inr y = k := Option.some.inj e3
      subst e5
      obtain ⟨t, ev⟩ := Value.isStrOf_shape (x := y) (v := v) e2
      exact ⟨y, t, rfl, ev⟩
  have I1 : Inv X pins σ H { s with heap := h', toks := tk } := I.kept hk
  have hza : acc.toList.length ≤ sizeLine := by rw [hal, ← hl]; exact hz
  refine wpAny_bind (wpAny_newList ?_ hza)
  have hoL : (h'.push (seqObj "list" acc.toList.toArray 0)).get? h'.objs.size = some (seqObj "list" acc.toList.toArray 0) := Heap.get?_push_size _ rfl
  show wpAny _ _ _ _ _ { s with heap := h'.push (seqObj "list" acc.toList.toArray 0), toks := tk }
  refine wpAny_bind (wpAny_holding (wpAny_call_entry PyProof.Rows.slot_list_sort ⟨_, hoL, rfl⟩ PyProof.Rows.entry_list_sort
    (list_sort_treeK strKind_oneLt (s := { s with heap := h'.push (seqObj "list" acc.toList.toArray 0), toks := tk }) hoL hS.keysOf (fun v₁ v₂ rest e => keyKind_strs (by rw [← e]; exact hS)) (by rw [hal]; exact h64) fun st' hp hs => ⟨_, rfl, ?_⟩)
    (PyProof.Rows.args_list_sort _)))
  obtain ⟨ys, g1, g2, g3⟩ := sorted_out_str hS hp hs
  obtain ⟨e', he'⟩ := PyProof.Rows.sortedHeap_at (vs := acc.toList) (out := (arrOf st').map (·.2)) hoL
  have hlen : (ys.map V.str).length ≤ sizeLine := by
    rw [List.length_map, g2.length_eq, ← hl]
    exact hz
  refine wpAny_pure ⟨_, rfl, .ref h'.objs.size, upd H h'.objs.size (.lst (ys.map V.str)), I1.laid (t' := tk) (fun b u e => ?_) (Nat.le_refl _)
    (show ObjOk X.prog X.w _ _ _ (.lst (ys.map V.str)) from ⟨hlen, ((arrOf st').map (·.2)).toList, e', vals_of_strs g1, by rw [Array.toArray_toList]; exact he'⟩), rfl, q ys _ g2 g3 (I1.hok.fresh (Nat.le_refl _))⟩
  have hb : b < h'.objs.size := Heap.lt_size e
  rw [PyProof.Rows.sortedHeap_old (Nat.ne_of_lt hb) (by rw [size_push']; exact Nat.lt_succ_of_lt hb)]
  exact Heap.get?_push_of_some _ e
end
end Sb
/-! Rules as data, the trees that they tell, the texts of these; what tidying, turning and joining do to them. Plain Lean, no program. -/
namespace Sb
inductive Rl where
  | sg (c : Nat)
  | jn (i j : Nat)
  | tm (i m : Nat)
deriving DecidableEq
inductive Tr where
  | sg (c : Nat)
  | jn (a b : Tr)
  | db (a : Tr)
deriving DecidableEq
def Tr.txt : Tr → List Nat
  | .sg c => [c]
  | .jn a b => a.txt ++ b.txt
  | .db a => a.txt ++ a.txt
def Tr.rev : Tr → Tr
  | .sg c => .sg c
  | .jn a b => .jn b.rev a.rev
  | .db a => .db a.rev
def Tr.len (t : Tr) : Nat := t.txt.length
theorem Tr.rev_rev : ∀ t : Tr, t.rev.rev = t
  | .sg _ => rfl
  | .jn a b => by
    show Tr.jn a.rev.rev b.rev.rev = _
    rw [a.rev_rev, b.rev_rev]
  | .db a => by
    show Tr.db a.rev.rev = _
    rw [a.rev_rev]
theorem Tr.txt_rev : ∀ t : Tr, t.rev.txt = t.txt.reverse
  | .sg _ => rfl
  | .jn a b => by
    show b.rev.txt ++ a.rev.txt = (a.txt ++ b.txt).reverse
    rw [a.txt_rev, b.txt_rev, List.reverse_append]
  | .db a => by
    show a.rev.txt ++ a.rev.txt = (a.txt ++ a.txt).reverse
    rw [a.txt_rev, List.reverse_append]
theorem Tr.len_rev (t : Tr) : t.rev.len = t.len := by
  unfold Tr.len
  rw [t.txt_rev, List.length_reverse]
theorem Tr.len_jn (a b : Tr) : (Tr.jn a b).len = a.len + b.len := List.length_append
theorem Tr.len_db (a : Tr) : (Tr.db a).len = a.len + a.len := List.length_append
theorem Tr.len_pos : ∀ t : Tr, 0 < t.len
  | .sg _ => Nat.one_pos
  | .jn a b => by
    rw [Tr.len_jn]
    have := a.len_pos
    omega
  | .db a => by
    rw [Tr.len_db]
    have := a.len_pos
    omega
/-! ### rules that tell trees -/
/-- a figure or a letter -/
def OkC (c : Nat) : Prop := (48 ≤ c ∧ c ≤ 57) ∨ (65 ≤ c ∧ c ≤ 90) ∨ (97 ≤ c ∧ c ≤ 122)
/-- the rule r, behind rules that tell ts, tells t -/
def Fits (ts : List Tr) : Rl → Tr → Prop
  | .sg c, t => OkC c ∧ t = .sg c
  | .jn i j, t => ∃ a b, ts[i]? = some a ∧ ts[j]? = some b ∧ t = .jn a b
  | .tm i m, t => ∃ a, m = 2 ∧ ts[i]? = some a ∧ t = .db a
inductive RT : List Rl → List Tr → Prop
  | nil : RT [] []
  | snoc {rs : List Rl} {ts : List Tr} {r : Rl} {t : Tr} : RT rs ts → Fits ts r t → RT (rs ++ [r]) (ts ++ [t])
theorem get_app {α : Type} {l m : List α} {i : Nat} {a : α} (h : l[i]? = some a) : (l ++ m)[i]? = some a := by
  rw [List.getElem?_append_left (List.getElem?_eq_some_iff.mp h).1]
  exact h
theorem get_lt {α : Type} {l : List α} {i : Nat} {a : α} (h : l[i]? = some a) : i < l.length := (List.getElem?_eq_some_iff.mp h).1
theorem get_at {α : Type} {l : List α} {i : Nat} (h : i < l.length) : ∃ a, l[i]? = some a := ⟨_, List.getElem?_eq_getElem h⟩
theorem get_snoc {α : Type} {l : List α} {a : α} : (l ++ [a])[l.length]? = some a := by
  rw [List.getElem?_append_right (Nat.le_refl _), Nat.sub_self]
  rfl
theorem Fits.app {ts : List Tr} {r : Rl} {t : Tr} (m : List Tr) (h : Fits ts r t) : Fits (ts ++ m) r t := by
  cases r with
  | sg c => exact h
  | jn i j =>
    obtain ⟨a, b, h1, h2, h3⟩ := h
    exact ⟨a, b, get_app h1, get_app h2, h3⟩
  | tm i m =>
    obtain ⟨a, h1, h2, h3⟩ := h
    exact ⟨a, h1, get_app h2, h3⟩
theorem Fits.fn {ts : List Tr} {r : Rl} {t u : Tr} (h : Fits ts r t) (h' : Fits ts r u) : t = u := by
  cases r with
  | sg c =>
    rw [h.2, h'.2]
  | jn i j =>
    obtain ⟨a, b, h1, h2, rfl⟩ := h
    obtain ⟨a', b', k1, k2, rfl⟩ := h'
    rw [h1] at k1
    rw [h2] at k2
    rw [Option.some.inj k1, Option.some.inj k2]
  | tm i m =>
    obtain ⟨a, h1, h2, rfl⟩ := h
    obtain ⟨a', k1, k2, rfl⟩ := h'
    rw [h2] at k2
    rw [Option.some.inj k2]
theorem nodup_ix {α : Type} {l : List α} (hN : l.Nodup) {i j : Nat} {x : α} (a : l[i]? = some x) (b : l[j]? = some x) : i = j := by
  obtain ⟨h1, e1⟩ := List.getElem?_eq_some_iff.mp a
  obtain ⟨h2, e2⟩ := List.getElem?_eq_some_iff.mp b
  exact (List.getElem_inj hN).mp (e1.trans e2.symm)
theorem Fits.inj {ts : List Tr} {r s : Rl} {t : Tr} (n : ts.Nodup) (h : Fits ts r t) (h' : Fits ts s t) : r = s := by
  cases r with
  | sg c =>
    have e : t = .sg c := h.2
    subst e
    cases s with
    | sg d =>
      have e' : Tr.sg c = .sg d := h'.2
      rw [Tr.sg.inj e']
    | jn i j =>
      obtain ⟨a, b, _, _, e⟩ := h'
      cases e
    | tm i m =>
      obtain ⟨a, _, _, e⟩ := h'
      cases e
  | jn i j =>
    obtain ⟨a, b, h1, h2, rfl⟩ := h
    cases s with
    | sg d => cases (show Tr.jn a b = .sg d from h'.2)
    | jn i' j' =>
      obtain ⟨a', b', k1, k2, e⟩ := h'
      obtain ⟨e1, e2⟩ := Tr.jn.inj e
      subst e1 e2
      rw [nodup_ix n h1 k1, nodup_ix n h2 k2]
    | tm i m =>
      obtain ⟨a, _, _, e⟩ := h'
      cases e
  | tm i m =>
    obtain ⟨a, rfl, h2, rfl⟩ := h
    cases s with
    | sg d => cases (show Tr.db a = .sg d from h'.2)
    | jn i' j' =>
      obtain ⟨a', b', k1, k2, e⟩ := h'
      cases e
    | tm i' m' =>
      obtain ⟨a', rfl, k2, e⟩ := h'
      have e1 := Tr.db.inj e
      subst e1
      rw [nodup_ix n h2 k2]
theorem RT.len {rs : List Rl} {ts : List Tr} (h : RT rs ts) : rs.length = ts.length := by
  induction h with
  | nil => rfl
  | snoc _ _ ih => rw [List.length_append, List.length_append, ih, List.length_singleton, List.length_singleton]
/-- the rule at a place and its tree -/
theorem RT.get {rs : List Rl} {ts : List Tr} (h : RT rs ts) {k : Nat} {r : Rl} (e : rs[k]? = some r) : ∃ t, ts[k]? = some t ∧ Fits (ts.take k) r t := by
  induction h with
  | nil => simp at e
  | snoc h f ih =>
    rename_i rs ts r' t
    have hl := h.len
    by_cases hk : k < rs.length
    · rw [List.getElem?_append_left hk] at e
      obtain ⟨u, h1, h2⟩ := ih e
      refine ⟨u, get_app h1, ?_⟩
      rw [List.take_append_of_le_length (by omega)]
      exact h2
    · have hk2 : k = rs.length := by
        have := get_lt e
        rw [List.length_append, List.length_singleton] at this
        omega
      subst hk2
      rw [get_snoc] at e
      cases e
      refine ⟨t, by rw [hl]; exact get_snoc, ?_⟩
      rw [hl, List.take_left]
      exact f
theorem RT.fit {rs : List Rl} {ts : List Tr} (h : RT rs ts) {k : Nat} {r : Rl} (e : rs[k]? = some r) : ∃ t, ts[k]? = some t ∧ Fits ts r t := by
  obtain ⟨t, h1, h2⟩ := h.get e
  have h3 := h2.app (ts.drop k)
  rw [List.take_append_drop] at h3
  exact ⟨t, h1, h3⟩
/-- the numbers in a rule -/
def Rl.parts : Rl → List Nat
  | .sg _ => []
  | .jn i j => [i, j]
  | .tm i _ => [i]
theorem Fits.part {ts : List Tr} {r : Rl} {t : Tr} (h : Fits ts r t) {p : Nat} (hp : p ∈ r.parts) : p < ts.length := by
  cases r with
  | sg c => cases hp
  | jn i j =>
    obtain ⟨a, b, h1, h2, _⟩ := h
    rcases List.mem_cons.mp hp with e | e
    · rw [e]
      exact get_lt h1
    · rw [List.mem_singleton.mp e]
      exact get_lt h2
  | tm i m =>
    obtain ⟨a, _, h2, _⟩ := h
    rw [List.mem_singleton.mp hp]
    exact get_lt h2
theorem RT.part {rs : List Rl} {ts : List Tr} (h : RT rs ts) {k : Nat} {r : Rl} (e : rs[k]? = some r) {p : Nat} (hp : p ∈ r.parts) : p < k := by
  obtain ⟨t, _, f⟩ := h.get e
  have := f.part hp
  rw [List.length_take] at this
  omega
theorem RT.at {rs : List Rl} {ts : List Tr} (h : RT rs ts) {k : Nat} {t : Tr} (e : ts[k]? = some t) : ∃ r, rs[k]? = some r ∧ Fits (ts.take k) r t := by
  obtain ⟨r, hr⟩ := get_at (l := rs) (i := k) (by rw [h.len]; exact get_lt e)
  obtain ⟨u, h1, h2⟩ := h.get hr
  rw [e] at h1
  cases h1
  exact ⟨r, hr, h2⟩
/-! ### rules with other numbers -/
/-- s is r with other numbers: those of m -/
def Ren (m : Nat → Option Nat) : Rl → Rl → Prop
  | .sg c, s => s = .sg c
  | .jn i j, s => ∃ i' j', m i = some i' ∧ m j = some j' ∧ s = .jn i' j'
  | .tm i k, s => ∃ i', m i = some i' ∧ s = .tm i' k
/-- where the new numbers stand for the same trees, the new rule tells the same tree -/
theorem Ren.fits {m : Nat → Option Nat} {ts us : List Tr} {r s : Rl} {t : Tr} (h : Ren m r s) (hm : ∀ p ∈ r.parts, ∀ q, m p = some q → ∀ a, ts[p]? = some a → us[q]? = some a) (f : Fits ts r t) : Fits us s t := by
  cases r with
  | sg c =>
    have e : s = .sg c := h
    subst e
    exact f
  | jn i j =>
    obtain ⟨i', j', h1, h2, rfl⟩ := h
    obtain ⟨a, b, f1, f2, rfl⟩ := f
    exact ⟨a, b, hm i (by simp [Rl.parts]) i' h1 a f1, hm j (by simp [Rl.parts]) j' h2 b f2, rfl⟩
  | tm i k =>
    obtain ⟨i', h1, rfl⟩ := h
    obtain ⟨a, rfl, f2, rfl⟩ := f
    exact ⟨a, rfl, hm i (by simp [Rl.parts]) i' h1 a f2, rfl⟩
/-- a join's two sides change -/
def Rl.swap : Rl → Rl
  | .jn i j => .jn j i
  | r => r
theorem Ren.turn {m : Nat → Option Nat} {ts us : List Tr} {r s : Rl} {t : Tr} (h : Ren m r s) (hm : ∀ p ∈ r.parts, ∀ q, m p = some q → ∀ a, ts[p]? = some a → us[q]? = some a.rev) (f : Fits ts r t) : Fits us s.swap t.rev := by
  cases r with
  | sg c =>
    have e : s = .sg c := h
    subst e
    obtain ⟨f1, f2⟩ := f
    subst f2
    exact ⟨f1, rfl⟩
  | jn i j =>
    obtain ⟨i', j', h1, h2, rfl⟩ := h
    obtain ⟨a, b, f1, f2, rfl⟩ := f
    exact ⟨b.rev, a.rev, hm j (by simp [Rl.parts]) j' h2 b f2, hm i (by simp [Rl.parts]) i' h1 a f1, rfl⟩
  | tm i k =>
    obtain ⟨i', h1, rfl⟩ := h
    obtain ⟨a, rfl, f2, rfl⟩ := f
    exact ⟨a.rev, rfl, hm i (by simp [Rl.parts]) i' h1 a f2, rfl⟩
/-! ### rules brought in behind others -/
def Rl.up (k : Nat) : Rl → Rl
  | .sg c => .sg c
  | .jn i j => .jn (k + i) (k + j)
  | .tm i m => .tm (k + i) m
theorem get_up {α : Type} {l m : List α} {i : Nat} {a : α} (h : m[i]? = some a) : (l ++ m)[l.length + i]? = some a := by
  rw [List.getElem?_append_right (Nat.le_add_right _ _), Nat.add_sub_cancel_left]
  exact h
theorem Fits.up {ts us : List Tr} {r : Rl} {t : Tr} (h : Fits us r t) : Fits (ts ++ us) (r.up ts.length) t := by
  cases r with
  | sg c => exact h
  | jn i j =>
    obtain ⟨a, b, h1, h2, h3⟩ := h
    exact ⟨a, b, get_up h1, get_up h2, h3⟩
  | tm i m =>
    obtain ⟨a, h1, h2, h3⟩ := h
    exact ⟨a, h1, get_up h2, h3⟩
theorem RT.bring {rs ss : List Rl} {ts us : List Tr} (h : RT rs ts) (h' : RT ss us) : RT (rs ++ ss.map (Rl.up rs.length)) (ts ++ us) := by
  induction h' with
  | nil =>
    rw [List.map_nil, List.append_nil, List.append_nil]
    exact h
  | snoc h' f ih =>
    rename_i ss us r t
    rw [List.map_append, ← List.append_assoc, ← List.append_assoc]
    refine RT.snoc ih ?_
    rw [h.len]
    exact f.up
/-! ### few trees -/
theorem nodup_len {α : Type} [DecidableEq α] : ∀ {l m : List α}, l.Nodup → (∀ a ∈ l, a ∈ m) → l.length ≤ m.length
  | [], _, _, _ => Nat.zero_le _
  | a :: l, m, n, h => by
    obtain ⟨n1, n2⟩ := List.nodup_cons.mp n
    have ha : a ∈ m := h a (List.mem_cons_self ..)
    have ih := nodup_len (l := l) (m := m.erase a) n2 fun b hb => (List.mem_erase_of_ne (fun e => n1 (by rw [← e]; exact hb))).mpr (h b (List.mem_cons_of_mem _ hb))
    rw [List.length_erase_of_mem ha] at ih
    have := List.length_pos_of_mem ha
    rw [List.length_cons]
    omega
/-- a heap of trees that hold: closed under turning, none longer than B -/
structure Pool (U : List Tr) (B : Nat) : Prop where
  rev : ∀ t ∈ U, t.rev ∈ U
  le : ∀ t ∈ U, t.len ≤ B
theorem Pool.nil (B : Nat) : Pool [] B := ⟨fun _ h => absurd h (List.not_mem_nil), fun _ h => absurd h (List.not_mem_nil)⟩
theorem Pool.more {U : List Tr} {B C : Nat} (p : Pool U B) (h : B ≤ C) : Pool U C := ⟨p.rev, fun t ht => Nat.le_trans (p.le t ht) h⟩
/-- trees are put in, and their turned ones -/
theorem Pool.add {U V : List Tr} {B : Nat} (p : Pool U B) (h : ∀ t ∈ V, t.len ≤ B) : Pool (U ++ (V ++ V.map Tr.rev)) B where
  rev := fun t ht => by
    rcases List.mem_append.mp ht with h1 | h1
    · exact List.mem_append.mpr (.inl (p.rev t h1))
    · refine List.mem_append.mpr (.inr ?_)
      rcases List.mem_append.mp h1 with h2 | h2
      · exact List.mem_append.mpr (.inr (List.mem_map.mpr ⟨t, h2, rfl⟩))
      · obtain ⟨u, hu, e⟩ := List.mem_map.mp h2
        rw [← e, u.rev_rev]
        exact List.mem_append.mpr (.inl hu)
  le := fun t ht => by
    rcases List.mem_append.mp ht with h1 | h1
    · exact p.le t h1
    · rcases List.mem_append.mp h1 with h2 | h2
      · exact h t h2
      · obtain ⟨u, hu, e⟩ := List.mem_map.mp h2
        rw [← e, u.len_rev]
        exact h u hu
end Sb
set_option Elab.async false
set_option linter.all false
set_option maxRecDepth 100000
/-! Short words for the walks; rules, texts and words as they stand in the heap. -/
namespace Sb
open PySem PySem.Spec PyProof.Rows L2
section
variable {X : Cx}
theorem pe_gi {x : Str} {i : Int} {pos : Pos} (hm : ∃ t, X.mg x = some (.int i t)) (hg : Gl X x) (hd : (x == ("__debug__" : Str)) = false := by decide) : PE X (.Name x pos) (tC (.int i)) := by
  obtain ⟨t, h⟩ := hm
  exact pe_glob hg h ⟨_, rfl⟩ hd
theorem pe_gs {x z : Str} {pos : Pos} (hm : ∃ t, X.mg x = some (.str z t)) (hg : Gl X x) (hd : (x == ("__debug__" : Str)) = false := by decide) : PE X (.Name x pos) (tC (.str z)) := by
  obtain ⟨t, h⟩ := hm
  exact pe_glob hg h ⟨_, rfl⟩ hd
end
theorem hu64 {A : Around} {k : Nat} (hr : Room k A) : A.units + 64 < cLine := by
  have := hr.un
  omega
theorem same_new {H : Hp} {p : Addr} {o : HO} (h : H p = none) : Same H (upd H p o) := fun b x e => by
  rw [upd_ne (ne_of_none e h)]
  exact e
/-- what H does not know may change behind it -/
theorem Same.mut {H H' : Hp} {p : Addr} {o : HO} (s : Same H H') (h : H p = none) : Same H (upd H' p o) := fun b x e => by
  rw [upd_ne (ne_of_none e h)]
  exact s b x e
theorem szl {n : Nat} (h : n ≤ 200000) : n ≤ sizeLine := Nat.le_trans h (by decide)
theorem szt {n : Nat} (h : n ≤ 200000) : n < sizeLine := Nat.lt_of_le_of_lt h (by decide)
/-! ### pairs of lists -/
theorem P_get {α β : Type} {F : α → β → Prop} : ∀ {xs : List α} {ys : List β}, Paired F xs ys → ∀ {i : Nat} {y : β}, ys[i]? = some y → ∃ x, xs[i]? = some x ∧ F x y
  | _, _, .nil, i, y, h => by cases h
  | _, _, .cons r t, 0, y, h => by
    have e := Option.some.inj h
    subst e
    exact ⟨_, rfl, r⟩
  | _, _, .cons r t, i + 1, y, h => P_get t (i := i) h
theorem P_app {α β : Type} {F : α → β → Prop} : ∀ {xs xs' : List α} {ys ys' : List β}, Paired F xs ys → Paired F xs' ys' → Paired F (xs ++ xs') (ys ++ ys')
  | _, _, _, _, .nil, h => h
  | _, _, _, _, .cons r t, h => .cons r (P_app t h)
theorem P_one {α β : Type} {F : α → β → Prop} {x : α} {y : β} (h : F x y) : Paired F [x] [y] := .cons h .nil
theorem P_take {α β : Type} {F : α → β → Prop} : ∀ {xs : List α} {ys : List β} (n : Nat), Paired F xs ys → Paired F (xs.take n) (ys.take n)
  | _, _, 0, _ => .nil
  | _, _, _ + 1, .nil => .nil
  | _, _, n + 1, .cons r t => .cons r (P_take n t)
/-! ### rules in the heap -/
def ch (c : Nat) : Str := ⟨#[c]⟩
def rlK : Rl → List Key
  | .sg c => [.inr "sign", .inr (ch c)]
  | .jn i j => [.inr "join", .inl (i : Int), .inl (j : Int)]
  | .tm i m => [.inr "times", .inl (i : Int), .inl (m : Int)]
def rlV (r : Rl) : List V := (rlK r).map kV
theorem rlV_sg (c : Nat) : rlV (.sg c) = [.str "sign", .str (ch c)] := rfl
theorem rlV_jn (i j : Nat) : rlV (.jn i j) = [.str "join", .int (i : Int), .int (j : Int)] := rfl
theorem rlV_tm (i m : Nat) : rlV (.tm i m) = [.str "times", .int (i : Int), .int (m : Int)] := rfl
def RuA (H : Hp) (v : V) (r : Rl) : Prop := ∃ a, v = .ref a ∧ H a = some (.tup (rlV r))
abbrev Rows (H : Hp) : List V → List Rl → Prop := Paired (RuA H)
theorem RuA.mono {H H' : Hp} {v : V} {r : Rl} (s : Same H H') (h : RuA H v r) : RuA H' v r := let ⟨a, e, q⟩ := h; ⟨a, e, s _ _ q⟩
theorem Rows.mono {H H' : Hp} {vs : List V} {rs : List Rl} (s : Same H H') (h : Rows H vs rs) : Rows H' vs rs := Paired.mapP h fun _ _ q => RuA.mono s q
/-- a tuple of rules -/
def RsT (H : Hp) (v : V) (rs : List Rl) : Prop := ∃ a vs, v = .ref a ∧ H a = some (.tup vs) ∧ Rows H vs rs
theorem RsT.mono {H H' : Hp} {v : V} {rs : List Rl} (s : Same H H') (h : RsT H v rs) : RsT H' v rs := let ⟨a, vs, e, q, r⟩ := h; ⟨a, vs, e, s _ _ q, Rows.mono s r⟩
/-- a name -/
def nmV : Option Nat → V
  | none => .non
  | some n => .int (n : Int)
theorem sqT {K : PySem.W.Frag} {H : Hp} {a : Addr} {xs : List V} (h : H a = some (.tup xs)) : SqT K H a xs := .inl (.inl h)
theorem sqL {K : PySem.W.Frag} {H : Hp} {a : Addr} {xs : List V} (h : H a = some (.lst xs)) : SqL K H a xs := .inl (.inl h)
theorem Same.seqT {K : PySem.W.Frag} {H H' : Hp} {a : Addr} {xs : List V} (e : Same H H') (h : SqT K H a xs) : SqT K H' a xs := by
  rcases h with (h | ⟨o, h⟩) | h
  · exact .inl (.inl (e _ _ h))
  · exact .inl (.inr ⟨o, e _ _ h⟩)
  · exact .inr h
/-- whole numbers that are no less than nought, in a list -/
def nV (ns : List Nat) : List V := ns.map fun n : Nat => V.int (n : Int)
theorem nV_get {ns : List Nat} {i n : Nat} (h : ns[i]? = some n) : (nV ns)[i]? = some (.int (n : Int)) := by
  unfold nV
  rw [List.getElem?_map, h]
  rfl
theorem nV_len (ns : List Nat) : (nV ns).length = ns.length := by
  unfold nV
  exact List.length_map _
theorem nV_app (ns ms : List Nat) : nV (ns ++ ms) = nV ns ++ nV ms := by
  unfold nV
  exact List.map_append
theorem at_nV {ns : List Nat} {i n : Nat} (h : ns[i]? = some n) : atI (nV ns) (i : Int) = some (.int (n : Int)) := atI_nat (nV_get h)
/-- the lengths of trees -/
def lens (ts : List Tr) : List Nat := ts.map Tr.len
theorem lens_get {ts : List Tr} {i : Nat} {t : Tr} (h : ts[i]? = some t) : (lens ts)[i]? = some t.len := by
  unfold lens
  rw [List.getElem?_map, h]
  rfl
theorem take_snoc {α : Type} {l : List α} {i : Nat} {a : α} (h : l[i]? = some a) : l.take (i + 1) = l.take i ++ [a] := by
  rw [List.take_add_one, h]
  rfl
theorem intd {P : Prop} [Decidable P] (h : P) : decide P = true := decide_eq_true h
theorem intn {P : Prop} [Decidable P] (h : ¬ P) : decide P = false := decide_eq_false h
/-! ### values and tests of readings -/
section
variable {K : PySem.W.Frag} {σ : L2.St} {H : Hp} {ta tb te : TE} {v x y z : V} {b : Bool} {a : Addr} {xs : List V} {D : Ends} {t1 t2 : TS} {c : TT}
def Val (te : TE) (σ : L2.St) (H : Hp) (v : V) : Prop := ∀ Q : VK, Q v H → te σ H Q
def Ans (t : TT) (σ : L2.St) (H : Hp) (b : Bool) : Prop := ∀ Q : Bool → Hp → Prop, Q b H → t σ H Q
theorem vx (i : Nat) (h : σ[i]? = some (some v) := by rfl) : Val (tVar i) σ H v := fun _ q => ⟨v, h, q⟩
theorem vc : Val (tC v) σ H v := fun _ q => q
theorem v_op {r : R2} (ha : Val ta σ H x) (hb : Val tb σ H y) (hr : ∀ Q : VK, Q z H → r x y H Q) : Val (tOp r ta tb) σ H z := fun Q q => ha _ (hb _ (hr Q q))
theorem v_ixT {i : Int} (ha : Val ta σ H (.ref a)) (hb : Val tb σ H (.int i)) (h : SqT K H a xs) (e : atI xs i = some v) : Val (tOp (rIxT K) ta tb) σ H v := v_op ha hb fun _ q => ⟨a, xs, i, v, rfl, rfl, h, e, q⟩
theorem v_ixL {i : Int} (ha : Val ta σ H (.ref a)) (hb : Val tb σ H (.int i)) (h : SqL K H a xs) (e : atI xs i = some v) : Val (tOp (rIxL K) ta tb) σ H v := v_op ha hb fun _ q => ⟨a, xs, i, v, rfl, rfl, h, e, q⟩
theorem a_cmp {r : R2} (ha : Val ta σ H x) (hb : Val tb σ H y) (hr : ∀ Q : VK, Q (.bl b) H → r x y H Q) : Ans (tTest (tOp r ta tb)) σ H b := fun Q q => ha _ (hb _ (hr _ ⟨b, rfl, q⟩))
theorem a_eq (ha : Val ta σ H x) (hb : Val tb σ H y) (hs : scal x y = true) (hd : decide (x = y) = b) : Ans (tTest (tOp rEq ta tb)) σ H b := a_cmp ha hb fun _ q => ⟨hs, by rw [hd]; exact q⟩
theorem a_ne (ha : Val ta σ H x) (hb : Val tb σ H y) (hs : scal x y = true) (hd : (!decide (x = y)) = b) : Ans (tTest (tOp rNe ta tb)) σ H b := a_cmp ha hb fun _ q => ⟨hs, by rw [hd]; exact q⟩
theorem a_not (h : Ans c σ H b) : Ans (tNot c) σ H (!b) := fun _ q => h _ q
theorem s_yes (h : Ans c σ H true) (q : t1 D σ H) : tIfS c t1 t2 D σ H := h _ (iteT q)
theorem s_no (h : Ans c σ H false) (q : t2 D σ H) : tIfS c t1 t2 D σ H := h _ (iteF q)
end
/-- the text of these signs -/
abbrev tx (s : List Nat) : Str := SX.S s
theorem tx_one (c : Nat) : tx [c] = ch c := rfl
theorem tx_size (s : List Nat) : (tx s).cps.size = s.length := by simp [SX.S]
theorem tx_get (s : List Nat) (i : Nat) : (tx s).cps[i]? = s[i]? := by simp [SX.S]
theorem tx_len (s : List Nat) : (tx s).length = s.length := SX.S_len s
theorem v_cat {K : PySem.W.Frag} {H : Hp} {Q : VK} {a b : Addr} {xs ys : List V} (hx : H a = some (.tup xs)) (hy : H b = some (.tup ys)) (hz : xs.length + ys.length ≤ sizeLine) (h : ∀ a' H', Same H H' → H' a' = some (.tup (xs ++ ys)) → Q (.ref a') H') : rCatA K (.ref a) (.ref b) H Q := by
  refine ⟨a, b, xs, ys, rfl, rfl, sqT hx, sqT hy, hz, fun e => h b H (Same.refl H) (by rw [e]; exact hy), fun _ e => h a H (Same.refl H) (by rw [e, List.append_nil]; exact hx), fun _ _ p np => h p _ (same_new np) upd_same⟩
end Sb
set_option Elab.async false
set_option linter.all false
set_option maxRecDepth 100000
set_option maxHeartbeats 4000000
/-! Rules: their sizes, their parts, names. -/
namespace Sb
open PySem PySem.Spec PyProof.Rows L2
section
variable {P : Program} {w : World} {K : PySem.W.Frag} {mg : Str → Option Value} {base : Heap}
/-- the size of a rule's text, the sizes ahead being known -/
def sp_size_of : Sp := fun vs H Q _ => ∃ (v : V) (r : Rl) (t : Tr) (ts : List Tr) (l : Addr), vs = [v, .ref l] ∧ RuA H v r ∧ H l = some (.lst (nV (lens ts))) ∧ Fits ts r t ∧ Q (.int (t.len : Int)) H
theorem ok_size_of (T : Hd K mg) : Own P w K mg base "size_of" ["rule", "sizes"] 1 sp_size_of := by
  refine own_mk T.d_size_of sc_size_of (fun vs H Q E h => ?_) (fun _ _ _ _ _ _ us hl => match us, hl with | [_, _], _ => rfl) (fun fa cdv A outer s H vs Q E hr h => ⟨_, (pss_cons (ps_if (pt_cmpR op_eq (pe_ix ix_tup (pv 0) pe_int (fun _ _ => rfl)) pe_str (nomark _)) (pss_one (ps_ret pe_int)) pss_nil)
      (pss_cons (ps_if (pt_cmpR op_eq (pe_ix ix_tup (pv 0) pe_int (fun _ _ => rfl)) pe_str (nomark _)) (pss_one (ps_ret (pe_op op_add (pe_ix ix_list (pv 1) (pe_ix ix_tup (pv 0) pe_int (fun _ _ => rfl)) (fun _ _ => rfl)) (pe_ix ix_list (pv 1) (pe_ix ix_tup (pv 0) pe_int (fun _ _ => rfl)) (fun _ _ => rfl))))) pss_nil)
      (pss_one (ps_ret (pe_op op_mul (pe_ix ix_list (pv 1) (pe_ix ix_tup (pv 0) pe_int (fun _ _ => rfl)) (fun _ _ => rfl)) (pe_ix ix_tup (pv 0) pe_int (fun _ _ => rfl))))))), ?_⟩)
  · obtain ⟨v, r, t, ts, l, rfl, _⟩ := h
    rfl
  · obtain ⟨v, r, t, ts, l, rfl, ⟨a, rfl, ha⟩, hl, f, q⟩ := h
    cases r with
    | sg c =>
      have e : t = .sg c := f.2
      subst e
      exact s_yes (a_eq (v_ixT (vx 0) vc (sqT ha) (atI_nat (j := 0) rfl)) vc rfl (by decide)) q
    | jn i j =>
      obtain ⟨t1, t2, h1, h2, rfl⟩ := f
      refine s_no (a_eq (v_ixT (vx 0) vc (sqT ha) (atI_nat (j := 0) rfl)) vc rfl (by decide)) ?_
      refine s_yes (a_eq (v_ixT (vx 0) vc (sqT ha) (atI_nat (j := 0) rfl)) vc rfl (by decide)) ?_
      have x1 : Val (tOp (rIxT K) (tVar 0) (tC (.int 1))) (start ["rule", "sizes"] [.ref a, .ref l]) H (.int (i : Int)) := v_ixT (vx 0) vc (sqT ha) (atI_nat (j := 1) rfl)
      have x2 : Val (tOp (rIxT K) (tVar 0) (tC (.int 2))) (start ["rule", "sizes"] [.ref a, .ref l]) H (.int (j : Int)) := v_ixT (vx 0) vc (sqT ha) (atI_nat (j := 2) rfl)
      refine v_op (v_ixL (vx 1) x1 (sqL hl) (at_nV (lens_get h1))) (v_ixL (vx 1) x2 (sqL hl) (at_nV (lens_get h2))) (fun Q q => ⟨_, _, rfl, rfl, q⟩) _ ?_
      rw [Tr.len_jn] at q
      exact q
    | tm i m =>
      obtain ⟨t1, rfl, h1, rfl⟩ := f
      refine s_no (a_eq (v_ixT (vx 0) vc (sqT ha) (atI_nat (j := 0) rfl)) vc rfl (by decide)) ?_
      refine s_no (a_eq (v_ixT (vx 0) vc (sqT ha) (atI_nat (j := 0) rfl)) vc rfl (by decide)) ?_
      have x1 : Val (tOp (rIxT K) (tVar 0) (tC (.int 1))) (start ["rule", "sizes"] [.ref a, .ref l]) H (.int (i : Int)) := v_ixT (vx 0) vc (sqT ha) (atI_nat (j := 1) rfl)
      have x2 : Val (tOp (rIxT K) (tVar 0) (tC (.int 2))) (start ["rule", "sizes"] [.ref a, .ref l]) H (.int 2) := v_ixT (vx 0) vc (sqT ha) (atI_nat (j := 2) rfl)
      refine v_op (v_ixL (vx 1) x1 (sqL hl) (at_nV (lens_get h1))) x2 (fun Q q => ⟨_, _, rfl, rfl, .inr (by decide), q⟩) _ ?_
      have e : ((Tr.db t1).len : Int) = (t1.len : Int) * 2 := by
        rw [Tr.len_db]
        omega
      rw [e] at q
      exact q
def sp_parts_of : Sp := fun vs H Q _ => ∃ (v : V) (r : Rl), vs = [v] ∧ RuA H v r ∧ ∀ p, H p = none → Q (.ref p) (upd H p (.lst (nV r.parts)))
theorem ok_parts_of (T : Hd K mg) : Own P w K mg base "parts_of" ["rule"] 1 sp_parts_of := by
  refine own_mk T.d_parts_of sc_parts_of (fun vs H Q E h => ?_) (fun _ _ _ _ _ _ us hl => match us, hl with | [_], _ => rfl) (fun fa cdv A outer s H vs Q E hr h => ⟨_, (pss_cons (ps_if (pt_cmpR op_eq (pe_ix ix_tup (pv 0) pe_int (fun _ _ => rfl)) pe_str (nomark _)) (pss_one (ps_ret (pe_lst pa_nil))) pss_nil)
      (pss_cons (ps_if (pt_cmpR op_eq (pe_ix ix_tup (pv 0) pe_int (fun _ _ => rfl)) pe_str (nomark _)) (pss_one (ps_ret (pe_lst (pa_cons (pe_ix ix_tup (pv 0) pe_int (fun _ _ => rfl)) (pa_cons (pe_ix ix_tup (pv 0) pe_int (fun _ _ => rfl)) pa_nil))))) pss_nil)
      (pss_one (ps_ret (pe_lst (pa_cons (pe_ix ix_tup (pv 0) pe_int (fun _ _ => rfl)) pa_nil)))))), ?_⟩)
  · obtain ⟨v, r, rfl, _⟩ := h
    rfl
  · obtain ⟨v, r, rfl, ⟨a, rfl, ha⟩, q⟩ := h
    cases r with
    | sg c => exact s_yes (a_eq (v_ixT (vx 0) vc (sqT ha) (atI_nat (j := 0) rfl)) vc rfl (by decide)) ⟨Nat.zero_le _, q⟩
    | jn i j =>
      refine s_no (a_eq (v_ixT (vx 0) vc (sqT ha) (atI_nat (j := 0) rfl)) vc rfl (by decide)) ?_
      refine s_yes (a_eq (v_ixT (vx 0) vc (sqT ha) (atI_nat (j := 0) rfl)) vc rfl (by decide)) ?_
      refine v_ixT (vx 0) vc (sqT ha) (atI_nat (j := 1) rfl) _ ?_
      refine v_ixT (vx 0) vc (sqT ha) (atI_nat (j := 2) rfl) _ ?_
      exact ⟨by show 2 ≤ sizeLine; decide, q⟩
    | tm i m =>
      refine s_no (a_eq (v_ixT (vx 0) vc (sqT ha) (atI_nat (j := 0) rfl)) vc rfl (by decide)) ?_
      refine s_no (a_eq (v_ixT (vx 0) vc (sqT ha) (atI_nat (j := 0) rfl)) vc rfl (by decide)) ?_
      refine v_ixT (vx 0) vc (sqT ha) (atI_nat (j := 1) rfl) _ ?_
      exact ⟨by show 1 ≤ sizeLine; decide, q⟩
/-- a name beside rules, so many -/
def NmOk (k : Nat) : Option Nat → Prop
  | none => True
  | some n => n < k
def sp_named : Sp := fun vs H Q _ => ∃ (v : V) (rs : List Rl) (o : Option Nat), vs = [v, nmV o] ∧ RsT H v rs ∧ NmOk rs.length o ∧ Q .non H
theorem ok_named (T : Hd K mg) : Own P w K mg base "named" ["rules", "name"] 1 sp_named := by
  refine own_mk T.d_named sc_named (fun vs H Q E h => ?_) (fun _ _ _ _ _ _ us hl => match us, hl with | [_, _], _ => rfl) (fun fa cdv A outer s H vs Q E hr h => ⟨_, (pss_one (ps_if (PW.pt (pw_and (pt_cmpR op_notN (pv 1) pe_non (nomark _)) (pw_and1 (pt_not (pt_chain op_le op_lt pe_int (pv 1) (pe_callB call_len_seq (by rfl) T.z_len (by decide +kernel) (pa_cons (pv 0) pa_nil))))))) (pss_one ps_never) pss_nil)), ?_⟩)
  · obtain ⟨v, rs, o, rfl, _⟩ := h
    rfl
  · obtain ⟨v, rs, o, rfl, ⟨a, us, rfl, ha, hr⟩, ho, q⟩ := h
    cases o with
    | none => exact ⟨.non, rfl, rfl, _, rfl, iteF (iteF q)⟩
    | some n =>
      have hn : n < rs.length := ho
      have hl : us.length = rs.length := Paired.length hr
      refine ⟨.int (n : Int), rfl, rfl, _, rfl, iteT ?_⟩
      refine ⟨.int (n : Int), rfl, 0, (n : Int), rfl, rfl, _, rfl, ?_⟩
      rw [intd (show (0 : Int) ≤ (n : Int) by omega)]
      refine iteT ⟨.ref a, rfl, a, us, rfl, .inr (sqT ha), (n : Int), _, rfl, rfl, _, rfl, ?_⟩
      rw [intd (show (n : Int) < (us.length : Int) by omega)]
      exact iteF q
/-- rules that are no longer than a book's -/
def RsU (H : Hp) (v : V) (rs : List Rl) (ts : List Tr) : Prop := RsT H v rs ∧ RT rs ts ∧ rs.length ≤ 50000
theorem RsU.mono {H H' : Hp} {v : V} {rs : List Rl} {ts : List Tr} (s : Same H H') (h : RsU H v rs ts) : RsU H' v rs ts := ⟨h.1.mono s, h.2⟩
def sp_lengths : Sp := fun vs H Q _ => ∃ (v : V) (rs : List Rl) (ts : List Tr), vs = [v] ∧ RsU H v rs ts ∧ ∀ p H', Same H H' → H p = none → H' p = some (.lst (nV (lens ts))) → Q (.ref p) H'
theorem ok_lengths (T : Hd K mg) : Own P w K mg base "lengths" ["rules"] 2 sp_lengths := by
  refine own_mk T.d_lengths sc_lengths (fun vs H Q E h => ?_) (fun _ _ _ _ _ _ us hl => match us, hl with | [_], _ => rfl) (fun fa cdv A outer s H vs Q E hr h => ⟨_, (pss_cons (ps_set (i := 1) sc_lengths.nd rfl (Or.inl rfl) (pe_lst pa_nil))
      (pss_cons (ps_for PassesOwn.never rfl (pi_tup (pv 0)) (pg_name (i := 2) sc_lengths.nd rfl (Or.inl rfl)) (pss_one (ps_expr (pe_bm PySem.F.plainAttrs_list PySem.F.slot_list_append PySem.F.type_list_append mt_append (pv 1) (pa_cons (pe_own (ok_size_of T) (hr.mono (by decide)) (by rfl) (pa_cons (pv 2) (pa_cons (pv 1) pa_nil))) pa_nil)))))
      (pss_one (ps_ret (pv 1))))), ?_⟩)
  · obtain ⟨v, rs, ts, rfl, _⟩ := h
    rfl
  · obtain ⟨v, rs, ts, rfl, ⟨⟨a, us, rfl, ha, hr⟩, hT, hz⟩, q⟩ := h
    have hl : us.length = rs.length := Paired.length hr
    refine ⟨Nat.zero_le _, fun p np => ?_⟩
    refine ⟨.ref a, rfl, a, rfl, ⟨us, sqT (same_new np _ _ ha)⟩, for_tup (K := K) (a := a) (xs := us) (fun i σ H' => ∃ y, σ = [some (.ref a), some (.ref p), y] ∧ Same H H' ∧ H' p = some (.lst (nV (lens (ts.take i)))))
      ⟨none, rfl, same_new np, upd_same⟩ (fun i σ H' _ ⟨_, _, s1, _⟩ => sqT (s1 _ _ ha)) ?_ ?_⟩
    · rintro i x σ H' hi ⟨y, rfl, s1, hp⟩
      obtain ⟨r, hri⟩ := get_at (l := rs) (i := i) (by rw [← hl]; exact get_lt hi)
      obtain ⟨t, ht, hf⟩ := hT.get hri
      obtain ⟨x', hx', hrx⟩ := P_get hr hri
      rw [hi] at hx'
      cases hx'
      refine ⟨.ref p, rfl, .inl ⟨rfl, _, sqL hp⟩, x, rfl, .ref p, rfl, x, r, t, ts.take i, p, rfl, hrx.mono s1, hp, hf, ?_⟩
      refine ⟨p, _, .int (t.len : Int), rfl, rfl, hp, ?_, ?_⟩
      · rw [nV_len]
        unfold lens
        rw [List.length_map, List.length_take]
        exact szt (by have := get_lt hri; omega)
      · refine ⟨_, rfl, Same.mut s1 np, ?_⟩
        rw [upd_same, take_snoc ht]
        unfold lens
        rw [List.map_append, nV_app]
        rfl
    · rintro σ H' ⟨y, rfl, s1, hp⟩
      rw [hl, hT.len, List.take_length] at hp
      exact ⟨.ref p, rfl, q p H' s1 np hp⟩
/-- the length of a named text -/
def LenO (ts : List Tr) : Option Nat → Nat → Prop
  | none, z => z = 0
  | some n, z => ∃ t, ts[n]? = some t ∧ z = t.len
def sp_length : Sp := fun vs H Q _ => ∃ (v : V) (rs : List Rl) (ts : List Tr) (o : Option Nat) (z : Nat), vs = [v, nmV o] ∧ RsU H v rs ts ∧ LenO ts o z ∧ ∀ H', Same H H' → Q (.int (z : Int)) H'
theorem ok_length (T : Hd K mg) : Own P w K mg base "length" ["rules", "name"] 3 sp_length := by
  refine own_mk T.d_length sc_length (fun vs H Q E h => ?_) (fun _ _ _ _ _ _ us hl => match us, hl with | [_, _], _ => rfl) (fun fa cdv A outer s H vs Q E hr h => ⟨_, (pss_cons (ps_expr (pe_own (ok_named T) (hr.mono (by decide)) (by rfl) (pa_cons (pv 0) (pa_cons (pv 1) pa_nil))))
      (pss_cons (ps_if (pt_cmpR op_isN (pv 1) pe_non (nomark _)) (pss_one (ps_ret pe_int)) pss_nil)
      (pss_one (ps_ret (pe_ix ix_list (pe_own (ok_lengths T) (hr.mono (by decide)) (by rfl) (pa_cons (pv 0) pa_nil)) (pv 1) (fun _ _ => rfl)))))), ?_⟩)
  · obtain ⟨v, rs, ts, o, z, rfl, _⟩ := h
    rfl
  · obtain ⟨v, rs, ts, o, z, rfl, hR, hz, q⟩ := h
    have hT := hR.2.1
    refine ⟨v, rfl, nmV o, rfl, v, rs, o, rfl, hR.1, ?_, ?_⟩
    · cases o with
      | none => trivial
      | some n =>
        obtain ⟨t, ht, _⟩ := hz
        show n < rs.length
        rw [hT.len]
        exact get_lt ht
    · cases o with
      | none =>
        have hz : z = 0 := hz
        subst hz
        exact ⟨.non, rfl, rfl, _, rfl, iteT (q H (Same.refl H))⟩
      | some n =>
        obtain ⟨t, ht, rfl⟩ := hz
        refine ⟨.int (n : Int), rfl, rfl, _, rfl, iteF ?_⟩
        refine ⟨v, rfl, v, rs, ts, rfl, hR, fun p H' s1 np hp => ?_⟩
        exact ⟨.int (n : Int), rfl, p, _, (n : Int), _, rfl, rfl, sqL hp, at_nV (lens_get ht), q H' s1⟩
/-! ### rows, changed in place -/
/-- all but what stands at p is as it was -/
def But (p : Addr) (H H' : Hp) : Prop := ∀ b o, b ≠ p → H b = some o → H' b = some o
theorem But.refl (p : Addr) (H : Hp) : But p H H := fun _ _ _ h => h
theorem But.trans {p : Addr} {H H1 H2 : Hp} (a : But p H H1) (b : But p H1 H2) : But p H H2 := fun c o n h => b c o n (a c o n h)
theorem But.upd {p : Addr} {H : Hp} {o : HO} : But p H (upd H p o) := fun b u n h => by
  rw [upd_ne n]
  exact h
theorem But.new {p q : Addr} {H : Hp} {o : HO} (h : H q = none) : But p H (L2.upd H q o) := fun b u _ e => same_new h b u e
theorem RuA.but {H H' : Hp} {p : Addr} {xs : List V} {v : V} {r : Rl} (s : But p H H') (hp : H p = some (.lst xs)) (h : RuA H v r) : RuA H' v r := by
  obtain ⟨a, e, q⟩ := h
  exact ⟨a, e, s _ _ (fun z => by rw [z, hp] at q; cases q) q⟩
theorem Rows.but {H H' : Hp} {p : Addr} {xs vs : List V} {rs : List Rl} (s : But p H H') (hp : H p = some (.lst xs)) (h : Rows H vs rs) : Rows H' vs rs := Paired.mapP h fun _ _ q => RuA.but s hp q
/-- a list of rules -/
def RsL (H : Hp) (p : Addr) (rs : List Rl) : Prop := ∃ us, H p = some (.lst us) ∧ Rows H us rs
def sp_put : Sp := fun vs H Q _ => ∃ (p : Addr) (v : V) (r : Rl) (rs : List Rl), vs = [.ref p, v] ∧ RsL H p rs ∧ rs.length ≤ 150000 ∧ RuA H v r ∧
  ∀ H', But p H H' → RsL H' p (rs ++ [r]) → Q (.int (rs.length : Int)) H'
theorem ok_put (T : Hd K mg) : Own P w K mg base "put_making" ["rows", "rule"] 1 sp_put := by
  refine own_mk T.d_put sc_put (fun vs H Q E h => ?_) (fun _ _ _ _ _ _ us hl => match us, hl with | [_, _], _ => rfl) (fun fa cdv A outer s H vs Q E hr h => ⟨_, (pss_cons (ps_expr (pe_bm PySem.F.plainAttrs_list PySem.F.slot_list_append PySem.F.type_list_append mt_append (pv 0) (pa_cons (pv 1) pa_nil)))
      (pss_one (ps_ret (pe_op op_sub (pe_callB call_len_seq (by rfl) T.z_len (by decide +kernel) (pa_cons (pv 0) pa_nil)) pe_int)))), ?_⟩)
  · obtain ⟨p, v, r, rs, rfl, _⟩ := h
    rfl
  · obtain ⟨p, v, r, rs, rfl, ⟨us, hp, hr⟩, hz, hv, q⟩ := h
    have hl : us.length = rs.length := Paired.length hr
    refine ⟨.ref p, rfl, .inl ⟨rfl, _, sqL hp⟩, v, rfl, p, us, v, rfl, rfl, hp, szt (by omega), ?_⟩
    refine ⟨.ref p, rfl, p, _, rfl, .inl (sqL upd_same), _, _, rfl, rfl, ?_⟩
    have e : ((us ++ [v]).length : Int) - 1 = (rs.length : Int) := by
      rw [List.length_append, List.length_singleton]
      omega
    show Q (.int (((us ++ [v]).length : Int) - 1)) _
    rw [e]
    exact q _ But.upd ⟨us ++ [v], upd_same, P_app (Rows.but But.upd hp hr) (P_one (RuA.but But.upd hp hv))⟩
end
end Sb
set_option Elab.async false
set_option linter.all false
set_option maxRecDepth 100000
set_option maxHeartbeats 4000000
/-! Rules joined, repeated, renamed, brought. -/
namespace Sb
open PySem PySem.Spec PyProof.Rows L2
section
variable {P : Program} {w : World} {K : PySem.W.Frag} {mg : Str → Option Value} {base : Heap}
theorem RsL.mono {H H' : Hp} {p : Addr} {rs : List Rl} (s : Same H H') (h : RsL H p rs) : RsL H' p rs := let ⟨us, e, r⟩ := h; ⟨us, s _ _ e, Rows.mono s r⟩
theorem Same.but {p : Addr} {H H' : Hp} (s : Same H H') : But p H H' := fun b o _ e => s b o e
theorem But.same {p : Addr} {H H' H'' : Hp} (s : Same H H') (n : H p = none) (b : But p H' H'') : Same H H'' := fun c o e => b c o (ne_of_none e n) (s c o e)
def linkR (rs : List Rl) : Option Nat → Option Nat → List Rl × Option Nat
  | none, o => (rs, o)
  | some n, none => (rs, some n)
  | some n, some m => (rs ++ [.jn n m], some rs.length)
def sp_linked : Sp := fun vs H Q _ => ∃ (p : Addr) (rs : List Rl) (o1 o2 : Option Nat), vs = [.ref p, nmV o1, nmV o2] ∧ RsL H p rs ∧ rs.length ≤ 150000 ∧
  ∀ H', But p H H' → RsL H' p (linkR rs o1 o2).1 → Q (nmV (linkR rs o1 o2).2) H'
theorem ok_linked (T : Hd K mg) : Own P w K mg base "linked" ["rows", "one", "other"] 2 sp_linked := by
  refine own_mk T.d_linked sc_linked (fun vs H Q E h => ?_) (fun _ _ _ _ _ _ us hl => match us, hl with | [_, _, _], _ => rfl) (fun fa cdv A outer s H vs Q E hr h => ⟨_, (pss_cons (ps_if (pt_cmpR op_isN (pv 1) pe_non (nomark _)) (pss_one (ps_ret (pv 2))) pss_nil)
      (pss_cons (ps_if (pt_cmpR op_isN (pv 2) pe_non (nomark _)) (pss_one (ps_ret (pv 1))) pss_nil)
      (pss_one (ps_ret (pe_own (ok_put T) (hr.mono (by decide)) (by rfl) (pa_cons (pv 0) (pa_cons (pe_tup (pa_cons pe_str (pa_cons (pv 1) (pa_cons (pv 2) pa_nil)))) pa_nil))))))), ?_⟩)
  · obtain ⟨p, rs, o1, o2, rfl, _⟩ := h
    rfl
  · obtain ⟨p, rs, o1, o2, rfl, hL, hz, q⟩ := h
    cases o1 with
    | none => exact ⟨.non, rfl, rfl, _, rfl, iteT ⟨_, rfl, q H (But.refl p H) hL⟩⟩
    | some n =>
      refine ⟨.int (n : Int), rfl, rfl, _, rfl, iteF ?_⟩
      cases o2 with
      | none => exact ⟨.non, rfl, rfl, _, rfl, iteT ⟨_, rfl, q H (But.refl p H) hL⟩⟩
      | some m =>
        refine ⟨.int (m : Int), rfl, rfl, _, rfl, iteF ?_⟩
        refine ⟨.ref p, rfl, .int (n : Int), rfl, .int (m : Int), rfl, by show 3 ≤ sizeLine; decide, fun a na => ?_⟩
        have s1 := same_new (o := HO.tup [.str "join", .int (n : Int), .int (m : Int)]) na
        exact ⟨p, .ref a, .jn n m, rs, rfl, hL.mono s1, hz, ⟨a, rfl, upd_same⟩, fun H' b r => q H' ((Same.but s1).trans b) r⟩
def overR (rs : List Rl) (o : Option Nat) (k : Nat) : List Rl × Option Nat := match o with
  | none => (rs, none)
  | some n => if k = 0 then (rs, none) else if k = 1 then (rs, some n) else (rs ++ [.tm n k], some rs.length)
def sp_over : Sp := fun vs H Q _ => ∃ (p : Addr) (rs : List Rl) (o : Option Nat) (k : Nat), vs = [.ref p, nmV o, .int (k : Int)] ∧ RsL H p rs ∧ rs.length ≤ 150000 ∧
  ∀ H', But p H H' → RsL H' p (overR rs o k).1 → Q (nmV (overR rs o k).2) H'
theorem ok_over (T : Hd K mg) : Own P w K mg base "over" ["rows", "one", "many"] 2 sp_over := by
  refine own_mk T.d_over sc_over (fun vs H Q E h => ?_) (fun _ _ _ _ _ _ us hl => match us, hl with | [_, _, _], _ => rfl) (fun fa cdv A outer s H vs Q E hr h => ⟨_, (pss_cons (ps_if (PW.pt (pw_or (pt_cmpR op_isN (pv 1) pe_non (nomark _)) (pw_or1 (pt_cmpR op_eq (pv 2) pe_int (nomark _))))) (pss_one (ps_ret pe_non)) pss_nil)
      (pss_cons (ps_if (pt_cmpR op_eq (pv 2) pe_int (nomark _)) (pss_one (ps_ret (pv 1))) pss_nil)
      (pss_one (ps_ret (pe_own (ok_put T) (hr.mono (by decide)) (by rfl) (pa_cons (pv 0) (pa_cons (pe_tup (pa_cons pe_str (pa_cons (pv 1) (pa_cons (pv 2) pa_nil)))) pa_nil))))))), ?_⟩)
  · obtain ⟨p, rs, o, k, rfl, _⟩ := h
    rfl
  · obtain ⟨p, rs, o, k, rfl, hL, hz, q⟩ := h
    cases o with
    | none => exact ⟨.non, rfl, rfl, _, rfl, iteT (iteT (q H (But.refl p H) hL))⟩
    | some n =>
      by_cases k0 : k = 0
      · subst k0
        exact ⟨.int (n : Int), rfl, rfl, _, rfl, iteF ⟨.int 0, rfl, rfl, _, rfl, iteT (q H (But.refl p H) hL)⟩⟩
      · by_cases k1 : k = 1
        · subst k1
          exact ⟨.int (n : Int), rfl, rfl, _, rfl, iteF ⟨.int 1, rfl, rfl, _, rfl, iteF ⟨.int 1, rfl, rfl, _, rfl, iteT ⟨_, rfl, q H (But.refl p H) hL⟩⟩⟩⟩
        · have d0 : decide (V.int (k : Int) = V.int 0) = false := intn fun e => k0 (by have := V.int.inj e; omega)
          have d1 : decide (V.int (k : Int) = V.int 1) = false := intn fun e => k1 (by have := V.int.inj e; omega)
          refine ⟨.int (n : Int), rfl, rfl, _, rfl, iteF ⟨.int (k : Int), rfl, rfl, _, rfl, ?_⟩⟩
          rw [d0]
          refine iteF ⟨.int (k : Int), rfl, rfl, _, rfl, ?_⟩
          rw [d1]
          refine iteF ⟨.ref p, rfl, .int (n : Int), rfl, .int (k : Int), rfl, by show 3 ≤ sizeLine; decide, fun a na => ?_⟩
          have s1 := same_new (o := HO.tup [.str "times", .int (n : Int), .int (k : Int)]) na
          have eR : overR rs (some n) k = (rs ++ [.tm n k], some rs.length) := by
            show (if k = 0 then _ else if k = 1 then _ else _) = _
            rw [if_neg k0, if_neg k1]
          rw [eR] at q
          exact ⟨p, .ref a, .tm n k, rs, rfl, hL.mono s1, hz, ⟨a, rfl, upd_same⟩, fun H' b r => q H' ((Same.but s1).trans b) r⟩
/-- the new numbers, in a dict -/
def NumD (kvs : List (Key × V)) (m : Nat → Option Nat) : Prop := ∀ n k, m n = some k → valV kvs (.inl (n : Int)) = some (.int (k : Int))
def sp_renamedD : Sp := fun vs H Q _ => ∃ (v : V) (d : Addr) (r s : Rl) (kvs : List (Key × V)) (m : Nat → Option Nat), vs = [v, .ref d] ∧ RuA H v r ∧ H d = some (.dK kvs) ∧ NumD kvs m ∧ Ren m r s ∧
  ∀ v' H', Same H H' → RuA H' v' s → Q v' H'
theorem ok_renamedD (T : Hd K mg) : Own P w K mg base "renamed" ["rule", "numbers"] 1 sp_renamedD := by
  refine own_mk T.d_renamed sc_renamed (fun vs H Q E h => ?_) (fun _ _ _ _ _ _ us hl => match us, hl with | [_, _], _ => rfl) (fun fa cdv A outer s H vs Q E hr h => ⟨_, (pss_cons (ps_if (pt_cmpR op_eq (pe_ix ix_tup (pv 0) pe_int (fun _ _ => rfl)) pe_str (nomark _)) (pss_one (ps_ret (pv 0))) pss_nil)
      (pss_cons (ps_if (pt_cmpR op_eq (pe_ix ix_tup (pv 0) pe_int (fun _ _ => rfl)) pe_str (nomark _)) (pss_one (ps_ret (pe_tup (pa_cons pe_str (pa_cons (pe_dget (hu_of hr) (pv 1) (pe_ix ix_tup (pv 0) pe_int (fun _ _ => rfl)) (fun _ _ => rfl)) (pa_cons (pe_dget (hu_of hr) (pv 1) (pe_ix ix_tup (pv 0) pe_int (fun _ _ => rfl)) (fun _ _ => rfl)) pa_nil)))))) pss_nil)
      (pss_one (ps_ret (pe_tup (pa_cons pe_str (pa_cons (pe_dget (hu_of hr) (pv 1) (pe_ix ix_tup (pv 0) pe_int (fun _ _ => rfl)) (fun _ _ => rfl)) (pa_cons (pe_ix ix_tup (pv 0) pe_int (fun _ _ => rfl)) pa_nil)))))))), ?_⟩)
  · obtain ⟨v, d, r, s, kvs, m, rfl, _⟩ := h
    rfl
  · obtain ⟨v, d, r, s, kvs, m, rfl, ⟨a, rfl, ha⟩, hd, hm, hs, q⟩ := h
    cases r with
    | sg c =>
      have e : s = .sg c := hs
      subst e
      exact s_yes (a_eq (v_ixT (vx 0) vc (sqT ha) (atI_nat (j := 0) rfl)) vc rfl (by decide)) ⟨_, rfl, q _ H (Same.refl H) ⟨a, rfl, ha⟩⟩
    | jn i j =>
      obtain ⟨i', j', h1, h2, rfl⟩ := hs
      refine s_no (a_eq (v_ixT (vx 0) vc (sqT ha) (atI_nat (j := 0) rfl)) vc rfl (by decide)) ?_
      refine s_yes (a_eq (v_ixT (vx 0) vc (sqT ha) (atI_nat (j := 0) rfl)) vc rfl (by decide)) ?_
      refine ⟨.ref d, rfl, v_ixT (vx 0) vc (sqT ha) (atI_nat (j := 1) rfl) _ ⟨d, .int (i' : Int), rfl, ?_, ?_⟩⟩
      · rw [← hm _ _ h1]
        exact DGet.k (k := Sum.inl (i : Int)) hd
      refine ⟨.ref d, rfl, v_ixT (vx 0) vc (sqT ha) (atI_nat (j := 2) rfl) _ ⟨d, .int (j' : Int), rfl, ?_, ?_⟩⟩
      · rw [← hm _ _ h2]
        exact DGet.k (k := Sum.inl (j : Int)) hd
      exact ⟨by show 3 ≤ sizeLine; decide, fun b nb => q _ _ (same_new nb) ⟨b, rfl, upd_same⟩⟩
    | tm i k =>
      obtain ⟨i', h1, rfl⟩ := hs
      refine s_no (a_eq (v_ixT (vx 0) vc (sqT ha) (atI_nat (j := 0) rfl)) vc rfl (by decide)) ?_
      refine s_no (a_eq (v_ixT (vx 0) vc (sqT ha) (atI_nat (j := 0) rfl)) vc rfl (by decide)) ?_
      refine ⟨.ref d, rfl, v_ixT (vx 0) vc (sqT ha) (atI_nat (j := 1) rfl) _ ⟨d, .int (i' : Int), rfl, ?_, ?_⟩⟩
      · rw [← hm _ _ h1]
        exact DGet.k (k := Sum.inl (i : Int)) hd
      refine v_ixT (vx 0) vc (sqT ha) (atI_nat (j := 2) rfl) _ ?_
      exact ⟨by show 3 ≤ sizeLine; decide, fun b nb => q _ _ (same_new nb) ⟨b, rfl, upd_same⟩⟩
def sp_renamedL : Sp := fun vs H Q _ => ∃ (v : V) (d : Addr) (r s : Rl) (ms : List Nat), vs = [v, .ref d] ∧ RuA H v r ∧ H d = some (.lst (nV ms)) ∧ Ren (fun n => ms[n]?) r s ∧
  ∀ v' H', Same H H' → RuA H' v' s → Q v' H'
theorem ok_renamedL (T : Hd K mg) : Own P w K mg base "renamed" ["rule", "numbers"] 1 sp_renamedL := by
  refine own_mk T.d_renamed sc_renamed (fun vs H Q E h => ?_) (fun _ _ _ _ _ _ us hl => match us, hl with | [_, _], _ => rfl) (fun fa cdv A outer s H vs Q E hr h => ⟨_, (pss_cons (ps_if (pt_cmpR op_eq (pe_ix ix_tup (pv 0) pe_int (fun _ _ => rfl)) pe_str (nomark _)) (pss_one (ps_ret (pv 0))) pss_nil)
      (pss_cons (ps_if (pt_cmpR op_eq (pe_ix ix_tup (pv 0) pe_int (fun _ _ => rfl)) pe_str (nomark _)) (pss_one (ps_ret (pe_tup (pa_cons pe_str (pa_cons (pe_ix ix_list (pv 1) (pe_ix ix_tup (pv 0) pe_int (fun _ _ => rfl)) (fun _ _ => rfl)) (pa_cons (pe_ix ix_list (pv 1) (pe_ix ix_tup (pv 0) pe_int (fun _ _ => rfl)) (fun _ _ => rfl)) pa_nil)))))) pss_nil)
      (pss_one (ps_ret (pe_tup (pa_cons pe_str (pa_cons (pe_ix ix_list (pv 1) (pe_ix ix_tup (pv 0) pe_int (fun _ _ => rfl)) (fun _ _ => rfl)) (pa_cons (pe_ix ix_tup (pv 0) pe_int (fun _ _ => rfl)) pa_nil)))))))), ?_⟩)
  · obtain ⟨v, d, r, s, ms, rfl, _⟩ := h
    rfl
  · obtain ⟨v, d, r, s, ms, rfl, ⟨a, rfl, ha⟩, hd, hs, q⟩ := h
    cases r with
    | sg c =>
      have e : s = .sg c := hs
      subst e
      exact s_yes (a_eq (v_ixT (vx 0) vc (sqT ha) (atI_nat (j := 0) rfl)) vc rfl (by decide)) ⟨_, rfl, q _ H (Same.refl H) ⟨a, rfl, ha⟩⟩
    | jn i j =>
      obtain ⟨i', j', h1, h2, rfl⟩ := hs
      refine s_no (a_eq (v_ixT (vx 0) vc (sqT ha) (atI_nat (j := 0) rfl)) vc rfl (by decide)) ?_
      refine s_yes (a_eq (v_ixT (vx 0) vc (sqT ha) (atI_nat (j := 0) rfl)) vc rfl (by decide)) ?_
      refine v_ixL (vx 1) (v_ixT (vx 0) vc (sqT ha) (atI_nat (j := 1) rfl)) (sqL hd) (at_nV h1) _ ?_
      refine v_ixL (vx 1) (v_ixT (vx 0) vc (sqT ha) (atI_nat (j := 2) rfl)) (sqL hd) (at_nV h2) _ ?_
      exact ⟨by show 3 ≤ sizeLine; decide, fun b nb => q _ _ (same_new nb) ⟨b, rfl, upd_same⟩⟩
    | tm i k =>
      obtain ⟨i', h1, rfl⟩ := hs
      refine s_no (a_eq (v_ixT (vx 0) vc (sqT ha) (atI_nat (j := 0) rfl)) vc rfl (by decide)) ?_
      refine s_no (a_eq (v_ixT (vx 0) vc (sqT ha) (atI_nat (j := 0) rfl)) vc rfl (by decide)) ?_
      refine v_ixL (vx 1) (v_ixT (vx 0) vc (sqT ha) (atI_nat (j := 1) rfl)) (sqL hd) (at_nV h1) _ ?_
      refine v_ixT (vx 0) vc (sqT ha) (atI_nat (j := 2) rfl) _ ?_
      exact ⟨by show 3 ≤ sizeLine; decide, fun b nb => q _ _ (same_new nb) ⟨b, rfl, upd_same⟩⟩
/-- rules and a name in them -/
def PairR (H : Hp) (v : V) (rs : List Rl) (o : Option Nat) : Prop := ∃ a u, v = .ref a ∧ H a = some (.tup [u, nmV o]) ∧ RsT H u rs
theorem PairR.mono {H H' : Hp} {v : V} {rs : List Rl} {o : Option Nat} (s : Same H H') (h : PairR H v rs o) : PairR H' v rs o := let ⟨a, u, e, h1, h2⟩ := h; ⟨a, u, e, s _ _ h1, h2.mono s⟩
/-- (tuple(rows), name): the rows' items laid as a tuple, then the pair -/
theorem pair_laid {H : Hp} {p a b : Addr} {us : List V} {rs : List Rl} {o : Option Nat} (hu : Rows H us rs) (na : H a = none) (nb : upd H a (.tup us) b = none) : Same H (upd (upd H a (.tup us)) b (.tup [.ref a, nmV o])) ∧ PairR (upd (upd H a (.tup us)) b (.tup [.ref a, nmV o])) (.ref b) rs o := by
  have s1 := same_new (o := HO.tup us) na
  have s2 := same_new (o := HO.tup [.ref a, nmV o]) nb
  refine ⟨s1.trans s2, b, .ref a, rfl, upd_same, a, us, rfl, s2 _ _ upd_same, Rows.mono (s1.trans s2) hu⟩
def sp_joined : Sp := fun vs H Q _ => ∃ (v : V) (rs : List Rl) (ts : List Tr) (o1 o2 : Option Nat) (z1 z2 : Nat), vs = [v, nmV o1, nmV o2] ∧ RsU H v rs ts ∧ LenO ts o1 z1 ∧ LenO ts o2 z2 ∧ z1 + z2 ≤ 2 ^ 60 ∧
  ∀ v' H', Same H H' → PairR H' v' (linkR rs o1 o2).1 (linkR rs o1 o2).2 → Q v' H'
theorem ok_joined (T : Hd K mg) : Own P w K mg base "joined" ["rules", "one", "other"] 4 sp_joined := by
  refine own_mk T.d_joined sc_joined (fun vs H Q E h => ?_) (fun _ _ _ _ _ _ us hl => match us, hl with | [_, _, _], _ => rfl) (fun fa cdv A outer s H vs Q E hr h => ⟨_, (pss_cons (ps_if (pt_cmpR op_gt (pe_op op_add (pe_own (ok_length T) (hr.mono (by decide)) (by rfl) (pa_cons (pv 0) (pa_cons (pv 1) pa_nil))) (pe_own (ok_length T) (hr.mono (by decide)) (by rfl) (pa_cons (pv 0) (pa_cons (pv 2) pa_nil)))) (pe_gi T.i_MOST (by rfl)) (nomark _)) (pss_one ps_never) pss_nil)
      (pss_cons (ps_set (i := 3) sc_joined.nd rfl (Or.inl rfl) (pe_callTy call_list_of (by rfl) T.z_list (by decide +kernel) (pa_cons (pv 0) pa_nil)))
      (pss_cons (ps_set (i := 4) sc_joined.nd rfl (Or.inl rfl) (pe_own (ok_linked T) (hr.mono (by decide)) (by rfl) (pa_cons (pv 3) (pa_cons (pv 1) (pa_cons (pv 2) pa_nil)))))
      (pss_one (ps_ret (pe_tup (pa_cons (pe_callTy call_tuple_of (by rfl) T.z_tuple (by decide +kernel) (pa_cons (pv 3) pa_nil)) (pa_cons (pv 4) pa_nil)))))))), ?_⟩)
  · obtain ⟨v, rs, ts, o1, o2, z1, z2, rfl, _⟩ := h
    rfl
  · obtain ⟨v, rs, ts, o1, o2, z1, z2, rfl, hR, hz1, hz2, hz, q⟩ := h
    refine ⟨v, rfl, nmV o1, rfl, v, rs, ts, o1, z1, rfl, hR, hz1, fun H1 s1 => ?_⟩
    refine ⟨v, rfl, nmV o2, rfl, v, rs, ts, o2, z2, rfl, hR.mono s1, hz2, fun H2 s2 => ?_⟩
    refine ⟨_, _, rfl, rfl, _, _, rfl, rfl, _, rfl, ?_⟩
    rw [intn (show ¬ (1152921504606846976 : Int) < (z1 : Int) + (z2 : Int) by
      have e : (2 : Nat) ^ 60 = 1152921504606846976 := by decide
      omega)]
    have s12 := s1.trans s2
    obtain ⟨a, us, rfl, ha, hr⟩ := hR.1.mono s12
    refine iteF ⟨.ref a, rfl, a, us, rfl, .inr (sqT ha), fun l nl => ?_⟩
    have s3 := same_new (o := HO.lst us) nl
    refine ⟨.ref l, rfl, nmV o1, rfl, nmV o2, rfl, l, rs, o1, o2, rfl, ⟨us, upd_same, Rows.mono s3 hr⟩, by have := hR.2.2; omega, fun H4 b4 hL => ?_⟩
    have s4 : Same H2 H4 := But.same s3 nl b4
    obtain ⟨us4, h4, hr4⟩ := hL
    refine ⟨.ref l, rfl, l, us4, rfl, .inl ⟨sqL h4, fun c nc => ?_⟩⟩
    refine ⟨_, rfl, by show 2 ≤ sizeLine; decide, fun d nd => ?_⟩
    obtain ⟨s5, hp⟩ := pair_laid (p := l) (o := (linkR rs o1 o2).2) hr4 nc nd
    exact q _ _ ((s12.trans s4).trans s5) hp
def sp_repeated : Sp := fun vs H Q _ => ∃ (v : V) (rs : List Rl) (ts : List Tr) (o : Option Nat) (z : Nat), vs = [v, nmV o, .int 2] ∧ RsU H v rs ts ∧ LenO ts o z ∧ z + z ≤ 2 ^ 60 ∧
  ∀ v' H', Same H H' → PairR H' v' (overR rs o 2).1 (overR rs o 2).2 → Q v' H'
theorem ok_repeated (T : Hd K mg) : Own P w K mg base "repeated" ["rules", "name", "many"] 4 sp_repeated := by
  refine own_mk T.d_repeated sc_repeated (fun vs H Q E h => ?_) (fun _ _ _ _ _ _ us hl => match us, hl with | [_, _, _], _ => rfl) (fun fa cdv A outer s H vs Q E hr h => ⟨_, (pss_cons (ps_if (pt_cmpR op_gt (pe_op op_mul (pe_own (ok_length T) (hr.mono (by decide)) (by rfl) (pa_cons (pv 0) (pa_cons (pv 1) pa_nil))) (pv 2)) (pe_gi T.i_MOST (by rfl)) (nomark _)) (pss_one ps_never) pss_nil)
      (pss_cons (ps_set (i := 3) sc_repeated.nd rfl (Or.inl rfl) (pe_callTy call_list_of (by rfl) T.z_list (by decide +kernel) (pa_cons (pv 0) pa_nil)))
      (pss_cons (ps_set (i := 4) sc_repeated.nd rfl (Or.inl rfl) (pe_own (ok_over T) (hr.mono (by decide)) (by rfl) (pa_cons (pv 3) (pa_cons (pv 1) (pa_cons (pv 2) pa_nil)))))
      (pss_one (ps_ret (pe_tup (pa_cons (pe_callTy call_tuple_of (by rfl) T.z_tuple (by decide +kernel) (pa_cons (pv 3) pa_nil)) (pa_cons (pv 4) pa_nil)))))))), ?_⟩)
  · obtain ⟨v, rs, ts, o, z, rfl, _⟩ := h
    rfl
  · obtain ⟨v, rs, ts, o, z, rfl, hR, hz1, hz, q⟩ := h
    refine ⟨v, rfl, nmV o, rfl, v, rs, ts, o, z, rfl, hR, hz1, fun H1 s1 => ?_⟩
    refine ⟨.int 2, rfl, _, _, rfl, rfl, .inr (by decide), _, _, rfl, rfl, _, rfl, ?_⟩
    rw [intn (show ¬ (1152921504606846976 : Int) < (z : Int) * 2 by
      have e : (2 : Nat) ^ 60 = 1152921504606846976 := by decide
      omega)]
    obtain ⟨a, us, rfl, ha, hr⟩ := hR.1.mono s1
    refine iteF ⟨.ref a, rfl, a, us, rfl, .inr (sqT ha), fun l nl => ?_⟩
    have s3 := same_new (o := HO.lst us) nl
    refine ⟨.ref l, rfl, nmV o, rfl, .int 2, rfl, l, rs, o, 2, rfl, ⟨us, upd_same, Rows.mono s3 hr⟩, by have := hR.2.2; omega, fun H4 b4 hL => ?_⟩
    have s4 : Same H1 H4 := But.same s3 nl b4
    obtain ⟨us4, h4, hr4⟩ := hL
    refine ⟨.ref l, rfl, l, us4, rfl, .inl ⟨sqL h4, fun c nc => ?_⟩⟩
    refine ⟨_, rfl, by show 2 ≤ sizeLine; decide, fun d nd => ?_⟩
    obtain ⟨s5, hp⟩ := pair_laid (p := l) (o := (overR rs o 2).2) hr4 nc nd
    exact q _ _ ((s1.trans s4).trans s5) hp
end
end Sb
set_option Elab.async false
set_option linter.all false
set_option maxRecDepth 100000
set_option maxHeartbeats 4000000
/-! Rules brought in behind others; a text cut as a whole, or not at all. -/
namespace Sb
open PySem PySem.Spec PyProof.Rows L2
section
variable {P : Program} {w : World} {K : PySem.W.Frag} {mg : Str → Option Value} {base : Heap}
/-- a op1 b op2 c op3 d, as a test -/
def tChain3 (r1 r2 r3 : R2) (ta tb tc td : TE) : TT := fun σ H Q => ta σ H fun x H1 => tb σ H1 fun y H2 => r1 x y H2 fun z H3 => ∃ k, z = .bl k ∧
  (if k = true then tc σ H3 fun w' H4 => r2 y w' H4 fun z' H5 => ∃ k', z' = .bl k' ∧ (if k' = true then td σ H5 fun v' H6 => r3 w' v' H6 fun z2 H7 => ∃ k2, z2 = .bl k2 ∧ Q k2 H7 else Q false H5) else Q false H3)
theorem pt_chain3 {X : Cx} {a b c d : Expr} {ta tb tc td : TE} {pos : Pos} {op op' op2 : CmpOp} {r r' r2 : R2} (ho : OpR X (compareOp op) r) (ho' : OpR X (compareOp op') r') (ho2 : OpR X (compareOp op2) r2) (ha : PE X a ta) (hb : PE X b tb) (hc : PE X c tc) (hd : PE X d td)
    (hm : lastMarks [op, op', op2] [b, c, d] = false := by with_unfolding_all rfl) : PT X (.Compare a [op, op', op2] [b, c, d] pos) (tChain3 r r' r2 ta tb tc td) := by
  refine ⟨fun pins s σ H Q I h => ?_⟩
  refine isTrue_chain (thn (ha.run pins s σ H _ I h) fun v s1 ⟨x, H1, I1, r1, q1⟩ => test_link (thn (hb.run pins s1 σ H1 _ I1 q1) fun u s2 ⟨y, H2, I2, ry, q2⟩ =>
    thn (ho pins s2 σ H2 x y v u _ I2 r1 ry q2) fun d s3 ⟨z, H3, I3, r3, k, e, q3⟩ => ?_)) hm
  subst e
  cases r3
  refine wpAny_truthy_bool ?_
  cases k with
  | false => exact ite_ff ⟨H3, I3, q3⟩
  | true =>
    refine ite_tt (test_link (thn (hc.run pins s3 σ H3 _ I3 q3) fun w' s4 ⟨z', H4, I4, r4, q4⟩ => thn (ho' pins s4 σ H4 y z' u w' _ I4 ry r4 q4) fun d' s5 ⟨z2, H5, I5, r5, k2, e2, q5⟩ => ?_))
    subst e2
    cases r5
    refine wpAny_truthy_bool ?_
    cases k2 with
    | false => exact ite_ff ⟨H5, I5, q5⟩
    | true =>
      refine ite_tt (test_last (thn (hd.run pins s5 σ H5 _ I5 q5) fun w2 s6 ⟨z3, H6, I6, r6, q6⟩ => thn (ho2 pins s6 σ H6 z' z3 w' w2 _ I6 r4 r6 q6) fun d2 s7 ⟨z4, H7, I7, r7, k3, e3, q7⟩ => ?_))
      subst e3
      cases r7
      exact wpAny_truthy_bool ⟨H7, I7, q7⟩
theorem upNums (k n : Nat) {i : Nat} (h : i < n) : (((List.range n).map (k + ·))[i]?) = some (k + i) := by
  rw [List.getElem?_map, List.getElem?_range h]
  rfl
theorem ren_up {k n : Nat} {r : Rl} (h : ∀ p ∈ r.parts, p < n) : Ren (fun i => ((List.range n).map (k + ·))[i]?) r (r.up k) := by
  cases r with
  | sg c => rfl
  | jn i j => exact ⟨k + i, k + j, upNums k n (h i (by simp [Rl.parts])), upNums k n (h j (by simp [Rl.parts])), rfl⟩
  | tm i m => exact ⟨k + i, upNums k n (h i (by simp [Rl.parts])), rfl⟩
def upO (k : Nat) : Option Nat → Option Nat
  | none => none
  | some n => some (k + n)
def sp_brought : Sp := fun vs H Q _ => ∃ (v1 v2 : V) (rs ss : List Rl) (us : List Tr) (o : Option Nat), vs = [v1, v2, nmV o] ∧ RsT H v1 rs ∧ RsT H v2 ss ∧ RT ss us ∧ rs.length ≤ 90000 ∧ ss.length ≤ 50000 ∧ NmOk ss.length o ∧
  ∀ v' H', Same H H' → PairR H' v' (rs ++ ss.map (Rl.up rs.length)) (upO rs.length o) → Q v' H'
theorem ok_brought (T : Hd K mg) : Own P w K mg base "brought" ["rules", "others", "name"] 2 sp_brought := by
  refine own_mk T.d_brought sc_brought (fun vs H Q E h => ?_) (fun _ _ _ _ _ _ us hl => match us, hl with | [_, _, _], _ => rfl) (fun fa cdv A outer s H vs Q E hr h => ⟨_, (pss_cons (ps_expr (pe_own (ok_named T) (hr.mono (by decide)) (by rfl) (pa_cons (pv 1) (pa_cons (pv 2) pa_nil))))
      (pss_cons (ps_set (i := 3) sc_brought.nd rfl (Or.inr rfl) (pe_callB call_len_seq (by rfl) T.z_len (by decide +kernel) (pa_cons (pv 0) pa_nil)))
      (pss_cons (ps_setLc (i := 4) (own := [("number", 7)]) (g := gName 7) (tt := tYes) rfl sc_brought.nd rfl rfl (sw_true rfl rfl rfl (by decide +kernel)) (pi_range1 (by rfl) T.z_range (pa_cons (pe_callB call_len_seq (by rfl) T.z_len (by decide +kernel) (pa_cons (pv 1) pa_nil)) pa_nil)) (blkOk_by (own := [("number", 7)]) (N := ["rules", "others", "name", "far", "numbers", "rows", "rule", "number"]) (sc := defScope s_brought) (by decide +kernel)) (fun _ _ _ _ _ => pg_name (i := 7) sc_brought.nd rfl (Or.inl rfl)) (fun _ _ _ _ _ => pts_nil) (fun _ _ _ _ _ => (pe_op op_add (pv 3) (pv 7))))
      (pss_cons (ps_set (i := 5) sc_brought.nd rfl (Or.inl rfl) (pe_callTy call_list_of (by rfl) T.z_list (by decide +kernel) (pa_cons (pv 0) pa_nil)))
      (pss_cons (ps_for PassesOwn.never rfl (pi_tup (pv 1)) (pg_name (i := 6) sc_brought.nd rfl (Or.inl rfl)) (pss_one (ps_expr (pe_bm PySem.F.plainAttrs_list PySem.F.slot_list_append PySem.F.type_list_append mt_append (pv 5) (pa_cons (pe_own (ok_renamedL T) (hr.mono (by decide)) (by rfl) (pa_cons (pv 6) (pa_cons (pv 4) pa_nil))) pa_nil)))))
      (pss_cons (ps_if (pt_cmpR op_isN (pv 2) pe_non (nomark _)) (pss_one (ps_ret (pe_tup (pa_cons (pe_callTy call_tuple_of (by rfl) T.z_tuple (by decide +kernel) (pa_cons (pv 5) pa_nil)) (pa_cons pe_non pa_nil))))) pss_nil)
      (pss_one (ps_ret (pe_tup (pa_cons (pe_callTy call_tuple_of (by rfl) T.z_tuple (by decide +kernel) (pa_cons (pv 5) pa_nil)) (pa_cons (pe_op op_add (pv 3) (pv 2)) pa_nil))))))))))), ?_⟩)
  · obtain ⟨v1, v2, rs, ss, us, o, rfl, _⟩ := h
    rfl
  · obtain ⟨v1, v2, rs, ss, us, o, rfl, h1, h2, hT, hz1, hz2, ho, q⟩ := h
    refine ⟨v2, rfl, nmV o, rfl, v2, ss, o, rfl, h2, ho, ?_⟩
    obtain ⟨a1, x1, rfl, ha1, hr1⟩ := h1
    obtain ⟨a2, x2, rfl, ha2, hr2⟩ := h2
    have l1 : x1.length = rs.length := Paired.length hr1
    have l2 : x2.length = ss.length := Paired.length hr2
    refine ⟨.ref a1, rfl, a1, x1, rfl, .inr (sqT ha1), ?_⟩
    refine ⟨.ref a2, rfl, a2, x2, rfl, .inr (sqT ha2), (x2.length : Int), rfl, by omega, by omega, fun D nD => ?_⟩
    have sD := same_new (o := HO.lst []) nD
    refine lc_range (lo := 0) (n := ((x2.length : Int)).toNat) (fun i H' => Same H H' ∧ H' D = some (.lst (nV ((List.range i).map (rs.length + ·))))) ⟨sD, upd_same⟩ (fun i H' hi ⟨s1, hD⟩ => ?_) (fun H' ⟨s1, hD⟩ => ?_)
    · refine ⟨rfl, ?_⟩
      refine ⟨.int (x1.length : Int), rfl, .int (0 + (i : Int)), rfl, _, _, rfl, rfl, _, hD, ?_, ?_, ?_⟩
      · rw [nV_len, List.length_map, List.length_range]
        exact szt (by omega)
      · exact Same.mut s1 nD
      · rw [upd_same, List.range_succ, List.map_append, nV_app]
        have e : V.int ((x1.length : Int) + (0 + (i : Int))) = .int ((rs.length + i : Nat) : Int) := by
          congr 1
          omega
        show some (HO.lst (_ ++ [V.int ((x1.length : Int) + (0 + (i : Int)))])) = _
        rw [e]
        rfl
    · rw [show ((x2.length : Int)).toNat = ss.length by omega] at hD
      refine ⟨.ref a1, rfl, a1, x1, rfl, .inr (sqT (s1 _ _ ha1)), fun l nl => ?_⟩
      have sl := same_new (o := HO.lst x1) nl
      have s2 := s1.trans sl
      have nl0 : H l = Option.none := s1.free nl
      refine ⟨.ref a2, rfl, a2, rfl, ⟨x2, sqT (s2 _ _ ha2)⟩, for_tup (K := K) (a := a2) (xs := x2) (fun i σ H3 => ∃ y z, σ = [some (.ref a1), some (.ref a2), some (nmV o), some (.int (x1.length : Int)), some (.ref D), some (.ref l), y, z] ∧ Same H' H3 ∧ RsL H3 l (rs ++ (ss.take i).map (Rl.up rs.length)))
        ⟨none, none, rfl, sl, x1, upd_same, by rw [List.take_zero, List.map_nil, List.append_nil]; exact Rows.mono s2 hr1⟩ (fun i σ H3 _ ⟨_, _, _, s3, _⟩ => sqT (s3 _ _ (s1 _ _ ha2))) ?_ ?_⟩
      · rintro i x σ H3 hi ⟨y, z, rfl, s3, us3, hl3, hr3⟩
        obtain ⟨r, hri⟩ := get_at (l := ss) (i := i) (by rw [← l2]; exact get_lt hi)
        obtain ⟨x', hx', hrx⟩ := P_get hr2 hri
        rw [hi] at hx'
        cases hx'
        have hp : ∀ p ∈ r.parts, p < ss.length := fun p hp => Nat.lt_trans (hT.part hri hp) (get_lt hri)
        refine ⟨.ref l, rfl, .inl ⟨rfl, _, sqL hl3⟩, x, rfl, .ref D, rfl, x, D, r, r.up rs.length, _, rfl, hrx.mono (s1.trans s3), s3 _ _ hD, ren_up hp, fun v' H4 s4 hv' => ?_⟩
        have hl4 := s4 _ _ hl3
        have hlen : us3.length = rs.length + i := by
          rw [Paired.length hr3, List.length_append, List.length_map, List.length_take]
          have := get_lt hri
          omega
        refine ⟨l, us3, v', rfl, rfl, hl4, szt (by have := get_lt hri; omega), ?_⟩
        refine ⟨_, _, rfl, Same.mut (s3.trans s4) nl, us3 ++ [v'], upd_same, ?_⟩
        rw [take_snoc hri, List.map_append, ← List.append_assoc]
        exact P_app (Rows.but But.upd hl4 (Rows.mono s4 hr3)) (P_one (RuA.but But.upd hl4 hv'))
      · rintro σ H3 ⟨y, z, rfl, s3, us3, hl3, hr3⟩
        rw [l2, List.take_length] at hr3
        have sA := s1.trans s3
        cases o with
        | none =>
          refine ⟨.non, rfl, rfl, _, rfl, iteT ⟨.ref l, rfl, l, us3, rfl, .inl ⟨sqL hl3, fun c nc => ?_⟩⟩⟩
          refine ⟨by show 2 ≤ sizeLine; decide, fun d nd => ?_⟩
          obtain ⟨s5, hp⟩ := pair_laid (p := l) (o := none) hr3 nc nd
          exact q _ _ (sA.trans s5) hp
        | some n =>
          refine ⟨.int (n : Int), rfl, rfl, _, rfl, iteF ⟨.ref l, rfl, l, us3, rfl, .inl ⟨sqL hl3, fun c nc => ?_⟩⟩⟩
          refine ⟨.int (x1.length : Int), rfl, .int (n : Int), rfl, _, _, rfl, rfl, by show 2 ≤ sizeLine; decide, fun d nd => ?_⟩
          have e : V.int ((x1.length : Int) + (n : Int)) = nmV (some (rs.length + n)) := by
            show _ = V.int ((rs.length + n : Nat) : Int)
            congr 1
            omega
          obtain ⟨s5, hp⟩ := pair_laid (p := l) (o := some (rs.length + n)) hr3 nc nd
          show Q _ (L2.upd _ d (.tup [.ref c, V.int ((x1.length : Int) + (n : Int))]))
          rw [e]
          exact q _ _ (sA.trans s5) hp
end
end Sb
set_option Elab.async false
set_option linter.all false
set_option maxRecDepth 100000
set_option maxHeartbeats 4000000
/-! A text cut as a whole, or not at all. -/
namespace Sb
open PySem PySem.Spec PyProof.Rows L2
section
variable {P : Program} {w : World} {K : PySem.W.Frag} {mg : Str → Option Value} {base : Heap}
/-- all of a text, or none of it -/
def someN (n z : Nat) : Option Nat := if z = 0 then none else some n
def sp_ends : Sp := fun vs H Q _ => ∃ (v : V) (s : Addr) (ts : List Tr) (n z : Nat) (t : Tr), vs = [v, .ref s, .int (n : Int), .int (z : Int)] ∧ H s = some (.lst (nV (lens ts))) ∧ ts[n]? = some t ∧ (z = 0 ∨ z = t.len) ∧
  ∀ H', Same H H' → Q (nmV (someN n z)) H'
abbrev sp_beginning : Sp := sp_ends
abbrev sp_ending : Sp := sp_ends
theorem ok_beginning (T : Hd K mg) : Own P w K mg base "beginning" ["rows", "sizes", "name", "many"] 3 sp_beginning := by
  refine own_mk T.d_beginning sc_beginning (fun vs H Q E h => ?_) (fun _ _ _ _ _ _ us hl => match us, hl with | [_, _, _, _], _ => rfl) (fun fa cdv A outer s H vs Q E hr h => ⟨_, (pss_cons (ps_set (i := 4) sc_beginning.nd rfl (Or.inl rfl) (pe_lst pa_nil))
      (pss_cons (ps_while PassesOwn.never (pt_chain op_lt op_lt pe_int (pv 3) (pe_ix ix_list (pv 1) (pv 2) (fun _ _ => rfl))) (pss_cons (ps_set (i := 5) sc_beginning.nd rfl (Or.inl rfl) (pe_ix ix_list (pv 0) (pv 2) (fun _ _ => rfl)))
      (pss_cons (ps_set (i := 6) sc_beginning.nd rfl (Or.inl rfl) (pe_ix ix_list (pv 1) (pe_ix ix_tup (pv 5) pe_int (fun _ _ => rfl)) (fun _ _ => rfl)))
      (pss_one (ps_if (pt_cmpR op_eq (pe_ix ix_tup (pv 5) pe_int (fun _ _ => rfl)) pe_str (nomark _)) (pss_cons (ps_expr (pe_bm PySem.F.plainAttrs_list PySem.F.slot_list_append PySem.F.type_list_append mt_append (pv 4) (pa_cons (pe_own (ok_over T) (hr.mono (by decide)) (by rfl) (pa_cons (pv 0) (pa_cons (pe_ix ix_tup (pv 5) pe_int (fun _ _ => rfl)) (pa_cons (pe_op op_fdivW (pv 3) (pv 6)) pa_nil)))) pa_nil)))
      (pss_cons (ps_set (i := 3) sc_beginning.nd rfl (Or.inl rfl) (pe_op op_mod (pv 3) (pv 6)))
      (pss_one (ps_set (i := 2) sc_beginning.nd rfl (Or.inl rfl) (pe_ix ix_tup (pv 5) pe_int (fun _ _ => rfl)))))) (pss_one (ps_if (pt_cmpR op_lt (pv 3) (pv 6) (nomark _)) (pss_one (ps_set (i := 2) sc_beginning.nd rfl (Or.inl rfl) (pe_ix ix_tup (pv 5) pe_int (fun _ _ => rfl)))) (pss_cons (ps_expr (pe_bm PySem.F.plainAttrs_list PySem.F.slot_list_append PySem.F.type_list_append mt_append (pv 4) (pa_cons (pe_ix ix_tup (pv 5) pe_int (fun _ _ => rfl)) pa_nil)))
      (pss_cons (ps_set (i := 3) sc_beginning.nd rfl (Or.inl rfl) (pe_op op_sub (pv 3) (pv 6)))
      (pss_one (ps_set (i := 2) sc_beginning.nd rfl (Or.inl rfl) (pe_ix ix_tup (pv 5) pe_int (fun _ _ => rfl)))))))))))))
      (pss_cons (ps_set (i := 7) sc_beginning.nd rfl (Or.inl rfl) pe_non)
      (pss_cons (ps_if (pt_cmpR op_gt (pv 3) pe_int (nomark _)) (pss_one (ps_set (i := 7) sc_beginning.nd rfl (Or.inl rfl) (pv 2))) pss_nil)
      (pss_cons (ps_for PassesOwn.never rfl (pi_reversed (by rfl) T.z_reversed (pa_cons (pv 4) pa_nil)) (pg_name (i := 8) sc_beginning.nd rfl (Or.inl rfl)) (pss_one (ps_set (i := 7) sc_beginning.nd rfl (Or.inl rfl) (pe_own (ok_linked T) (hr.mono (by decide)) (by rfl) (pa_cons (pv 0) (pa_cons (pv 8) (pa_cons (pv 7) pa_nil)))))))
      (pss_one (ps_ret (pv 7)))))))), ?_⟩)
  · obtain ⟨v, s, ts, n, z, t, rfl, _⟩ := h
    rfl
  · obtain ⟨v, s', ts, n, z, t, rfl, hs, ht, hz, q⟩ := h
    refine ⟨Nat.zero_le _, fun l nl => ?_⟩
    have sl := same_new (o := HO.lst []) nl
    refine ⟨fun m σ H' => σ = [some v, some (.ref s'), some (.int (n : Int)), some (.int (z : Int)), some (.ref l), none, none, none, none] ∧ H' = upd H l (.lst []), ⟨0, rfl, rfl⟩, ?_⟩
    rintro m σ H' ⟨rfl, rfl⟩
    have fin : ∀ (u : Option V), (tFor (iRev K (tCons (tVar 4) tNil)) (gName 8) (tAsg (tCall sp_linked [] E0 (tCons (tVar 0) (tCons (tVar 8) (tCons (tVar 7) tNil)))) (gName 7))) { nx := tRet (tVar 7) { nx := fun _ H' => Q .non H', rt := Q }, rt := Q } [some v, some (.ref s'), some (.int (n : Int)), some (.int (z : Int)), some (.ref l), none, none, some (nmV (someN n z)), none] (upd H l (.lst [])) := by
      intro u
      refine ⟨.ref l, rfl, l, [], rfl, sqL upd_same, fun i m σ H' => σ = [some v, some (.ref s'), some (.int (n : Int)), some (.int (z : Int)), some (.ref l), none, none, some (nmV (someN n z)), none] ∧ H' = upd H l (.lst []), ⟨0, rfl, rfl⟩, ?_⟩
      rintro i m σ H' ⟨rfl, rfl⟩
      exact .inl ⟨Nat.zero_le _, _, rfl, q _ sl⟩
    by_cases z0 : z = 0
    · subst z0
      refine ⟨_, rfl, 0, 0, rfl, rfl, _, rfl, _, rfl, ?_⟩
      refine ⟨_, rfl, 0, 0, rfl, rfl, _, rfl, fin none⟩
    · have hzt : z = t.len := hz.resolve_left z0
      refine ⟨_, rfl, 0, (z : Int), rfl, rfl, _, rfl, ?_⟩
      rw [intd (show (0 : Int) < (z : Int) by omega)]
      refine iteT ⟨_, rfl, _, rfl, s', _, (n : Int), _, rfl, rfl, sqL (sl _ _ hs), at_nV (lens_get ht), (z : Int), (t.len : Int), rfl, rfl, _, rfl, ?_⟩
      rw [intn (show ¬ (z : Int) < (t.len : Int) by omega)]
      refine iteF ⟨_, rfl, (z : Int), 0, rfl, rfl, _, rfl, ?_⟩
      rw [intd (show (0 : Int) < (z : Int) by omega)]
      refine iteT ⟨_, rfl, ?_⟩
      have f := fin none
      rw [show someN n z = some n from if_neg z0] at f
      exact f
theorem ok_ending (T : Hd K mg) : Own P w K mg base "ending" ["rows", "sizes", "name", "many"] 3 sp_ending := by
  refine own_mk T.d_ending sc_ending (fun vs H Q E h => ?_) (fun _ _ _ _ _ _ us hl => match us, hl with | [_, _, _, _], _ => rfl) (fun fa cdv A outer s H vs Q E hr h => ⟨_, (pss_cons (ps_set (i := 4) sc_ending.nd rfl (Or.inl rfl) (pe_lst pa_nil))
      (pss_cons (ps_while PassesOwn.never (pt_chain op_lt op_lt pe_int (pv 3) (pe_ix ix_list (pv 1) (pv 2) (fun _ _ => rfl))) (pss_cons (ps_set (i := 5) sc_ending.nd rfl (Or.inl rfl) (pe_ix ix_list (pv 0) (pv 2) (fun _ _ => rfl)))
      (pss_one (ps_if (pt_cmpR op_eq (pe_ix ix_tup (pv 5) pe_int (fun _ _ => rfl)) pe_str (nomark _)) (pss_cons (ps_expr (pe_bm PySem.F.plainAttrs_list PySem.F.slot_list_append PySem.F.type_list_append mt_append (pv 4) (pa_cons (pe_own (ok_over T) (hr.mono (by decide)) (by rfl) (pa_cons (pv 0) (pa_cons (pe_ix ix_tup (pv 5) pe_int (fun _ _ => rfl)) (pa_cons (pe_op op_fdivW (pv 3) (pe_ix ix_list (pv 1) (pe_ix ix_tup (pv 5) pe_int (fun _ _ => rfl)) (fun _ _ => rfl))) pa_nil)))) pa_nil)))
      (pss_cons (ps_set (i := 3) sc_ending.nd rfl (Or.inl rfl) (pe_op op_mod (pv 3) (pe_ix ix_list (pv 1) (pe_ix ix_tup (pv 5) pe_int (fun _ _ => rfl)) (fun _ _ => rfl))))
      (pss_one (ps_set (i := 2) sc_ending.nd rfl (Or.inl rfl) (pe_ix ix_tup (pv 5) pe_int (fun _ _ => rfl)))))) (pss_one (ps_if (pt_cmpR op_lt (pv 3) (pe_ix ix_list (pv 1) (pe_ix ix_tup (pv 5) pe_int (fun _ _ => rfl)) (fun _ _ => rfl)) (nomark _)) (pss_one (ps_set (i := 2) sc_ending.nd rfl (Or.inl rfl) (pe_ix ix_tup (pv 5) pe_int (fun _ _ => rfl)))) (pss_cons (ps_expr (pe_bm PySem.F.plainAttrs_list PySem.F.slot_list_append PySem.F.type_list_append mt_append (pv 4) (pa_cons (pe_ix ix_tup (pv 5) pe_int (fun _ _ => rfl)) pa_nil)))
      (pss_cons (ps_set (i := 3) sc_ending.nd rfl (Or.inl rfl) (pe_op op_sub (pv 3) (pe_ix ix_list (pv 1) (pe_ix ix_tup (pv 5) pe_int (fun _ _ => rfl)) (fun _ _ => rfl))))
      (pss_one (ps_set (i := 2) sc_ending.nd rfl (Or.inl rfl) (pe_ix ix_tup (pv 5) pe_int (fun _ _ => rfl))))))))))))
      (pss_cons (ps_set (i := 6) sc_ending.nd rfl (Or.inl rfl) pe_non)
      (pss_cons (ps_if (pt_cmpR op_gt (pv 3) pe_int (nomark _)) (pss_one (ps_set (i := 6) sc_ending.nd rfl (Or.inl rfl) (pv 2))) pss_nil)
      (pss_cons (ps_for PassesOwn.never rfl (pi_reversed (by rfl) T.z_reversed (pa_cons (pv 4) pa_nil)) (pg_name (i := 7) sc_ending.nd rfl (Or.inl rfl)) (pss_one (ps_set (i := 6) sc_ending.nd rfl (Or.inl rfl) (pe_own (ok_linked T) (hr.mono (by decide)) (by rfl) (pa_cons (pv 0) (pa_cons (pv 6) (pa_cons (pv 7) pa_nil)))))))
      (pss_one (ps_ret (pv 6)))))))), ?_⟩)
  · obtain ⟨v, s, ts, n, z, t, rfl, _⟩ := h
    rfl
  · obtain ⟨v, s', ts, n, z, t, rfl, hs, ht, hz, q⟩ := h
    refine ⟨Nat.zero_le _, fun l nl => ?_⟩
    have sl := same_new (o := HO.lst []) nl
    refine ⟨fun m σ H' => σ = [some v, some (.ref s'), some (.int (n : Int)), some (.int (z : Int)), some (.ref l), none, none, none] ∧ H' = upd H l (.lst []), ⟨0, rfl, rfl⟩, ?_⟩
    rintro m σ H' ⟨rfl, rfl⟩
    have fin : ∀ (u : Option V), (tFor (iRev K (tCons (tVar 4) tNil)) (gName 7) (tAsg (tCall sp_linked [] E0 (tCons (tVar 0) (tCons (tVar 6) (tCons (tVar 7) tNil)))) (gName 6))) { nx := tRet (tVar 6) { nx := fun _ H' => Q .non H', rt := Q }, rt := Q } [some v, some (.ref s'), some (.int (n : Int)), some (.int (z : Int)), some (.ref l), none, some (nmV (someN n z)), none] (upd H l (.lst [])) := by
      intro u
      refine ⟨.ref l, rfl, l, [], rfl, sqL upd_same, fun i m σ H' => σ = [some v, some (.ref s'), some (.int (n : Int)), some (.int (z : Int)), some (.ref l), none, some (nmV (someN n z)), none] ∧ H' = upd H l (.lst []), ⟨0, rfl, rfl⟩, ?_⟩
      rintro i m σ H' ⟨rfl, rfl⟩
      exact .inl ⟨Nat.zero_le _, _, rfl, q _ sl⟩
    by_cases z0 : z = 0
    · subst z0
      refine ⟨_, rfl, 0, 0, rfl, rfl, _, rfl, _, rfl, ?_⟩
      refine ⟨_, rfl, 0, 0, rfl, rfl, _, rfl, fin none⟩
    · have hzt : z = t.len := hz.resolve_left z0
      refine ⟨_, rfl, 0, (z : Int), rfl, rfl, _, rfl, ?_⟩
      rw [intd (show (0 : Int) < (z : Int) by omega)]
      refine iteT ⟨_, rfl, _, rfl, s', _, (n : Int), _, rfl, rfl, sqL (sl _ _ hs), at_nV (lens_get ht), (z : Int), (t.len : Int), rfl, rfl, _, rfl, ?_⟩
      rw [intn (show ¬ (z : Int) < (t.len : Int) by omega)]
      refine iteF ⟨_, rfl, (z : Int), 0, rfl, rfl, _, rfl, ?_⟩
      rw [intd (show (0 : Int) < (z : Int) by omega)]
      refine iteT ⟨_, rfl, ?_⟩
      have f := fin none
      rw [show someN n z = some n from if_neg z0] at f
      exact f
/-- the rule of a whole text's copy -/
def Rl.whole : Rl → Rl
  | .sg c => .sg c
  | .jn i j => .jn i j
  | .tm i _ => .jn i i
theorem someN_len (n : Nat) (t : Tr) : someN n t.len = some n := if_neg (by have := t.len_pos; omega)
theorem RsL.lst_ne {H : Hp} {p s : Addr} {rs : List Rl} {ts : List Tr} {i : Nat} {t : Tr} (h : RsL H p rs) (hs : H s = some (.lst (nV (lens ts)))) (ht : ts[i]? = some t) : s ≠ p := by
  rintro rfl
  obtain ⟨us, e, hr⟩ := h
  rw [hs] at e
  have e2 := HO.lst.inj (Option.some.inj e)
  have h1 := nV_get (lens_get ht)
  rw [e2] at h1
  have hl : us.length = rs.length := Paired.length hr
  obtain ⟨r, hr1⟩ := get_at (l := rs) (i := i) (by rw [← hl]; exact get_lt h1)
  obtain ⟨x, hx, ⟨a, ea, _⟩⟩ := P_get hr hr1
  rw [h1] at hx
  cases hx
  cases ea
def sp_across : Sp := fun vs H Q _ => ∃ (p s : Addr) (v : V) (rs : List Rl) (ts : List Tr) (r : Rl) (t : Tr), vs = [.ref p, .ref s, v, .int 0, .int (t.len : Int)] ∧ RsL H p rs ∧ rs.length ≤ 140000 ∧ H s = some (.lst (nV (lens ts))) ∧ RuA H v r ∧ Fits ts r t ∧ (∀ c, r ≠ .sg c) ∧ t.len ≤ 2 ^ 60 ∧
  ∀ H', But p H H' → RsL H' p (rs ++ [r.whole]) → Q (.int (rs.length : Int)) H'
theorem ok_across (T : Hd K mg) : Own P w K mg base "across" ["rows", "sizes", "rule", "start", "end"] 4 sp_across := by
  refine own_mk T.d_across sc_across (fun vs H Q E h => ?_) (fun _ _ _ _ _ _ us hl => match us, hl with | [_, _, _, _, _], _ => rfl) (fun fa cdv A outer s H vs Q E hr h => ⟨_, (pss_cons (ps_set (i := 5) sc_across.nd rfl (Or.inl rfl) (pe_ix ix_tup (pv 2) pe_int (fun _ _ => rfl)))
      (pss_cons (ps_set (i := 6) sc_across.nd rfl (Or.inl rfl) (pe_ix ix_list (pv 1) (pv 5) (fun _ _ => rfl)))
      (pss_cons (ps_set (i := 7) sc_across.nd rfl (Or.inl rfl) (pe_own (ok_ending T) (hr.mono (by decide)) (by rfl) (pa_cons (pv 0) (pa_cons (pv 1) (pa_cons (pv 5) (pa_cons (pe_op op_sub (pv 6) (pv 3)) pa_nil))))))
      (pss_cons (ps_if (pt_cmpR op_eq (pe_ix ix_tup (pv 2) pe_int (fun _ _ => rfl)) pe_str (nomark _)) (pss_one (ps_ret (pe_own (ok_linked T) (hr.mono (by decide)) (by rfl) (pa_cons (pv 0) (pa_cons (pv 7) (pa_cons (pe_own (ok_beginning T) (hr.mono (by decide)) (by rfl) (pa_cons (pv 0) (pa_cons (pv 1) (pa_cons (pe_ix ix_tup (pv 2) pe_int (fun _ _ => rfl)) (pa_cons (pe_op op_sub (pv 4) (pv 6)) pa_nil))))) pa_nil)))))) pss_nil)
      (pss_cons (ps_set (i := 7) sc_across.nd rfl (Or.inl rfl) (pe_own (ok_linked T) (hr.mono (by decide)) (by rfl) (pa_cons (pv 0) (pa_cons (pv 7) (pa_cons (pe_own (ok_over T) (hr.mono (by decide)) (by rfl) (pa_cons (pv 0) (pa_cons (pv 5) (pa_cons (pe_op op_fdivW (pe_op op_sub (pv 4) (pv 6)) (pv 6)) pa_nil)))) pa_nil)))))
      (pss_one (ps_ret (pe_own (ok_linked T) (hr.mono (by decide)) (by rfl) (pa_cons (pv 0) (pa_cons (pv 7) (pa_cons (pe_own (ok_beginning T) (hr.mono (by decide)) (by rfl) (pa_cons (pv 0) (pa_cons (pv 1) (pa_cons (pv 5) (pa_cons (pe_op op_mod (pe_op op_sub (pv 4) (pv 6)) (pv 6)) pa_nil))))) pa_nil))))))))))), ?_⟩)
  · obtain ⟨p, s, v, rs, ts, r, t, rfl, _⟩ := h
    rfl
  · obtain ⟨p, s', v, rs, ts, r, t, rfl, hL, hz, hs, ⟨a, rfl, ha⟩, f, nsg, h60, q⟩ := h
    have e60 : (2 : Nat) ^ 60 = 1152921504606846976 := by decide
    cases r with
    | sg c => exact absurd rfl (nsg c)
    | jn i j =>
      obtain ⟨t1, t2, h1, h2, rfl⟩ := f
      have hsp := hL.lst_ne hs h1
      refine v_ixT (vx 2) vc (sqT ha) (atI_nat (j := 1) rfl) _ ?_
      refine v_ixL (vx 1) (vx 5) (sqL hs) (at_nV (lens_get h1)) _ ?_
      refine ⟨.ref p, rfl, .ref s', rfl, .int (i : Int), rfl, .int (t1.len : Int), rfl, .int 0, rfl, (t1.len : Int), 0, rfl, rfl, ?_⟩
      refine ⟨.ref p, s', ts, i, t1.len, t1, congrArg (fun z : Int => [V.ref p, V.ref s', V.int (i : Int), V.int z]) (Int.sub_zero _), hs, h1, .inr rfl, fun H1 s1 => ?_⟩
      rw [someN_len]
      refine s_yes (a_eq (v_ixT (vx 2) vc (sqT (s1 _ _ ha)) (atI_nat (j := 0) rfl)) vc rfl (by decide)) ?_
      refine ⟨.ref p, rfl, .int (i : Int), rfl, .ref p, rfl, .ref s', rfl, ?_⟩
      refine v_ixT (vx 2) vc (sqT (s1 _ _ ha)) (atI_nat (j := 2) rfl) _ ?_
      refine ⟨.int ((Tr.jn t1 t2).len : Int), rfl, .int (t1.len : Int), rfl, _, _, rfl, rfl, ?_⟩
      refine ⟨.ref p, s', ts, j, t2.len, t2, ?_, s1 _ _ hs, h2, .inr rfl, fun H2 s2 => ?_⟩
      · exact congrArg (fun z : Int => [V.ref p, V.ref s', V.int (j : Int), V.int z]) (show ((Tr.jn t1 t2).len : Int) - (t1.len : Int) = (t2.len : Int) by rw [Tr.len_jn]; omega)
      · rw [someN_len]
        exact ⟨p, rs, some i, some j, rfl, (hL.mono s1).mono s2, by omega, fun H3 b3 hL3 => q H3 (((Same.but s1).trans (Same.but s2)).trans b3) hL3⟩
    | tm i m =>
      obtain ⟨t1, rfl, h1, rfl⟩ := f
      have e2 : (Tr.db t1).len = t1.len + t1.len := Tr.len_db t1
      have pos := t1.len_pos
      refine v_ixT (vx 2) vc (sqT ha) (atI_nat (j := 1) rfl) _ ?_
      refine v_ixL (vx 1) (vx 5) (sqL hs) (at_nV (lens_get h1)) _ ?_
      refine ⟨.ref p, rfl, .ref s', rfl, .int (i : Int), rfl, .int (t1.len : Int), rfl, .int 0, rfl, (t1.len : Int), 0, rfl, rfl, ?_⟩
      refine ⟨.ref p, s', ts, i, t1.len, t1, congrArg (fun z : Int => [V.ref p, V.ref s', V.int (i : Int), V.int z]) (Int.sub_zero _), hs, h1, .inr rfl, fun H1 s1 => ?_⟩
      rw [someN_len]
      refine s_no (a_eq (v_ixT (vx 2) vc (sqT (s1 _ _ ha)) (atI_nat (j := 0) rfl)) vc rfl (by decide)) ?_
      have ed : ((Tr.db t1).len : Int) - (t1.len : Int) = (t1.len : Int) := by
        rw [e2]
        omega
      refine ⟨.ref p, rfl, .int (i : Int), rfl, .ref p, rfl, .int (i : Int), rfl, .int ((Tr.db t1).len : Int), rfl, .int (t1.len : Int), rfl, _, _, rfl, rfl, .int (t1.len : Int), rfl, ((Tr.db t1).len : Int) - (t1.len : Int), (t1.len : Int), rfl, rfl, wide_div (b := 64) (by omega) (by omega) (by decide) (by decide), ?_⟩
      refine ⟨p, rs, some i, 1, congrArg (fun z : Int => [V.ref p, V.int (i : Int), V.int z]) (show (((Tr.db t1).len : Int) - (t1.len : Int)) / (t1.len : Int) = 1 by rw [ed, Int.ediv_self (show (t1.len : Int) ≠ 0 by omega)]), hL.mono s1, by omega, fun H2 b2 hL2 => ?_⟩
      refine ⟨p, rs, some i, some i, rfl, hL2, by omega, fun H3 b3 hL3 => ?_⟩
      have b13 : But p H H3 := ((Same.but s1).trans b2).trans b3
      have hsp : s' ≠ p := hL.lst_ne hs h1
      refine ⟨.ref p, rfl, .int (rs.length : Int), rfl, .ref p, rfl, .ref s', rfl, .int (i : Int), rfl, .int ((Tr.db t1).len : Int), rfl, .int (t1.len : Int), rfl, _, _, rfl, rfl, .int (t1.len : Int), rfl, ((Tr.db t1).len : Int) - (t1.len : Int), (t1.len : Int), rfl, rfl, (by omega), ?_⟩
      refine ⟨.ref p, s', ts, i, 0, t1, congrArg (fun z : Int => [V.ref p, V.ref s', V.int (i : Int), V.int z]) (show (((Tr.db t1).len : Int) - (t1.len : Int)) % (t1.len : Int) = 0 by rw [ed, Int.emod_self]), b13 _ _ hsp hs, h1, .inl rfl, fun H4 s4 => ?_⟩
      refine ⟨p, _, some rs.length, none, rfl, hL3.mono s4, ?_, fun H5 b5 hL5 => q H5 ((b13.trans (Same.but s4)).trans b5) hL5⟩
      show (rs ++ [Rl.jn i i]).length ≤ 150000
      rw [List.length_append, List.length_singleton]
      omega
end
end Sb
set_option Elab.async false
set_option linter.all false
set_option maxRecDepth 100000
set_option maxHeartbeats 4000000
/-! A text cut as a whole, or not at all. -/
namespace Sb
open PySem PySem.Spec PyProof.Rows L2
section
variable {P : Program} {w : World} {K : PySem.W.Frag} {mg : Str → Option Value} {base : Heap}
def wholeR (rs : List Rl) (r : Rl) (n : Nat) : List Rl × Option Nat := match r with
  | .sg _ => (rs, some n)
  | r => (rs ++ [r.whole], some rs.length)
/-- (tuple(rules), name), rules being a tuple -/
theorem pair_kept {H : Hp} {a b : Addr} {us : List V} {rs : List Rl} {o : Option Nat} (ha : H a = some (.tup us)) (hu : Rows H us rs) (nb : H b = none) : Same H (upd H b (.tup [.ref a, nmV o])) ∧ PairR (upd H b (.tup [.ref a, nmV o])) (.ref b) rs o := by
  have s2 := same_new (o := HO.tup [.ref a, nmV o]) nb
  exact ⟨s2, b, .ref a, rfl, upd_same, a, us, rfl, s2 _ _ ha, Rows.mono s2 hu⟩
def sp_cut : Sp := fun vs H Q _ => ∃ (v : V) (rs : List Rl) (ts : List Tr) (n st en : Nat) (r : Rl) (t : Tr), vs = [v, .int (n : Int), .int (st : Int), .int (en : Int)] ∧ RsU H v rs ts ∧ rs[n]? = some r ∧ ts[n]? = some t ∧ t.len ≤ 2 ^ 60 ∧
  ((st = en ∧ st ≤ t.len ∧ ∀ v' H', Same H H' → PairR H' v' rs none → Q v' H') ∨ (st = 0 ∧ en = t.len ∧ ∀ v' H', Same H H' → PairR H' v' (wholeR rs r n).1 (wholeR rs r n).2 → Q v' H'))
theorem ok_cut (T : Hd K mg) : Own P w K mg base "cut" ["rules", "name", "start", "end"] 5 sp_cut := by
  refine own_mk T.d_cut sc_cut (fun vs H Q E h => ?_) (fun _ _ _ _ _ _ us hl => match us, hl with | [_, _, _, _], _ => rfl) (fun fa cdv A outer s H vs Q E hr h => ⟨_, (pss_cons (ps_set (i := 4) sc_cut.nd rfl (Or.inl rfl) (pe_own (ok_length T) (hr.mono (by decide)) (by rfl) (pa_cons (pv 0) (pa_cons (pv 1) pa_nil))))
      (pss_cons (ps_if (pt_not (pt_chain3 op_le op_le op_le pe_int (pv 2) (pv 3) (pv 4))) (pss_one ps_never) pss_nil)
      (pss_cons (ps_if (pt_cmpR op_eq (pv 2) (pv 3) (nomark _)) (pss_one (ps_ret (pe_tup (pa_cons (pe_callTy call_tuple_of (by rfl) T.z_tuple (by decide +kernel) (pa_cons (pv 0) pa_nil)) (pa_cons pe_non pa_nil))))) pss_nil)
      (pss_cons (ps_set (i := 5) sc_cut.nd rfl (Or.inl rfl) (pe_own (ok_lengths T) (hr.mono (by decide)) (by rfl) (pa_cons (pv 0) pa_nil)))
      (pss_cons (ps_while PassesOwn.never (pt_cmpR op_ne (pe_ix ix_tup (pe_ix ix_tup (pv 0) (pv 1) (fun _ _ => rfl)) pe_int (fun _ _ => rfl)) pe_str (nomark _)) (pss_cons (ps_set (i := 6) sc_cut.nd rfl (Or.inl rfl) (pe_ix ix_tup (pv 0) (pv 1) (fun _ _ => rfl)))
      (pss_cons (ps_set (i := 4) sc_cut.nd rfl (Or.inl rfl) (pe_ix ix_list (pv 5) (pe_ix ix_tup (pv 6) pe_int (fun _ _ => rfl)) (fun _ _ => rfl)))
      (pss_cons (ps_if (pt_cmpR op_eq (pe_ix ix_tup (pv 6) pe_int (fun _ _ => rfl)) pe_str (nomark _)) (pss_cons (ps_set (i := 3) sc_cut.nd rfl (Or.inl rfl) (pe_op op_sub (pv 3) (pe_op op_mul (pe_op op_fdivW (pv 2) (pv 4)) (pv 4))))
      (pss_one (ps_set (i := 2) sc_cut.nd rfl (Or.inl rfl) (pe_op op_mod (pv 2) (pv 4))))) pss_nil)
      (pss_one (ps_if (pt_cmpR op_ge (pv 2) (pv 4) (nomark _)) (pss_cons (ps_set (i := 2) sc_cut.nd rfl (Or.inl rfl) (pe_op op_sub (pv 2) (pv 4)))
      (pss_cons (ps_set (i := 3) sc_cut.nd rfl (Or.inl rfl) (pe_op op_sub (pv 3) (pv 4)))
      (pss_one (ps_set (i := 1) sc_cut.nd rfl (Or.inl rfl) (pe_ix ix_tup (pv 6) pe_int (fun _ _ => rfl)))))) (pss_one (ps_if (pt_cmpR op_le (pv 3) (pv 4) (nomark _)) (pss_one (ps_set (i := 1) sc_cut.nd rfl (Or.inl rfl) (pe_ix ix_tup (pv 6) pe_int (fun _ _ => rfl)))) (pss_cons (ps_set (i := 7) sc_cut.nd rfl (Or.inl rfl) (pe_callTy call_list_of (by rfl) T.z_list (by decide +kernel) (pa_cons (pv 0) pa_nil)))
      (pss_cons (ps_set (i := 8) sc_cut.nd rfl (Or.inl rfl) (pe_own (ok_across T) (hr.mono (by decide)) (by rfl) (pa_cons (pv 7) (pa_cons (pv 5) (pa_cons (pv 6) (pa_cons (pv 2) (pa_cons (pv 3) pa_nil)))))))
      (pss_one (ps_ret (pe_tup (pa_cons (pe_callTy call_tuple_of (by rfl) T.z_tuple (by decide +kernel) (pa_cons (pv 7) pa_nil)) (pa_cons (pv 8) pa_nil)))))))))))))))
      (pss_one (ps_ret (pe_tup (pa_cons (pe_callTy call_tuple_of (by rfl) T.z_tuple (by decide +kernel) (pa_cons (pv 0) pa_nil)) (pa_cons (pv 1) pa_nil)))))))))), ?_⟩)
  · obtain ⟨v, rs, ts, n, st, en, r, t, rfl, _⟩ := h
    rfl
  · obtain ⟨v, rs, ts, n, st, en, r, t, rfl, hR, hr1, ht, h60, hc⟩ := h
    have e60 : (2 : Nat) ^ 60 = 1152921504606846976 := by decide
    have pos := t.len_pos
    have hse : st ≤ en ∧ en ≤ t.len := by
      rcases hc with ⟨h1, h2, _⟩ | ⟨h1, h2, _⟩ <;> omega
    refine ⟨v, rfl, .int (n : Int), rfl, v, rs, ts, some n, t.len, rfl, hR, ⟨t, ht, rfl⟩, fun H1 s1 => ?_⟩
    refine ⟨.int (st : Int), rfl, 0, (st : Int), rfl, rfl, _, rfl, ?_⟩
    rw [intd (show (0 : Int) ≤ (st : Int) by omega)]
    refine iteT ⟨.int (en : Int), rfl, (st : Int), (en : Int), rfl, rfl, _, rfl, ?_⟩
    rw [intd (show (st : Int) ≤ (en : Int) by omega)]
    refine iteT ⟨.int (t.len : Int), rfl, (en : Int), (t.len : Int), rfl, rfl, _, rfl, ?_⟩
    rw [intd (show (en : Int) ≤ (t.len : Int) by omega)]
    refine iteF ⟨.int (st : Int), rfl, .int (en : Int), rfl, rfl, _, rfl, ?_⟩
    obtain ⟨a, us, rfl, ha, hr⟩ := hR.1.mono s1
    by_cases hs : st = en
    · rw [intd (show V.int (st : Int) = V.int (en : Int) by rw [hs])]
      refine iteT ⟨.ref a, rfl, a, us, rfl, .inr ⟨sqT ha, ?_⟩⟩
      rcases hc with ⟨_, _, q⟩ | ⟨h1, h2, _⟩
      · refine ⟨by show 2 ≤ sizeLine; decide, fun b nb => ?_⟩
        obtain ⟨s2, hp⟩ := pair_kept (o := none) ha hr nb
        exact q _ _ (s1.trans s2) hp
      · omega
    · rcases hc with ⟨h1, _, _⟩ | ⟨h1, h2, q⟩
      · exact absurd h1 hs
      subst h1
      subst h2
      rw [intn (show ¬ V.int ((0 : Nat) : Int) = V.int (t.len : Int) from fun e => hs (by have := V.int.inj e; omega))]
      refine iteF ⟨.ref a, rfl, .ref a, rs, ts, rfl, hR.mono s1, fun l H2 s2 nl hl => ?_⟩
      have s12 := s1.trans s2
      have ha2 := s2 _ _ ha
      have hr2 := Rows.mono s2 hr
      have hll : us.length = rs.length := Paired.length hr
      obtain ⟨x, hx, ⟨b, rfl, hb⟩⟩ := P_get hr2 hr1
      refine ⟨fun m σ H' => σ = [some (.ref a), some (.int (n : Int)), some (.int ((0 : Nat) : Int)), some (.int (t.len : Int)), some (.int (t.len : Int)), some (.ref l), none, none, none] ∧ H' = H2, ⟨0, rfl, rfl⟩, ?_⟩
      rintro m σ H' ⟨rfl, rfl⟩
      have hrule : Val (tOp (rIxT K) (tVar 0) (tVar 1)) [some (.ref a), some (.int (n : Int)), some (.int ((0 : Nat) : Int)), some (.int (t.len : Int)), some (.int (t.len : Int)), some (.ref l), none, none, none] H' (.ref b) := v_ixT (vx 0) (vx 1) (sqT ha2) (atI_nat hx)
      obtain ⟨t', ht', hf⟩ := hR.2.1.fit hr1
      rw [ht] at ht'
      cases ht'
      have notsg : (∀ c, r ≠ .sg c) → wholeR rs r n = (rs ++ [r.whole], some rs.length) := fun h => by
        cases r with
        | sg c => exact absurd rfl (h c)
        | jn i j => rfl
        | tm i m => rfl
      -- the end, behind the looks at the rule
      have fin : ∀ (y : V), (∀ c, r ≠ .sg c) → (tSeq (tAsg (tCB (fun xs H Q => ∃ p ys, xs = [V.ref p] ∧ (SqL K H p ys ∨ SqT K H p ys) ∧ ∀ l, H l = none → Q (.ref l) (upd H l (.lst ys))) (tCons (tVar 0) tNil)) (gName 7))
          (tSeq (tAsg (tCall sp_across [] E0 (tCons (tVar 7) (tCons (tVar 5) (tCons (tVar 6) (tCons (tVar 2) (tCons (tVar 3) tNil)))))) (gName 8))
          (tRet (tTup (tCons (tCB (fun xs H Q => ∃ p ys, xs = [V.ref p] ∧ ((SqL K H p ys ∧ ∀ l, H l = none → Q (.ref l) (upd H l (.tup ys))) ∨ (SqT K H p ys ∧ Q (.ref p) H))) (tCons (tVar 7) tNil)) (tCons (tVar 8) tNil))))))
          { nx := fun _ _ => False, rt := Q, bk := fun _ _ => False, ct := fun _ _ => False } [some (.ref a), some (.int (n : Int)), some (.int 0), some (.int (t.len : Int)), some y, some (.ref l), some (.ref b), none, none] H' := by
        intro y hsg
        refine ⟨.ref a, rfl, a, us, rfl, .inr (sqT ha2), fun c nc => ?_⟩
        have s3 := same_new (o := HO.lst us) nc
        refine ⟨.ref c, rfl, .ref l, rfl, .ref b, rfl, .int 0, rfl, .int (t.len : Int), rfl, c, l, .ref b, rs, ts, r, t, rfl, ⟨us, upd_same, Rows.mono s3 hr2⟩, by have := hR.2.2; omega, s3 _ _ hl, ⟨b, rfl, s3 _ _ hb⟩, hf, hsg, h60, fun H4 b4 hL4 => ?_⟩
        have s4 : Same H' H4 := But.same s3 nc b4
        obtain ⟨us4, h4, hr4⟩ := hL4
        refine ⟨.ref c, rfl, c, us4, rfl, .inl ⟨sqL h4, fun d nd => ?_⟩⟩
        refine ⟨.int (rs.length : Int), rfl, by show 2 ≤ sizeLine; decide, fun e ne => ?_⟩
        obtain ⟨s5, hp⟩ := pair_laid (p := c) (o := some rs.length) hr4 nd ne
        refine q _ _ ((s12.trans s4).trans s5) ?_
        rw [notsg hsg]
        exact hp
      cases r with
      | sg c =>
        refine a_ne (b := false) (v_ixT hrule vc (sqT hb) (atI_nat (j := 0) rfl)) vc rfl (by decide) _ ?_
        refine iteF ⟨.ref a, rfl, a, us, rfl, .inr ⟨sqT ha2, ⟨.int (n : Int), rfl, by show 2 ≤ sizeLine; decide, fun d nd => ?_⟩⟩⟩
        obtain ⟨s5, hp⟩ := pair_kept (o := some n) ha2 hr2 nd
        exact q _ _ (s12.trans s5) hp
      | jn i j =>
        obtain ⟨t1, t2, h1, h2, rfl⟩ := hf
        have el := Tr.len_jn t1 t2
        have p1 := t1.len_pos
        have p2 := t2.len_pos
        refine a_ne (b := true) (v_ixT hrule vc (sqT hb) (atI_nat (j := 0) rfl)) vc rfl (by decide) _ ?_
        refine iteT ⟨fun _ _ => False, fun _ _ z => z.elim, ?_⟩
        refine hrule _ ?_
        refine v_ixL (vx 5) (v_ixT (vx 6) vc (sqT hb) (atI_nat (j := 1) rfl)) (sqL hl) (at_nV (lens_get h1)) _ ?_
        refine s_no (a_eq (v_ixT (vx 6) vc (sqT hb) (atI_nat (j := 0) rfl)) vc rfl (by decide)) ?_
        refine ⟨.int 0, rfl, .int (t1.len : Int), rfl, 0, (t1.len : Int), rfl, rfl, _, rfl, ?_⟩
        rw [intn (show ¬ (t1.len : Int) ≤ 0 by omega)]
        refine iteF ⟨.int ((Tr.jn t1 t2).len : Int), rfl, .int (t1.len : Int), rfl, ((Tr.jn t1 t2).len : Int), (t1.len : Int), rfl, rfl, _, rfl, ?_⟩
        rw [intn (show ¬ ((Tr.jn t1 t2).len : Int) ≤ (t1.len : Int) by omega)]
        exact iteF (fin _ (fun c z => by cases z))
      | tm i m =>
        obtain ⟨t1, rfl, h1, rfl⟩ := hf
        have el := Tr.len_db t1
        have p1 := t1.len_pos
        refine a_ne (b := true) (v_ixT hrule vc (sqT hb) (atI_nat (j := 0) rfl)) vc rfl (by decide) _ ?_
        refine iteT ⟨fun _ _ => False, fun _ _ z => z.elim, ?_⟩
        refine hrule _ ?_
        refine v_ixL (vx 5) (v_ixT (vx 6) vc (sqT hb) (atI_nat (j := 1) rfl)) (sqL hl) (at_nV (lens_get h1)) _ ?_
        refine s_yes (a_eq (v_ixT (vx 6) vc (sqT hb) (atI_nat (j := 0) rfl)) vc rfl (by decide)) ?_
        refine ⟨.int ((Tr.db t1).len : Int), rfl, .int 0, rfl, .int (t1.len : Int), rfl, 0, (t1.len : Int), rfl, rfl, wide_div (b := 64) (by omega) (by omega) (by decide) (by decide), .int (t1.len : Int), rfl, (0 : Int) / (t1.len : Int), (t1.len : Int), rfl, rfl, .inr ⟨by omega, by omega⟩, ((Tr.db t1).len : Int), (0 : Int) / (t1.len : Int) * (t1.len : Int), rfl, rfl, ?_⟩
        refine ⟨.int 0, rfl, .int (t1.len : Int), rfl, 0, (t1.len : Int), rfl, rfl, (by omega), ?_⟩
        have e1 : ((Tr.db t1).len : Int) - (0 : Int) / (t1.len : Int) * (t1.len : Int) = ((Tr.db t1).len : Int) := by
          rw [Int.zero_ediv, Int.zero_mul, Int.sub_zero]
        have e2 : (0 : Int) % (t1.len : Int) = 0 := Int.zero_emod _
        refine ⟨.int ((0 : Int) % (t1.len : Int)), rfl, .int (t1.len : Int), rfl, (0 : Int) % (t1.len : Int), (t1.len : Int), rfl, rfl, _, rfl, ?_⟩
        rw [intn (show ¬ (t1.len : Int) ≤ (0 : Int) % (t1.len : Int) by rw [e2]; omega)]
        refine iteF ⟨.int (((Tr.db t1).len : Int) - (0 : Int) / (t1.len : Int) * (t1.len : Int)), rfl, .int (t1.len : Int), rfl, ((Tr.db t1).len : Int) - (0 : Int) / (t1.len : Int) * (t1.len : Int), (t1.len : Int), rfl, rfl, _, rfl, ?_⟩
        rw [intn (show ¬ ((Tr.db t1).len : Int) - (0 : Int) / (t1.len : Int) * (t1.len : Int) ≤ (t1.len : Int) by rw [e1]; omega)]
        refine iteF ?_
        have f := fin (.int (t1.len : Int)) (fun c z => by cases z)
        show (tSeq _ _) _ [some (.ref a), some (.int (n : Int)), some (.int ((0 : Int) % (t1.len : Int))), some (.int (((Tr.db t1).len : Int) - (0 : Int) / (t1.len : Int) * (t1.len : Int))), some (.int (t1.len : Int)), some (.ref l), some (.ref b), none, none] H'
        rw [e1, e2]
        exact f
end
end Sb
set_option Elab.async false
set_option linter.all false
set_option maxRecDepth 100000
set_option maxHeartbeats 4000000
/-! The rules that a name needs. -/
namespace Sb
open PySem PySem.Spec PyProof.Rows L2
theorem sortedNat {ks : List Nat} {ns : List Int} (perm : ns.Perm (ks.map fun n : Nat => (n : Int))) (pw : ns.Pairwise (· ≤ ·)) (nd : ks.Nodup) :
    ∃ ms : List Nat, ns = ms.map (fun n : Nat => (n : Int)) ∧ ms.Perm ks ∧ ms.Pairwise (· < ·) := by
  have h1 : (ns.map Int.toNat).map (fun n : Nat => (n : Int)) = ns := by
    rw [List.map_map]
    have : ∀ z ∈ ns, ((fun n : Nat => (n : Int)) ∘ Int.toNat) z = z := fun z hz => by
      obtain ⟨n, _, e⟩ := List.mem_map.mp (perm.mem_iff.mp hz)
      subst e
      rfl
    exact (List.map_congr_left this).trans (List.map_id _)
  have h2 : (ns.map Int.toNat).Perm ks := by
    have := perm.map Int.toNat
    rw [List.map_map] at this
    have e : (ks.map (Int.toNat ∘ fun n : Nat => (n : Int))) = ks := by
      have : (Int.toNat ∘ fun n : Nat => (n : Int)) = id := rfl
      rw [this, List.map_id]
    rw [e] at this
    exact this
  refine ⟨ns.map Int.toNat, h1.symm, h2, ?_⟩
  have nd2 : (ns.map Int.toNat).Nodup := h2.nodup_iff.mpr nd
  have pw2 : (ns.map Int.toNat).Pairwise (· ≤ ·) := List.pairwise_map.mpr (pw.imp fun {a b} h => by omega)
  exact (List.pairwise_and_iff.mpr ⟨pw2, nd2⟩).imp fun {a b} h => by omega
/-! ### a dict of whole numbers, each with True -/
def sK (ks : List Nat) : List (Key × V) := ks.map fun n : Nat => ((Sum.inl (n : Int) : Key), V.bl true)
theorem key_nat {a b : Nat} : ((Sum.inl (a : Int) : Key) = Sum.inl (b : Int)) ↔ a = b := ⟨fun e => by have := Sum.inl.inj e; omega, fun e => by rw [e]⟩
theorem sK_in : ∀ {ks : List Nat} {n : Nat}, n ∈ ks → valV (sK ks) (.inl (n : Int)) = some (.bl true)
  | k :: ks, n, h => by
    by_cases e : k = n
    · exact valV_pos (p := ((Sum.inl (k : Int) : Key), V.bl true)) (key_nat.mpr e)
    · have h2 : n ∈ ks := (List.mem_cons.mp h).resolve_left fun z => e z.symm
      exact (valV_neg (p := ((Sum.inl (k : Int) : Key), V.bl true)) (r := sK ks) (fun z => e (key_nat.mp z))).trans (sK_in h2)
theorem sK_no : ∀ {ks : List Nat} {n : Nat}, n ∉ ks → valV (sK ks) (.inl (n : Int)) = none
  | [], _, _ => rfl
  | k :: ks, n, h => by
    have e : ¬ k = n := fun z => h (by rw [z]; exact List.mem_cons_self ..)
    exact (valV_neg (p := ((Sum.inl (k : Int) : Key), V.bl true)) (r := sK ks) (fun z => e (key_nat.mp z))).trans (sK_no fun m => h (List.mem_cons_of_mem _ m))
def ins (ks : List Nat) (n : Nat) : List Nat := if n ∈ ks then ks else ks ++ [n]
theorem sK_put (ks : List Nat) (n : Nat) : putK (sK ks) (.inl (n : Int)) (.bl true) = sK (ins ks n) := by
  unfold ins
  by_cases h : n ∈ ks
  · rw [if_pos h]
    unfold putK
    rw [valV_any, sK_in h]
    show (sK ks).map _ = sK ks
    unfold sK
    rw [List.map_map]
    refine List.map_congr_left fun a _ => ?_
    show (if (Sum.inl (a : Int) : Key) = Sum.inl (n : Int) then ((Sum.inl (a : Int) : Key), V.bl true) else _) = _
    split <;> rfl
  · rw [if_neg h, putK_new _ (sK_no h)]
    unfold sK
    rw [List.map_append]
    rfl
theorem ins_sub {ks : List Nat} {n a : Nat} (h : a ∈ ks) : a ∈ ins ks n := by
  unfold ins
  split
  · exact h
  · exact List.mem_append.mpr (.inl h)
theorem ins_self (ks : List Nat) (n : Nat) : n ∈ ins ks n := by
  unfold ins
  split
  · assumption
  · exact List.mem_append.mpr (.inr (List.mem_singleton.mpr rfl))
theorem ins_or {ks : List Nat} {n a : Nat} (h : a ∈ ins ks n) : a ∈ ks ∨ a = n := by
  unfold ins at h
  split at h
  · exact .inl h
  · rcases List.mem_append.mp h with h | h
    · exact .inl h
    · exact .inr (List.mem_singleton.mp h)
theorem ins_nodup {ks : List Nat} {n : Nat} (h : ks.Nodup) : (ins ks n).Nodup := by
  unfold ins
  split
  · exact h
  · exact nd_snoc h (by assumption)
theorem sK_keys (ks : List Nat) : (sK ks).map (·.1) = (ks.map fun n : Nat => (n : Int)).map Sum.inl := by
  unfold sK
  rw [List.map_map, List.map_map]
  rfl
theorem nodup_le : ∀ {n : Nat} {l : List Nat}, l.Nodup → (∀ a ∈ l, a < n) → l.length ≤ n := fun {n l} nd h => by
  have := nodup_len (l := l) (m := List.range n) nd fun a ha => List.mem_range.mpr (h a ha)
  rw [List.length_range] at this
  exact this
section
variable {P : Program} {w : World} {K : PySem.W.Frag} {mg : Str → Option Value} {base : Heap}
/-- the numbers that a name needs: rising, the name the last, with each its parts -/
structure Need (rs : List Rl) (n : Nat) (ns : List Nat) : Prop where
  up : ns.Pairwise (· < ·)
  top : n ∈ ns
  le : ∀ m ∈ ns, m ≤ n
  parts : ∀ m ∈ ns, ∀ r, rs[m]? = some r → ∀ p ∈ r.parts, p ∈ ns
def sp_needed : Sp := fun vs H Q _ => ∃ (v : V) (rs : List Rl) (ts : List Tr) (n : Nat), vs = [v, .int (n : Int)] ∧ RsU H v rs ts ∧ n < rs.length ∧
  ∀ p H' ns, Same H H' → H p = none → H' p = some (.lst (nV ns)) → Need rs n ns → Q (.ref p) H'
theorem ok_needed (T : Hd K mg) : Own P w K mg base "needed" ["rules", "name"] 2 sp_needed := by
  refine own_mk T.d_needed sc_needed (fun vs H Q E h => ?_) (fun _ _ _ _ _ _ us hl => match us, hl with | [_, _], _ => rfl) (fun fa cdv A outer s H vs Q E hr h => ⟨_, (pss_cons (ps_if (pt_cmpR op_isN (pv 1) pe_non (nomark _)) (pss_one (ps_ret (pe_lst pa_nil))) pss_nil)
      (pss_cons (ps_set (i := 2) sc_needed.nd rfl (Or.inl rfl) (pe_disp (pps_cons (pv 1) pe_bl pps_nil) (by rfl) (by rfl) (fun z => by cases z) (by decide)))
      (pss_cons (ps_for PassesOwn.never rfl (pi_range3 (by rfl) T.z_range (pa_cons (pv 1) (pa_cons (pe_un un_neg pe_int) (pa_cons (pe_un un_neg pe_int) pa_nil)))) (pg_name (i := 3) sc_needed.nd rfl (Or.inl rfl)) (pss_one (ps_if (pt_cmp (pc_din (hu_of hr) (pv 3) (pv 2))) (pss_one (ps_for PassesOwn.never rfl (pi_list (pe_own (ok_parts_of T) (hr.mono (by decide)) (by rfl) (pa_cons (pe_ix ix_tup (pv 0) (pv 3) (fun _ _ => rfl)) pa_nil))) (pg_name (i := 4) sc_needed.nd rfl (Or.inl rfl)) (pss_one (ps_dput (hu_of hr) (pv 2) (pv 4) pe_bl rfl)))) pss_nil)))
      (pss_one (ps_ret (pe_callB (cr_sortKI rfl) (by rfl) T.z_sorted (by decide +kernel) (pa_cons (pe_bm0 PySem.F.plainAttrs_dict PySem.F.slot_dict_keys PySem.F.type_dict_keys mt_keys (pv 2)) pa_nil))))))), ?_⟩)
  · obtain ⟨v, rs, ts, n, rfl, _⟩ := h
    rfl
  · obtain ⟨v, rs, ts, n, rfl, ⟨⟨a, us, rfl, ha, hr0⟩, hT, hz⟩, hn, q⟩ := h
    have hul : us.length = rs.length := Paired.length hr0
    refine ⟨.int (n : Int), rfl, rfl, _, rfl, iteF ?_⟩
    refine fun p np => ⟨.int (n : Int), rfl, upd_same, [(.inl (n : Int), .bl true)], rfl, (by show 1 ≤ 15; decide), ?_⟩
    rw [upd_upd]
    have e0 : mergeK [] [((Sum.inl (n : Int) : Key), V.bl true)] = sK [n] := rfl
    rw [e0]
    have s0 := same_new (o := HO.dK (sK [n])) np
    refine ⟨.int (n : Int), rfl, 1, rfl, 1, rfl, (n : Int), -1, -1, ((n : Int) - (-1)).toNat, rfl, RgC.neg (by omega) (by omega) (by omega) (by omega), ?_⟩
    rw [show ((n : Int) - (-1)).toNat = n + 1 by omega]
    refine for_rangeC (lo := (n : Int)) (c := -1) (n := n + 1) (fun i σ H' => ∃ ks y3 y4, σ = [some (.ref a), some (.int (n : Int)), some (.ref p), y3, y4] ∧ Same H H' ∧ H' p = some (.dK (sK ks)) ∧ ks.Nodup ∧ n ∈ ks ∧ (∀ k ∈ ks, k ≤ n) ∧ (∀ k ∈ ks, n < k + i → ∀ r, rs[k]? = some r → ∀ x ∈ r.parts, x ∈ ks))
      ⟨[n], none, none, rfl, s0, upd_same, by simp, List.mem_singleton.mpr rfl, fun k hk => by rw [List.mem_singleton.mp hk]; exact Nat.le_refl _, fun k hk hlt => by rw [List.mem_singleton.mp hk] at hlt; omega⟩ ?_ ?_
    · rintro i σ H1 hi ⟨ks, y3, y4, rfl, s1, hp, nd, hnk, hle, hcl⟩
      have ei : (n : Int) + ((i : Nat) : Int) * (-1) = ((n - i : Nat) : Int) := by omega
      rw [ei]
      generalize hm : n - i = m at *
      have hmn : m ≤ n := by omega
      by_cases hin : m ∈ ks
      · refine ⟨.int (m : Int), rfl, .ref p, rfl, p, some (.bl true), rfl, by rw [← sK_in hin]; exact DGet.k (k := Sum.inl (m : Int)) hp, true, rfl, iteT ?_⟩
        obtain ⟨r, hrm⟩ := get_at (l := rs) (i := m) (by omega)
        obtain ⟨x, hx, hrx⟩ := P_get hr0 hrm
        refine v_ixT (vx 0) (vx 3) (sqT (s1 _ _ ha)) (atI_nat hx) _ ?_
        refine ⟨x, r, rfl, hrx.mono s1, fun l nl => ?_⟩
        have sl := same_new (o := HO.lst (nV r.parts)) nl
        have hpl : p ≠ l := ne_of_none hp nl
        refine ⟨l, rfl, ⟨nV r.parts, sqL upd_same⟩, for_list (K := K) (a := l) (xs := nV r.parts) (fun j σ H2 => ∃ ks2 y4, σ = [some (.ref a), some (.int (n : Int)), some (.ref p), some (.int (m : Int)), y4] ∧ Same H H2 ∧ H2 p = some (.dK (sK ks2)) ∧ H2 l = some (.lst (nV r.parts)) ∧ ks2.Nodup ∧ (∀ b ∈ ks, b ∈ ks2) ∧ (∀ b ∈ ks2, b ∈ ks ∨ b ∈ r.parts) ∧ (∀ b ∈ r.parts.take j, b ∈ ks2))
          ⟨ks, y4, rfl, s1.trans sl, sl _ _ hp, upd_same, nd, fun _ h => h, fun _ h => .inl h, fun b hb => by rw [List.take_zero] at hb; cases hb⟩ (fun j σ H2 _ ⟨_, _, _, _, _, hl2, _⟩ => sqL hl2) ?_ ?_⟩
        · rintro j x2 σ H2 hj ⟨ks2, y4, rfl, s2, hp2, hl2, nd2, hs2, ho2, ht2⟩
          obtain ⟨b, hb⟩ := get_at (l := r.parts) (i := j) (by rw [← nV_len]; exact get_lt hj)
          rw [nV_get hb] at hj
          cases hj
          have hbn : ∀ c ∈ ks2, c < n + 1 := fun c hc => by
            rcases ho2 c hc with h | h
            · exact Nat.lt_succ_of_le (hle c h)
            · have := hT.part hrm h
              omega
          refine ⟨.ref p, rfl, .int (b : Int), rfl, p, _, rfl, DPut.k (k := Sum.inl (b : Int)) hp2 (szt ?_), ?_⟩
          · unfold sK
            rw [List.length_map]
            have := nodup_le nd2 hbn
            omega
          · rw [sK_put]
            refine ⟨ins ks2 b, _, rfl, Same.mut s2 np, upd_same, by rw [upd_ne hpl.symm]; exact hl2, ins_nodup nd2, fun c hc => ins_sub (hs2 c hc), fun c hc => ?_, fun c hc => ?_⟩
            · rcases ins_or hc with h | h
              · exact ho2 c h
              · rw [h]
                exact .inr (List.mem_of_getElem? hb)
            · rw [take_snoc hb] at hc
              rcases List.mem_append.mp hc with h | h
              · exact ins_sub (ht2 c h)
              · rw [List.mem_singleton.mp h]
                exact ins_self _ _
        · rintro σ H2 ⟨ks2, y4, rfl, s2, hp2, hl2, nd2, hs2, ho2, ht2⟩
          rw [nV_len, List.take_length] at ht2
          refine ⟨ks2, _, y4, rfl, s2, hp2, nd2, hs2 n hnk, fun c hc => ?_, fun c hc hlt r' hr' x' hx' => ?_⟩
          · rcases ho2 c hc with h | h
            · exact hle c h
            · have := hT.part hrm h
              omega
          · by_cases ecm : c = m
            · subst ecm
              rw [hrm] at hr'
              cases hr'
              exact ht2 x' hx'
            · rcases ho2 c hc with h | h
              · exact hs2 _ (hcl c h (by omega) r' hr' x' hx')
              · have := hT.part hrm h
                omega
      · refine ⟨.int (m : Int), rfl, .ref p, rfl, p, none, rfl, by rw [← sK_no hin]; exact DGet.k (k := Sum.inl (m : Int)) hp, false, rfl, iteF ?_⟩
        refine ⟨ks, _, y4, rfl, s1, hp, nd, hnk, hle, fun c hc hlt => hcl c hc ?_⟩
        have : c ≠ m := fun z => hin (by rw [← z]; exact hc)
        omega
    · rintro σ H1 ⟨ks, y3, y4, rfl, s1, hp, nd, hnk, hle, hcl⟩
      refine ⟨.ref p, rfl, .inr (.inr (.inl ⟨rfl, .inl ⟨_, hp⟩⟩)), p, sK ks, rfl, rfl, hp, fun u nu => ?_⟩
      have su := same_new (o := keysO u p) nu
      refine ⟨u, p, sK ks, ks.map (fun n : Nat => (n : Int)), rfl, upd_same, su _ _ hp, sK_keys ks, fun ns' c hperm hpw nc => ?_⟩
      obtain ⟨ms, rfl, mperm, mup⟩ := sortedNat hperm hpw nd
      have sc := same_new (o := HO.lst ((ms.map fun n : Nat => (n : Int)).map V.int)) nc
      refine q c _ ms ((s1.trans su).trans sc) ((s1.trans su).free nc) ?_ ⟨mup, mperm.mem_iff.mpr hnk, fun m hm => hle m (mperm.mem_iff.mp hm), fun m hm r hr' x hx => mperm.mem_iff.mpr (hcl m (mperm.mem_iff.mp hm) (by omega) r hr' x hx)⟩
      rw [upd_same, List.map_map]
      rfl
end
end Sb
set_option Elab.async false
set_option linter.all false
set_option maxRecDepth 100000
set_option maxHeartbeats 4000000
/-! Rules made tidy. -/
namespace Sb
open PySem PySem.Spec PyProof.Rows L2
theorem ch_inj {c d : Nat} (h : ch c = ch d) : c = d := by
  have e : #[c] = #[d] := congrArg Str.cps h
  exact (List.cons.inj (congrArg Array.toList e)).1
theorem rlK_inj {r s : Rl} (h : rlK r = rlK s) : r = s := by
  cases r with
  | sg c => cases s with
    | sg d =>
      have e := (List.cons.inj (List.cons.inj h).2).1
      rw [ch_inj (Sum.inr.inj e)]
    | jn i j => exact absurd (congrArg List.length h) (by show ¬ 2 = 3; decide)
    | tm i m => exact absurd (congrArg List.length h) (by show ¬ 2 = 3; decide)
  | jn i j => cases s with
    | sg d => exact absurd (congrArg List.length h) (by show ¬ 3 = 2; decide)
    | jn i' j' =>
      obtain ⟨_, h2⟩ := List.cons.inj h
      obtain ⟨e1, h3⟩ := List.cons.inj h2
      obtain ⟨e2, _⟩ := List.cons.inj h3
      rw [key_nat.mp e1, key_nat.mp e2]
    | tm i' m => exact absurd (Sum.inr.inj (List.cons.inj h).1) (by decide +kernel)
  | tm i m => cases s with
    | sg d => exact absurd (congrArg List.length h) (by show ¬ 3 = 2; decide)
    | jn i' j' => exact absurd (Sum.inr.inj (List.cons.inj h).1) (by decide +kernel)
    | tm i' m' =>
      obtain ⟨_, h2⟩ := List.cons.inj h
      obtain ⟨e1, h3⟩ := List.cons.inj h2
      obtain ⟨e2, _⟩ := List.cons.inj h3
      rw [key_nat.mp e1, key_nat.mp e2]
/-- a dict from rules to their numbers -/
structure KeptOk (kk : List (List Key × V)) (rs : List Rl) : Prop where
  of : ∀ (k : Nat) (r : Rl), rs[k]? = some r → valV kk (rlK r) = some (.int (k : Int))
  no : ∀ r v, valV kk (rlK r) = some v → ∃ k : Nat, rs[k]? = some r ∧ v = .int (k : Int)
  len : kk.length ≤ rs.length
theorem KeptOk.nil : KeptOk [] [] := ⟨fun k r h => (by cases h), fun r v h => (by cases h), Nat.le_refl _⟩
theorem KeptOk.put {kk : List (List Key × V)} {rs : List Rl} {r : Rl} (h : KeptOk kk rs) (hn : valV kk (rlK r) = none) : KeptOk (putK kk (rlK r) (.int (rs.length : Int))) (rs ++ [r]) where
  of := fun k s hs => by
    rw [valV_put]
    by_cases hk : k < rs.length
    · rw [List.getElem?_append_left hk] at hs
      have e := h.of k s hs
      rw [if_neg fun z => by rw [← z, e] at hn; cases hn]
      exact e
    · have hk2 : k = rs.length := by
        have := get_lt hs
        rw [List.length_append, List.length_singleton] at this
        omega
      subst hk2
      rw [get_snoc] at hs
      cases hs
      rw [if_pos rfl]
  no := fun s v hv => by
    rw [valV_put] at hv
    by_cases e : rlK s = rlK r
    · rw [if_pos e] at hv
      cases hv
      rw [rlK_inj e]
      exact ⟨rs.length, get_snoc, rfl⟩
    · rw [if_neg e] at hv
      obtain ⟨k, h1, h2⟩ := h.no s v hv
      exact ⟨k, get_app h1, h2⟩
  len := by
    have := length_putK kk (rlK r) (.int (rs.length : Int))
    have := h.len
    rw [List.length_append, List.length_singleton]
    omega
/-- a dict of whole numbers, as a function -/
def numF (nk : List (Key × V)) (p : Nat) : Option Nat := match valV nk (.inl (p : Int)) with
  | some (.int (.ofNat k)) => some k
  | _ => none
theorem numF_of {nk : List (Key × V)} {p k : Nat} (h : valV nk (.inl (p : Int)) = some (.int (k : Int))) : numF nk p = some k := by
  unfold numF
  rw [h]
theorem numF_d (nk : List (Key × V)) : NumD nk (numF nk) := fun n k h => by
  unfold numF at h
  split at h
  · rename_i k' e
    cases h
    exact e
  · cases h
theorem ren_ex {m : Nat → Option Nat} {r : Rl} (h : ∀ p ∈ r.parts, ∃ k, m p = some k) : ∃ s, Ren m r s := by
  cases r with
  | sg c => exact ⟨.sg c, rfl⟩
  | jn i j =>
    obtain ⟨a, ha⟩ := h i (by simp [Rl.parts])
    obtain ⟨b, hb⟩ := h j (by simp [Rl.parts])
    exact ⟨.jn a b, a, b, ha, hb, rfl⟩
  | tm i k =>
    obtain ⟨a, ha⟩ := h i (by simp [Rl.parts])
    exact ⟨.tm a k, a, ha, rfl⟩
theorem rising_take {ns : List Nat} {i m p : Nat} (up : ns.Pairwise (· < ·)) (hi : ns[i]? = some m) (hp : p ∈ ns) (hlt : p < m) : p ∈ ns.take i := by
  obtain ⟨j, hj⟩ := List.mem_iff_getElem?.mp hp
  have hjl := get_lt hj
  have hil := get_lt hi
  have ej : ns[j] = p := (List.getElem?_eq_some_iff.mp hj).2
  have ei : ns[i] = m := (List.getElem?_eq_some_iff.mp hi).2
  have hlt2 : j < i := by
    rcases Nat.lt_trichotomy j i with h | h | h
    · exact h
    · subst h
      omega
    · have := List.pairwise_iff_getElem.mp up i j hil hjl h
      omega
  exact List.mem_iff_getElem?.mpr ⟨j, by rw [List.getElem?_take, if_pos hlt2]; exact hj⟩
theorem Need.len {rs : List Rl} {n : Nat} {ns : List Nat} (h : Need rs n ns) : ns.length ≤ n + 1 :=
  nodup_le (h.up.imp fun {a b} h => Nat.ne_of_lt h) fun a ha => Nat.lt_succ_of_le (h.le a ha)
/-- the new numbers of those that were met: where their trees (as g makes them) stand -/
def NumOk (g : Tr → Tr) (nk : List (Key × V)) (done : List Nat) (ts us : List Tr) : Prop := ∀ m ∈ done, ∃ k t, valV nk (.inl (m : Int)) = some (.int ((k : Nat) : Int)) ∧ ts[m]? = some t ∧ us[k]? = some (g t)
theorem NumOk.put {g : Tr → Tr} {nk : List (Key × V)} {done : List Nat} {ts us : List Tr} {m k : Nat} {t : Tr} (more : List Tr) (h : NumOk g nk done ts us) (ht : ts[m]? = some t) (hk : (us ++ more)[k]? = some (g t)) (hm : m ∉ done) :
    NumOk g (putK nk (.inl (m : Int)) (.int (k : Int))) (done ++ [m]) ts (us ++ more) := fun a ha => by
  rcases List.mem_append.mp ha with h1 | h1
  · obtain ⟨j, u, e1, e2, e3⟩ := h a h1
    refine ⟨j, u, ?_, e2, get_app e3⟩
    rw [valV_put, if_neg fun z => hm (by rw [← key_nat.mp z]; exact h1)]
    exact e1
  · have e := List.mem_singleton.mp h1
    subst e
    exact ⟨k, t, by rw [valV_put, if_pos rfl], ht, hk⟩
theorem rising_not {ns : List Nat} {i m : Nat} (up : ns.Pairwise (· < ·)) (hi : ns[i]? = some m) : m ∉ ns.take i := fun hm => by
  obtain ⟨j, hj⟩ := List.mem_iff_getElem?.mp hm
  rw [List.getElem?_take] at hj
  split at hj
  · rename_i hlt
    have hil := get_lt hi
    have ej := (List.getElem?_eq_some_iff.mp hj).2
    have ei := (List.getElem?_eq_some_iff.mp hi).2
    have := List.pairwise_iff_getElem.mp up j i (by omega) hil hlt
    omega
  · cases hj
section
variable {P : Program} {w : World} {K : PySem.W.Frag} {mg : Str → Option Value} {base : Heap}
def sp_tidy : Sp := fun vs H Q _ => ∃ (v : V) (rs : List Rl) (ts : List Tr) (n : Nat) (t : Tr), vs = [v, .int (n : Int)] ∧ RsU H v rs ts ∧ ts[n]? = some t ∧
  ∀ v' H' rs' ts' k, Same H H' → PairR H' v' rs' (some k) → RT rs' ts' → ts'.Nodup → (∀ x ∈ ts', x ∈ ts) → ts'[k]? = some t → Q v' H'
theorem ok_tidy (T : Hd K mg) : Own P w K mg base "tidy" ["rules", "name"] 3 sp_tidy := by
  refine own_mk T.d_tidy sc_tidy (fun vs H Q E h => ?_) (fun _ _ _ _ _ _ us hl => match us, hl with | [_, _], _ => rfl) (fun fa cdv A outer s H vs Q E hr h => ⟨_, (pss_cons (ps_expr (pe_own (ok_named T) (hr.mono (by decide)) (by rfl) (pa_cons (pv 0) (pa_cons (pv 1) pa_nil))))
      (pss_cons (ps_set (i := 2) sc_tidy.nd rfl (Or.inl rfl) (pe_lst pa_nil))
      (pss_cons (ps_set (i := 3) sc_tidy.nd rfl (Or.inl rfl) pe_dnewT)
      (pss_cons (ps_set (i := 4) sc_tidy.nd rfl (Or.inl rfl) pe_dnewK)
      (pss_cons (ps_for PassesOwn.never rfl (pi_list (pe_own (ok_needed T) (hr.mono (by decide)) (by rfl) (pa_cons (pv 0) (pa_cons (pv 1) pa_nil)))) (pg_name (i := 5) sc_tidy.nd rfl (Or.inl rfl)) (pss_cons (ps_set (i := 6) sc_tidy.nd rfl (Or.inl rfl) (pe_own (ok_renamedD T) (hr.mono (by decide)) (by rfl) (pa_cons (pe_ix ix_tup (pv 0) (pv 5) (fun _ _ => rfl)) (pa_cons (pv 4) pa_nil))))
      (pss_cons (ps_if (pt_cmp (pc_dnotin (hu_of hr) (pv 6) (pv 3))) (pss_one (ps_dput (hu_of hr) (pv 3) (pv 6) (pe_own (ok_put T) (hr.mono (by decide)) (by rfl) (pa_cons (pv 2) (pa_cons (pv 6) pa_nil))) rfl)) pss_nil)
      (pss_one (ps_dput (hu_of hr) (pv 4) (pv 5) (pe_dget (hu_of hr) (pv 3) (pv 6) (fun _ _ => rfl)) rfl)))))
      (pss_one (ps_ret (pe_tup (pa_cons (pe_callTy call_tuple_of (by rfl) T.z_tuple (by decide +kernel) (pa_cons (pv 2) pa_nil)) (pa_cons (pe_dget1 (hu_of hr) (pv 4) (pv 1) ⟨rfl, rfl, rfl, rfl⟩) pa_nil)))))))))), ?_⟩)
  · obtain ⟨v, rs, ts, n, t, rfl, _⟩ := h
    rfl
  · obtain ⟨v, rs, ts, n, t, rfl, hR, ht, q⟩ := h
    have hT := hR.2.1
    have hz := hR.2.2
    have hn : n < rs.length := by rw [hT.len]; exact get_lt ht
    refine ⟨v, rfl, .int (n : Int), rfl, v, rs, some n, rfl, hR.1, hn, ?_⟩
    obtain ⟨a, us, rfl, ha, hr0⟩ := hR.1
    refine ⟨Nat.zero_le _, fun pr npr => ?_⟩
    have s1 := same_new (o := HO.lst []) npr
    refine fun pk npk => ?_
    have s2 := same_new (o := HO.dT []) npk
    refine fun pn npn => ?_
    have s3 := same_new (o := HO.dK []) npn
    have s13 := (s1.trans s2).trans s3
    have npk0 := s1.free npk
    have npn0 := (s1.trans s2).free npn
    refine ⟨.ref a, rfl, .int (n : Int), rfl, .ref a, rs, ts, n, rfl, hR.mono s13, hn, fun l H4 ns s4 nl hl nd => ?_⟩
    have h3r : (upd (upd (upd H pr (.lst [])) pk (.dT [])) pn (.dK [])) pr = some (.lst []) := s3 _ _ (s2 _ _ upd_same)
    have h3k : (upd (upd (upd H pr (.lst [])) pk (.dT [])) pn (.dK [])) pk = some (.dT []) := s3 _ _ upd_same
    have h3n : (upd (upd (upd H pr (.lst [])) pk (.dT [])) pn (.dK [])) pn = some (.dK []) := upd_same
    have hlr : l ≠ pr := (ne_of_none h3r nl).symm
    have hlk : l ≠ pk := (ne_of_none h3k nl).symm
    have hln : l ≠ pn := (ne_of_none h3n nl).symm
    have hrk : pr ≠ pk := ne_of h3r h3k (by intro z; cases z)
    have hrn : pr ≠ pn := ne_of h3r h3n (by intro z; cases z)
    have hkn : pk ≠ pn := ne_of h3k h3n (by intro z; cases z)
    have s14 := s13.trans s4
    refine ⟨l, rfl, ⟨_, sqL hl⟩, for_list (K := K) (a := l) (xs := nV ns) (fun i σ H' => ∃ rs' ts' kk nk y5 y6, σ = [some (.ref a), some (.int (n : Int)), some (.ref pr), some (.ref pk), some (.ref pn), y5, y6] ∧ Same H H' ∧ RsL H' pr rs' ∧ RT rs' ts' ∧ ts'.Nodup ∧ (∀ x ∈ ts', x ∈ ts) ∧
        H' pk = some (.dT kk) ∧ KeptOk kk rs' ∧ H' pn = some (.dK nk) ∧ nk.length ≤ i ∧ NumOk id nk (ns.take i) ts ts' ∧ rs'.length ≤ i ∧ H' l = some (.lst (nV ns)))
      ⟨[], [], [], [], none, none, rfl, s14, ⟨[], s4 _ _ h3r, .nil⟩, .nil, List.nodup_nil, fun x hx => (by cases hx), s4 _ _ h3k, KeptOk.nil, s4 _ _ h3n, Nat.le_refl _, fun m hm => (by rw [List.take_zero] at hm; cases hm), Nat.le_refl _, hl⟩
      (fun i σ H' _ ⟨_, _, _, _, _, _, _, _, _, _, _, _, _, _, _, _, _, _, hl2⟩ => sqL hl2) ?_ ?_⟩
    · rintro i x σ H1 hi ⟨rs', ts', kk, nk, y5, y6, rfl, sH, hL, hT', nd', sub, hk, kok, hnk, hnl, nok, hlen, hl1⟩
      obtain ⟨m, hm⟩ := get_at (l := ns) (i := i) (by rw [← nV_len]; exact get_lt hi)
      rw [nV_get hm] at hi
      cases hi
      have hns := nd.len
      have him : i < ns.length := get_lt hm
      have hmn : m ≤ n := nd.le m (List.mem_of_getElem? hm)
      obtain ⟨r, hrm⟩ := get_at (l := rs) (i := m) (by omega)
      obtain ⟨tm, htm, hft⟩ := hT.fit hrm
      obtain ⟨x, hx, hrx⟩ := P_get hr0 hrm
      have hpart : ∀ p ∈ r.parts, ∃ k tp, valV nk (.inl (p : Int)) = some (.int ((k : Nat) : Int)) ∧ ts[p]? = some tp ∧ ts'[k]? = some tp := fun p hp =>
        nok p (rising_take nd.up hm (nd.parts m (List.mem_of_getElem? hm) r hrm p hp) (hT.part hrm hp))
      obtain ⟨r', hren⟩ := ren_ex (m := numF nk) (r := r) fun p hp => let ⟨k, _, e, _⟩ := hpart p hp; ⟨k, numF_of e⟩
      have hf' : Fits ts' r' tm := hren.fits (us := ts') (fun p hp k hk a ha => by
        obtain ⟨k', tp, e1, e2, e3⟩ := hpart p hp
        rw [numF_of e1] at hk
        cases hk
        rw [ha] at e2
        cases e2
        exact e3) hft
      refine v_ixT (vx 0) (vx 5) (sqT (sH _ _ ha)) (atI_nat hx) _ ?_
      refine ⟨.ref pn, rfl, x, pn, r, r', nk, numF nk, rfl, hrx.mono sH, hnk, numF_d nk, hren, fun v' H2 s2' hv' => ?_⟩
      obtain ⟨b, rfl, hb⟩ := hv'
      have hk2 := s2' _ _ hk
      have hbk : H2 b = some (.tup ((rlK r').map kV)) := hb
      have hL2 := hL.mono s2'
      have sH2 := sH.trans s2'
      have notin := rising_not nd.up hm
      cases hv : valV kk (rlK r') with
      | none =>
        have hnew : tm ∉ ts' := fun hin => by
          obtain ⟨k, hk'⟩ := List.mem_iff_getElem?.mp hin
          obtain ⟨r2, h2, f2⟩ := hT'.at hk'
          have f3 := f2.app (ts'.drop k)
          rw [List.take_append_drop] at f3
          have e := Fits.inj nd' f3 hf'
          subst e
          rw [kok.of k r2 h2] at hv
          cases hv
        refine ⟨.ref b, rfl, .ref pk, rfl, pk, none, rfl, by rw [← hv]; exact DGet.t hk2 hbk, true, rfl, iteT ?_⟩
        refine ⟨.ref pr, rfl, .ref b, rfl, pr, .ref b, r', rs', rfl, hL2, by omega, ⟨b, rfl, hb⟩, fun H3 b3 hL3 => ?_⟩
        have hk3 := b3 _ _ hrk.symm hk2
        have hbr : b ≠ pr := by
          obtain ⟨us2, e2, _⟩ := hL2
          exact ne_of hb e2 (by intro z; cases z)
        have hb3 := b3 _ _ hbr hbk
        have sH3 : Same H H3 := But.same sH2 npr b3
        refine ⟨.ref pk, rfl, .ref b, rfl, pk, _, rfl, DPut.t hk3 hb3 (szt (by have := kok.len; omega)), ?_⟩
        have kok2 := kok.put hv
        have hbk' : b ≠ pk := ne_of hb hk2 (by intro z; cases z)
        have ep : valV (putK kk (rlK r') (.int (rs'.length : Int))) (rlK r') = some (.int (rs'.length : Int)) := by rw [valV_put, if_pos rfl]
        refine ⟨.ref pk, rfl, .ref b, rfl, pk, .int (rs'.length : Int), rfl, by rw [← ep]; exact DGet.t upd_same (by rw [upd_ne hbk']; exact hb3), ?_⟩
        have hn3 : H3 pn = some (.dK nk) := b3 _ _ hrn.symm (s2' _ _ hnk)
        refine ⟨.ref pn, rfl, .int (m : Int), rfl, pn, _, rfl, DPut.k (k := Sum.inl (m : Int)) (by rw [upd_ne hkn.symm]; exact hn3) (szt (by omega)), ?_⟩
        have hT2 := hT'.snoc hf'
        have nd2 : (ts' ++ [tm]).Nodup := nd_snoc nd' hnew
        obtain ⟨us3, e3, r3⟩ := hL3
        have kt : (ts' ++ [tm])[rs'.length]? = some tm := by rw [hT'.len]; exact get_snoc
        refine ⟨rs' ++ [r'], ts' ++ [tm], _, _, _, _, rfl, Same.mut (Same.mut sH3 npk0) npn0, ⟨us3, ?_, ?_⟩, hT2, nd2, fun y hy => ?_, ?_, kok2, upd_same, ?_, ?_, ?_, ?_⟩
        · rw [upd_ne hrn, upd_ne hrk]
          exact e3
        · have bb : But pk H3 (upd H3 pk (.dT (putK kk (rlK r') (.int (rs'.length : Int))))) := But.upd
          have bb2 : But pn (upd H3 pk (.dT (putK kk (rlK r') (.int (rs'.length : Int))))) (upd (upd H3 pk (.dT (putK kk (rlK r') (.int (rs'.length : Int))))) pn (.dK (putK nk (.inl (m : Int)) (.int (rs'.length : Int))))) := But.upd
          refine Paired.mapP r3 fun v s ⟨c, ec, hc⟩ => ⟨c, ec, ?_⟩
          rw [upd_ne (ne_of hc hn3 (by intro z; cases z)), upd_ne (ne_of hc hk3 (by intro z; cases z))]
          exact hc
        · rcases List.mem_append.mp hy with h | h
          · exact sub y h
          · rw [List.mem_singleton.mp h]
            exact List.mem_of_getElem? htm
        · rw [upd_ne hkn, upd_same]
        · have := length_putK nk (.inl (m : Int)) (.int (rs'.length : Int))
          omega
        · rw [take_snoc hm]
          exact nok.put [tm] htm kt notin
        · rw [List.length_append, List.length_singleton]
          omega
        · rw [upd_ne hln, upd_ne hlk]
          exact b3 _ _ hlr (s2' _ _ hl1)
      | some vk =>
        obtain ⟨k, hk', rfl⟩ := kok.no r' vk hv
        obtain ⟨u, hu, fu⟩ := hT'.fit hk'
        have eu := Fits.fn fu hf'
        subst eu
        refine ⟨.ref b, rfl, .ref pk, rfl, pk, some (.int (k : Int)), rfl, by rw [← hv]; exact DGet.t hk2 hbk, false, rfl, iteF ?_⟩
        refine ⟨.ref pk, rfl, .ref b, rfl, pk, .int (k : Int), rfl, by rw [← hv]; exact DGet.t hk2 hbk, ?_⟩
        have hn2 : H2 pn = some (.dK nk) := s2' _ _ hnk
        refine ⟨.ref pn, rfl, .int (m : Int), rfl, pn, _, rfl, DPut.k (k := Sum.inl (m : Int)) hn2 (szt (by omega)), ?_⟩
        obtain ⟨us2, e2, r2⟩ := hL2
        refine ⟨rs', ts', kk, _, _, _, rfl, Same.mut sH2 npn0, ⟨us2, ?_, ?_⟩, hT', nd', sub, ?_, kok, upd_same, ?_, ?_, by omega, ?_⟩
        · rw [upd_ne hrn]
          exact e2
        · refine Paired.mapP r2 fun v s ⟨c, ec, hc⟩ => ⟨c, ec, ?_⟩
          rw [upd_ne (ne_of hc hn2 (by intro z; cases z))]
          exact hc
        · rw [upd_ne hkn]
          exact hk2
        · have := length_putK nk (.inl (m : Int)) (.int (k : Int))
          omega
        · rw [take_snoc hm]
          have := nok.put (k := k) [] htm (by rw [List.append_nil]; exact hu) notin
          rw [List.append_nil] at this
          exact this
        · rw [upd_ne hln]
          exact s2' _ _ hl1
    · rintro σ H1 ⟨rs', ts', kk, nk, y5, y6, rfl, sH, ⟨us1, e1, r1⟩, hT', nd', sub, hk, kok, hnk, hnl, nok, hlen, hl1⟩
      rw [nV_len, List.take_length] at nok
      obtain ⟨k, tn, h1, h2, h3⟩ := nok n nd.top
      rw [ht] at h2
      cases h2
      refine ⟨.ref pr, rfl, pr, us1, rfl, .inl ⟨sqL e1, fun c nc => ?_⟩⟩
      have sc := same_new (o := HO.tup us1) nc
      have hn5 := sc _ _ hnk
      refine ⟨.ref pn, rfl, pn, rfl, .inl ⟨nk, .inl hn5⟩, .int (n : Int), rfl, some (.int (k : Int)), by rw [← h1]; exact DGet.k (k := Sum.inl (n : Int)) hn5, by show 2 ≤ sizeLine; decide, fun d nd2 => ?_⟩
      obtain ⟨s5, hp⟩ := pair_laid (p := pr) (o := some k) r1 nc nd2
      exact q _ _ rs' ts' k (sH.trans s5) hp hT' nd' sub h3
end
end Sb
set_option Elab.async false
set_option linter.all false
set_option maxRecDepth 100000
set_option maxHeartbeats 4000000
/-! A text turned about. -/
namespace Sb
open PySem PySem.Spec PyProof.Rows L2
/-- a rule as plain data -/
def rlD : Rl → List PyData
  | .sg c => [.str "sign", .str (ch c)]
  | .jn i j => [.str "join", .int (i : Int), .int (j : Int)]
  | .tm i m => [.str "times", .int (i : Int), .int (m : Int)]
theorem rlD_dp {K : PySem.W.Frag} {H : Hp} {a : Addr} {r : Rl} (h : H a = some (.tup (rlV r))) : Dp K H (.ref a) (.tuple (rlD r)) := by
  refine Dp.tup (sqT h) ?_
  cases r with
  | sg c => exact .cons (.str _) (.cons (.str _) .nil)
  | jn i j => exact .cons (.str _) (.cons (.int _) (.cons (.int _) .nil))
  | tm i m => exact .cons (.str _) (.cons (.int _) (.cons (.int _) .nil))
theorem rlD_sh {ts : List Tr} {r : Rl} {t : Tr} (f : Fits ts r t) : SeqAt.shaped (.tuple (rlD r)) = true := by
  have h1 : PyData.strOk "sign" = true := by decide +kernel
  have h2 : PyData.strOk "join" = true := by decide +kernel
  have h3 : PyData.strOk "times" = true := by decide +kernel
  cases r with
  | sg c =>
    have h4 : PyData.strOk (ch c) = true := by
      have := f.1
      unfold OkC at this
      simp [PyData.strOk, ch]
      omega
    simp [SeqAt.shaped, rlD, PyData.canLay0, PyData.canLayAll0, PyData.depth, PyData.depthAll, h1, h4]
  | jn i j => simp [SeqAt.shaped, rlD, PyData.canLay0, PyData.canLayAll0, PyData.depth, PyData.depthAll, h2]
  | tm i m => simp [SeqAt.shaped, rlD, PyData.canLay0, PyData.canLayAll0, PyData.depth, PyData.depthAll, h3]
theorem str_ne {x y : Str} (h : x ≠ y) : (x == y) = false := by
  cases e : x == y with
  | false => rfl
  | true => exact absurd (of_decide_eq_true e) h
theorem rlD_eqv (r s : Rl) (hs : SeqAt.shaped (.tuple (rlD r)) = true) : PyData.eqv (.tuple (rlD r)) (.tuple (rlD s)) = decide (r = s) := by
  by_cases h : r = s
  · subst h
    rw [decide_eq_true rfl]
    exact SeqAt.eqv_refl _ (SeqAt.canLay_of_shaped hs)
  · rw [decide_eq_false h]
    have j_t : ("join" : Str) ≠ ("times" : Str) := by decide +kernel
    have s_j : ("sign" : Str) ≠ ("join" : Str) := by decide +kernel
    have s_t : ("sign" : Str) ≠ ("times" : Str) := by decide +kernel
    cases r with
    | sg c => cases s with
      | sg d =>
        have e : ch c ≠ ch d := fun z => h (by rw [ch_inj z])
        simp [PyData.eqv, PyData.eqvAll, rlD, e]
      | jn i j => simp [PyData.eqv, PyData.eqvAll, rlD, s_j]
      | tm i m => simp [PyData.eqv, PyData.eqvAll, rlD, s_t]
    | jn i j => cases s with
      | sg d => simp [PyData.eqv, PyData.eqvAll, rlD, s_j.symm]
      | jn i' j' =>
        have e : ¬ (i = i' ∧ j = j') := fun z => h (by rw [z.1, z.2])
        simp only [PyData.eqv, PyData.eqvAll, rlD, Bool.and_true, beq_self_eq_true, Bool.true_and]
        cases q : ((i : Int) == (i' : Int)) && ((j : Int) == (j' : Int)) with
        | false => rfl
        | true =>
          obtain ⟨q1, q2⟩ := Bool.and_eq_true_iff.mp q
          have e1 := eq_of_beq q1
          have e2 := eq_of_beq q2
          exact absurd ⟨by omega, by omega⟩ e
      | tm i' m => simp [PyData.eqv, PyData.eqvAll, rlD, j_t]
    | tm i m => cases s with
      | sg d => simp [PyData.eqv, PyData.eqvAll, rlD, s_t.symm]
      | jn i' j' => simp [PyData.eqv, PyData.eqvAll, rlD, j_t.symm]
      | tm i' m' =>
        have e : ¬ (i = i' ∧ m = m') := fun z => h (by rw [z.1, z.2])
        simp only [PyData.eqv, PyData.eqvAll, rlD, Bool.and_true, beq_self_eq_true, Bool.true_and]
        cases q : ((i : Int) == (i' : Int)) && ((m : Int) == (m' : Int)) with
        | false => rfl
        | true =>
          obtain ⟨q1, q2⟩ := Bool.and_eq_true_iff.mp q
          have e1 := eq_of_beq q1
          have e2 := eq_of_beq q2
          exact absurd ⟨by omega, by omega⟩ e
theorem put_again (nk : List (Key × V)) (k : Key) (x y : V) : (putK (putK nk k x) k y).length ≤ nk.length + 1 := by
  have h1 := length_putK nk k x
  have e : (putK (putK nk k x) k y) = (putK nk k x).map (fun kv => if kv.1 = k then (kv.1, y) else kv) := by
    have hh : valV (putK nk k x) k = some x := by rw [valV_put, if_pos rfl]
    generalize putK nk k x = nk2 at hh
    unfold putK
    rw [valV_any, hh]
    rfl
  rw [e, List.length_map]
  exact h1
theorem NumOk.skip {g : Tr → Tr} {nk : List (Key × V)} {done : List Nat} {ts us : List Tr} {m : Nat} (v : V) (h : NumOk g nk done ts us) (hm : m ∉ done) : NumOk g (putK nk (.inl (m : Int)) v) done ts us := fun a ha => by
  obtain ⟨j, u, e1, e2, e3⟩ := h a ha
  refine ⟨j, u, ?_, e2, e3⟩
  rw [valV_put, if_neg fun z => hm (by rw [← key_nat.mp z]; exact ha)]
  exact e1
section
variable {P : Program} {w : World} {K : PySem.W.Frag} {mg : Str → Option Value} {base : Heap}
def sp_turned : Sp := fun vs H Q _ => ∃ (v : V) (rs : List Rl) (ts : List Tr) (n : Nat) (t : Tr), vs = [v, .int (n : Int)] ∧ RsU H v rs ts ∧ ts[n]? = some t ∧
  ∀ v' H' ex ux k, Same H H' → PairR H' v' (rs ++ ex) (some k) → RT (rs ++ ex) (ts ++ ux) → ex.length ≤ rs.length → (∀ x ∈ ux, ∃ y ∈ ts, x = y.rev) → (ts ++ ux)[k]? = some t.rev → Q v' H'
theorem ok_turned (T : Hd K mg) : Own P w K mg base "turned" ["rules", "name"] 3 sp_turned := by
  refine own_mk T.d_turned sc_turned (fun vs H Q E h => ?_) (fun _ _ _ _ _ _ us hl => match us, hl with | [_, _], _ => rfl) (fun fa cdv A outer s H vs Q E hr h => ⟨_, (pss_cons (ps_expr (pe_own (ok_named T) (hr.mono (by decide)) (by rfl) (pa_cons (pv 0) (pa_cons (pv 1) pa_nil))))
      (pss_cons (ps_set (i := 2) sc_turned.nd rfl (Or.inl rfl) (pe_callTy call_list_of (by rfl) T.z_list (by decide +kernel) (pa_cons (pv 0) pa_nil)))
      (pss_cons (ps_set (i := 3) sc_turned.nd rfl (Or.inl rfl) pe_dnewK)
      (pss_cons (ps_for PassesOwn.never rfl (pi_list (pe_own (ok_needed T) (hr.mono (by decide)) (by rfl) (pa_cons (pv 0) (pa_cons (pv 1) pa_nil)))) (pg_name (i := 4) sc_turned.nd rfl (Or.inl rfl)) (pss_cons (ps_set (i := 5) sc_turned.nd rfl (Or.inl rfl) (pe_own (ok_renamedD T) (hr.mono (by decide)) (by rfl) (pa_cons (pe_ix ix_tup (pv 0) (pv 4) (fun _ _ => rfl)) (pa_cons (pv 3) pa_nil))))
      (C8.pss_cut (ps_if (pt_cmpR op_eq (pe_ix ix_tup (pv 5) pe_int (fun _ _ => rfl)) pe_str (nomark _)) (pss_one (ps_set (i := 5) sc_turned.nd rfl (Or.inl rfl) (pe_tup (pa_cons pe_str (pa_cons (pe_ix ix_tup (pv 5) pe_int (fun _ _ => rfl)) (pa_cons (pe_ix ix_tup (pv 5) pe_int (fun _ _ => rfl)) pa_nil)))))) pss_nil)
      (pss_cons (ps_dput (hu_of hr) (pv 3) (pv 4) (pv 4) rfl)
      (pss_one (ps_if (pt_cmpR (op_neD (hu64 hr)) (pv 5) (pe_ix ix_tup (pv 0) (pv 4) (fun _ _ => rfl)) (nomark _)) (pss_one (ps_dput (hu_of hr) (pv 3) (pv 4) (pe_own (ok_put T) (hr.mono (by decide)) (by rfl) (pa_cons (pv 2) (pa_cons (pv 5) pa_nil))) rfl)) pss_nil))))))
      (pss_one (ps_ret (pe_tup (pa_cons (pe_callTy call_tuple_of (by rfl) T.z_tuple (by decide +kernel) (pa_cons (pv 2) pa_nil)) (pa_cons (pe_dget1 (hu_of hr) (pv 3) (pv 1) ⟨rfl, rfl, rfl, rfl⟩) pa_nil))))))))), ?_⟩)
  · obtain ⟨v, rs, ts, n, t, rfl, _⟩ := h
    rfl
  · obtain ⟨v, rs, ts, n, t, rfl, hR, ht, q⟩ := h
    have hT := hR.2.1
    have hz := hR.2.2
    have hn : n < rs.length := by rw [hT.len]; exact get_lt ht
    refine ⟨v, rfl, .int (n : Int), rfl, v, rs, some n, rfl, hR.1, hn, ?_⟩
    obtain ⟨a, us, rfl, ha, hr0⟩ := hR.1
    refine ⟨.ref a, rfl, a, us, rfl, .inr (sqT ha), fun pr npr => ?_⟩
    have s1 := same_new (o := HO.lst us) npr
    refine fun pn npn => ?_
    have s2 := same_new (o := HO.dK []) npn
    have s12 := s1.trans s2
    have npn0 := s1.free npn
    refine ⟨.ref a, rfl, .int (n : Int), rfl, .ref a, rs, ts, n, rfl, hR.mono s12, hn, fun l H4 ns s4 nl hl nd => ?_⟩
    have h2r : (upd (upd H pr (.lst us)) pn (.dK [])) pr = some (.lst us) := s2 _ _ upd_same
    have h2n : (upd (upd H pr (.lst us)) pn (.dK [])) pn = some (.dK []) := upd_same
    have hlr : l ≠ pr := (ne_of_none h2r nl).symm
    have hln : l ≠ pn := (ne_of_none h2n nl).symm
    have hrn : pr ≠ pn := ne_of h2r h2n (by intro z; cases z)
    have s14 := s12.trans s4
    have hns := nd.len
    refine ⟨l, rfl, ⟨_, sqL hl⟩, for_list (K := K) (a := l) (xs := nV ns) (fun i σ H' => ∃ ex ux nk y4 y5, σ = [some (.ref a), some (.int (n : Int)), some (.ref pr), some (.ref pn), y4, y5] ∧ Same H H' ∧ RsL H' pr (rs ++ ex) ∧ RT (rs ++ ex) (ts ++ ux) ∧ (∀ x ∈ ux, ∃ y ∈ ts, x = y.rev) ∧ ex.length ≤ i ∧
        H' pn = some (.dK nk) ∧ nk.length ≤ i ∧ NumOk Tr.rev nk (ns.take i) ts (ts ++ ux) ∧ H' l = some (.lst (nV ns)))
      ⟨[], [], [], none, none, rfl, s14, ⟨us, s4 _ _ h2r, by rw [List.append_nil]; exact Rows.mono s14 hr0⟩, by rw [List.append_nil, List.append_nil]; exact hT, fun x hx => (by cases hx), Nat.le_refl _, s4 _ _ h2n, Nat.le_refl _, fun m hm => (by rw [List.take_zero] at hm; cases hm), hl⟩
      (fun i σ H' _ ⟨_, _, _, _, _, _, _, _, _, _, _, _, _, _, hl2⟩ => sqL hl2) ?_ ?_⟩
    · rintro i x σ H1 hi ⟨ex, ux, nk, y4, y5, rfl, sH, hL, hT', sub, hlen, hnk, hnl, nok, hl1⟩
      obtain ⟨m, hm⟩ := get_at (l := ns) (i := i) (by rw [← nV_len]; exact get_lt hi)
      rw [nV_get hm] at hi
      cases hi
      have him : i < ns.length := get_lt hm
      have hmn : m ≤ n := nd.le m (List.mem_of_getElem? hm)
      obtain ⟨r, hrm⟩ := get_at (l := rs) (i := m) (by omega)
      obtain ⟨tm, htm, hft⟩ := hT.fit hrm
      obtain ⟨x, hx, hrx⟩ := P_get hr0 hrm
      have hpart : ∀ p ∈ r.parts, ∃ k tp, valV nk (.inl (p : Int)) = some (.int ((k : Nat) : Int)) ∧ ts[p]? = some tp ∧ (ts ++ ux)[k]? = some tp.rev := fun p hp =>
        nok p (rising_take nd.up hm (nd.parts m (List.mem_of_getElem? hm) r hrm p hp) (hT.part hrm hp))
      obtain ⟨r', hren⟩ := ren_ex (m := numF nk) (r := r) fun p hp => let ⟨k, _, e, _⟩ := hpart p hp; ⟨k, numF_of e⟩
      have hf' : Fits (ts ++ ux) r'.swap tm.rev := hren.turn (us := ts ++ ux) (fun p hp k hk b hb => by
        obtain ⟨k', tp, e1, e2, e3⟩ := hpart p hp
        rw [numF_of e1] at hk
        cases hk
        rw [hb] at e2
        cases e2
        exact e3) hft
      have notin := rising_not nd.up hm
      refine v_ixT (vx 0) (vx 4) (sqT (sH _ _ ha)) (atI_nat hx) _ ?_
      refine ⟨.ref pn, rfl, x, pn, r, r', nk, numF nk, rfl, hrx.mono sH, hnk, numF_d nk, hren, fun v' H2 s2' hv' => ?_⟩
      obtain ⟨b, rfl, hb⟩ := hv'
      refine ⟨fun σ H3 => ∃ c, σ = [some (.ref a), some (.int (n : Int)), some (.ref pr), some (.ref pn), some (.int (m : Int)), some (.ref c)] ∧ Same H2 H3 ∧ H3 c = some (.tup (rlV r'.swap)), ?_, ?_⟩
      · cases r' with
        | sg d => exact s_no (a_eq (v_ixT (vx 5) vc (sqT hb) (atI_nat (j := 0) rfl)) vc rfl (by decide)) ⟨b, rfl, Same.refl H2, hb⟩
        | tm i' k' => exact s_no (a_eq (v_ixT (vx 5) vc (sqT hb) (atI_nat (j := 0) rfl)) vc rfl (by decide)) ⟨b, rfl, Same.refl H2, hb⟩
        | jn i' j' =>
          refine s_yes (a_eq (v_ixT (vx 5) vc (sqT hb) (atI_nat (j := 0) rfl)) vc rfl (by decide)) ?_
          refine v_ixT (vx 5) vc (sqT hb) (atI_nat (j := 2) rfl) _ ?_
          refine v_ixT (vx 5) vc (sqT hb) (atI_nat (j := 1) rfl) _ ?_
          exact ⟨by show 3 ≤ sizeLine; decide, fun c nc => ⟨c, rfl, same_new nc, upd_same⟩⟩
      · rintro σ H3 ⟨c, rfl, s3, hc⟩
        have sH3 := (sH.trans s2').trans s3
        have hn3 := s3 _ _ (s2' _ _ hnk)
        have hL3 := (hL.mono s2').mono s3
        have hl3 := s3 _ _ (s2' _ _ hl1)
        refine ⟨.int (m : Int), rfl, .ref pn, rfl, .int (m : Int), rfl, pn, _, rfl, DPut.k (k := Sum.inl (m : Int)) hn3 (szt (by omega)), ?_⟩
        have kpt : ∀ {d : Addr} {xs : List V}, H3 d = some (.tup xs) → (upd H3 pn (.dK (putK nk (.inl (m : Int)) (.int (m : Int))))) d = some (.tup xs) := fun h => by
          rw [upd_ne (ne_of h hn3 (by intro z; cases z))]
          exact h
        have hc4 := kpt hc
        obtain ⟨ax, rfl, hax⟩ := hrx
        have hax4 := kpt (sH3 _ _ hax)
        have sH4 : Same H (upd H3 pn (.dK (putK nk (.inl (m : Int)) (.int (m : Int))))) := Same.mut sH3 npn0
        refine ⟨.ref c, rfl, ?_⟩
        refine v_ixT (vx 0) (vx 4) (sqT (sH4 _ _ ha)) (atI_nat hx) _ ?_
        refine ⟨.tuple (rlD r'.swap), .tuple (rlD r), rlD_dp hc4, rlD_dp hax4, rlD_sh hf', rlD_sh hft, _, rfl, ?_⟩
        rw [rlD_eqv _ _ (rlD_sh hf')]
        have len1 := length_putK nk (.inl (m : Int)) (.int (m : Int))
        by_cases er : r'.swap = r
        · rw [decide_eq_true er]
          have e : tm.rev = tm := by
            rw [er] at hf'
            exact Fits.fn hf' (hft.app ux)
          obtain ⟨us3, e3, r3⟩ := hL3
          refine iteF ⟨ex, ux, _, _, _, rfl, sH4, ⟨us3, by rw [upd_ne hrn]; exact e3, Paired.mapP r3 fun v s ⟨c, ec, hc⟩ => ⟨c, ec, kpt hc⟩⟩, hT', sub, by omega, upd_same, by omega, ?_, by rw [upd_ne hln]; exact hl3⟩
          rw [take_snoc hm]
          have := nok.put (k := m) [] htm (by rw [List.append_nil, e]; exact get_app htm) notin
          rw [List.append_nil] at this
          exact this
        · rw [decide_eq_false er]
          obtain ⟨us3, e3, r3⟩ := hL3
          have hL4 : RsL (upd H3 pn (.dK (putK nk (.inl (m : Int)) (.int (m : Int))))) pr (rs ++ ex) := ⟨us3, by rw [upd_ne hrn]; exact e3, Paired.mapP r3 fun v s ⟨c, ec, hc⟩ => ⟨c, ec, kpt hc⟩⟩
          refine iteT ⟨.ref pr, rfl, .ref c, rfl, pr, .ref c, r'.swap, rs ++ ex, rfl, hL4, by rw [List.length_append]; have := get_lt htm; have := hT.len; omega, ⟨c, rfl, hc4⟩, fun H5 b5 hL5 => ?_⟩
          have hn5 : H5 pn = some (.dK (putK nk (.inl (m : Int)) (.int (m : Int)))) := b5 _ _ hrn.symm upd_same
          refine ⟨.ref pn, rfl, .int (m : Int), rfl, pn, _, rfl, DPut.k (k := Sum.inl (m : Int)) hn5 (szt (by omega)), ?_⟩
          have sH5 : Same H H5 := But.same sH4 npr b5
          obtain ⟨us5, e5, r5⟩ := hL5
          have hT5 := hT'.snoc hf'
          rw [List.append_assoc, List.append_assoc] at hT5
          have kt : ((ts ++ ux) ++ [tm.rev])[(rs ++ ex).length]? = some tm.rev := by rw [hT'.len]; exact get_snoc
          refine ⟨ex ++ [r'.swap], ux ++ [tm.rev], _, _, _, rfl, Same.mut sH5 npn0, ⟨us5, by rw [upd_ne hrn]; exact e5, ?_⟩, hT5, fun y hy => ?_, by rw [List.length_append, List.length_singleton]; omega, upd_same, ?_, ?_, ?_⟩
          · rw [← List.append_assoc]
            exact Paired.mapP r5 fun v s ⟨c, ec, hc⟩ => ⟨c, ec, by rw [upd_ne (ne_of hc hn5 (by intro z; cases z))]; exact hc⟩
          · rcases List.mem_append.mp hy with h | h
            · exact sub y h
            · exact ⟨tm, List.mem_of_getElem? htm, List.mem_singleton.mp h⟩
          · have := put_again nk (.inl (m : Int)) (.int (m : Int)) (.int ((rs ++ ex).length : Int))
            omega
          · rw [take_snoc hm, ← List.append_assoc]
            exact (nok.skip _ notin).put [tm.rev] htm kt notin
          · rw [upd_ne hln]
            exact b5 _ _ hlr (by rw [upd_ne hln]; exact hl3)
    · rintro σ H1 ⟨ex, ux, nk, y4, y5, rfl, sH, ⟨us1, e1, r1⟩, hT', sub, hlen, hnk, hnl, nok, hl1⟩
      rw [nV_len, List.take_length] at nok
      rw [nV_len] at hlen
      obtain ⟨k, tn, h1, h2, h3⟩ := nok n nd.top
      rw [ht] at h2
      cases h2
      refine ⟨.ref pr, rfl, pr, us1, rfl, .inl ⟨sqL e1, fun c nc => ?_⟩⟩
      have sc := same_new (o := HO.tup us1) nc
      have hn5 := sc _ _ hnk
      refine ⟨.ref pn, rfl, pn, rfl, .inl ⟨nk, .inl hn5⟩, .int (n : Int), rfl, some (.int (k : Int)), by rw [← h1]; exact DGet.k (k := Sum.inl (n : Int)) hn5, by show 2 ≤ sizeLine; decide, fun d nd2 => ?_⟩
      obtain ⟨s5, hp⟩ := pair_laid (p := pr) (o := some k) r1 nc nd2
      exact q _ _ ex ux k (sH.trans s5) hp hT' (by omega) sub h3
end
end Sb
set_option Elab.async false
set_option linter.all false
set_option maxRecDepth 100000
set_option maxHeartbeats 4000000
/-! How often a sign stands in a text, the sign at a place. -/
namespace Sb
open PySem PySem.Spec PyProof.Rows L2
def cnts (c : Nat) (ts : List Tr) : List Nat := ts.map fun t => t.txt.count c
theorem cnts_get {c : Nat} {ts : List Tr} {i : Nat} {t : Tr} (h : ts[i]? = some t) : (cnts c ts)[i]? = some (t.txt.count c) := by
  unfold cnts
  rw [List.getElem?_map, h]
  rfl
theorem cut_to (xs : List V) (k : Nat) : cutV xs none (some (k : Int)) = xs.take k := by
  unfold cutV
  rw [show HT.sIx xs.length xs.length (some (k : Int)) = min k xs.length from HT.sIx_nat xs.length xs.length k, HT.sIx_none, List.drop_zero, Nat.sub_zero]
  by_cases h : k ≤ xs.length
  · rw [Nat.min_eq_left h]
  · rw [Nat.min_eq_right (by omega), List.take_length, List.take_of_length_le (by omega)]
/-- t[:k], whether it is t itself or a new one -/
theorem sl_to {Q : VK} {H : Hp} {a : Addr} {xs : List V} {k : Nat} {z : Int} (ha : H a = some (.tup xs)) (ez : z = (k : Int)) (h : ∀ a' H', Same H H' → H' a' = some (.tup (xs.take k)) → Q (.ref a') H') :
    (HT.sIx xs.length 0 none = 0 ∧ HT.sIx xs.length xs.length (some z) = xs.length → Q (.ref a) H) ∧ (¬ (HT.sIx xs.length 0 none = 0 ∧ HT.sIx xs.length xs.length (some z) = xs.length) → ∀ p, H p = none → Q (.ref p) (upd H p (.tup (cutV xs none (some z))))) := by
  subst ez
  refine ⟨fun e => h a H (Same.refl H) ?_, fun _ p np => h p _ (same_new np) ?_⟩
  · have e2 := e.2
    rw [show HT.sIx xs.length xs.length (some (k : Int)) = min k xs.length from HT.sIx_nat xs.length xs.length k] at e2
    rw [List.take_of_length_le (by omega)]
    exact ha
  · rw [upd_same, cut_to]
theorem v_slTo {K : PySem.W.Frag} {σ : L2.St} {ta tb : TE} {Q : VK} {H : Hp} {a : Addr} {xs : List V} {k : Nat} {z : Int} (hA : Val ta σ H (.ref a)) (hB : Val tb σ H (.int z)) (ha : H a = some (.tup xs)) (ez : z = (k : Int)) (h : ∀ a' H', Same H H' → H' a' = some (.tup (xs.take k)) → Q (.ref a') H') :
    tSl (rSlA K) ta tNoPart (tPart tb) σ H Q := hA _ (hB _ ⟨z, rfl, a, xs, rfl, sqT ha, sl_to (Q := Q) ha ez h⟩)
theorem mod_app {a : List Nat} {p c : Nat} (h : (a ++ a)[p]? = some c) : a[p % a.length]? = some c := by
  by_cases hp : p < a.length
  · rw [List.getElem?_append_left hp] at h
    rw [Nat.mod_eq_of_lt hp]
    exact h
  · rw [List.getElem?_append_right (by omega)] at h
    have h1 := get_lt h
    rw [Nat.mod_eq_sub_mod (by omega), Nat.mod_eq_of_lt h1]
    exact h
section
variable {P : Program} {w : World} {K : PySem.W.Frag} {mg : Str → Option Value} {base : Heap}
def sp_count : Sp := fun vs H Q _ => ∃ (v : V) (rs : List Rl) (ts : List Tr) (n c : Nat) (t : Tr), vs = [v, .int (n : Int), .str (ch c)] ∧ RsU H v rs ts ∧ ts[n]? = some t ∧ ∀ H', Same H H' → Q (.int ((t.txt.count c : Nat) : Int)) H'
theorem ok_count (T : Hd K mg) : Own P w K mg base "count" ["rules", "name", "sign"] 2 sp_count := by
  refine own_mk T.d_count sc_count (fun vs H Q E h => ?_) (fun _ _ _ _ _ _ us hl => match us, hl with | [_, _, _], _ => rfl) (fun fa cdv A outer s H vs Q E hr h => ⟨_, (pss_cons (ps_expr (pe_own (ok_named T) (hr.mono (by decide)) (by rfl) (pa_cons (pv 0) (pa_cons (pv 1) pa_nil))))
      (pss_cons (ps_if (pt_cmpR op_isN (pv 1) pe_non (nomark _)) (pss_one (ps_ret pe_int)) pss_nil)
      (pss_cons (ps_set (i := 3) sc_count.nd rfl (Or.inl rfl) (pe_lst pa_nil))
      (pss_cons (ps_for PassesOwn.never rfl (pi_tup (pe_slice sl_tupA (pv 0) po_none (po_some (pe_op op_add (pv 1) pe_int)))) (pg_name (i := 4) sc_count.nd rfl (Or.inl rfl)) (pss_one (ps_if (pt_cmpR op_eq (pe_ix ix_tup (pv 4) pe_int (fun _ _ => rfl)) pe_str (nomark _)) (pss_one (ps_expr (pe_bm PySem.F.plainAttrs_list PySem.F.slot_list_append PySem.F.type_list_append mt_append (pv 3) (pa_cons (pe_callTy call_int1 (by rfl) T.z_int (by decide +kernel) (pa_cons (pe_cmpR op_eq (pe_ix ix_tup (pv 4) pe_int (fun _ _ => rfl)) (pv 2) (nomark _)) pa_nil)) pa_nil)))) (pss_one (ps_if (pt_cmpR op_eq (pe_ix ix_tup (pv 4) pe_int (fun _ _ => rfl)) pe_str (nomark _)) (pss_one (ps_expr (pe_bm PySem.F.plainAttrs_list PySem.F.slot_list_append PySem.F.type_list_append mt_append (pv 3) (pa_cons (pe_op op_add (pe_ix ix_list (pv 3) (pe_ix ix_tup (pv 4) pe_int (fun _ _ => rfl)) (fun _ _ => rfl)) (pe_ix ix_list (pv 3) (pe_ix ix_tup (pv 4) pe_int (fun _ _ => rfl)) (fun _ _ => rfl))) pa_nil)))) (pss_one (ps_expr (pe_bm PySem.F.plainAttrs_list PySem.F.slot_list_append PySem.F.type_list_append mt_append (pv 3) (pa_cons (pe_op op_mul (pe_ix ix_list (pv 3) (pe_ix ix_tup (pv 4) pe_int (fun _ _ => rfl)) (fun _ _ => rfl)) (pe_ix ix_tup (pv 4) pe_int (fun _ _ => rfl))) pa_nil)))))))))
      (pss_one (ps_ret (pe_ix ix_list (pv 3) (pv 1) (fun _ _ => rfl)))))))), ?_⟩)
  · obtain ⟨v, rs, ts, n, c, t, rfl, _⟩ := h
    rfl
  · obtain ⟨v, rs, ts, n, c, t, rfl, hR, ht, q⟩ := h
    have hT := hR.2.1
    have hz := hR.2.2
    have hn : n < rs.length := by rw [hT.len]; exact get_lt ht
    refine ⟨v, rfl, .int (n : Int), rfl, v, rs, some n, rfl, hR.1, hn, ?_⟩
    obtain ⟨a, us, rfl, ha, hr0⟩ := hR.1
    have hul : us.length = rs.length := Paired.length hr0
    refine ⟨.int (n : Int), rfl, rfl, _, rfl, iteF ?_⟩
    refine ⟨Nat.zero_le _, fun p np => ?_⟩
    have s1 := same_new (o := HO.lst []) np
    refine v_slTo (k := n + 1) (z := (n : Int) + 1) (vx 0) (v_op (vx 1) vc fun Q q => ⟨_, _, rfl, rfl, q⟩) (s1 _ _ ha) (by omega) fun a2 H2 s2 ha2 => ?_
    have s12 := s1.trans s2
    have hp2 := s2 _ _ (show upd H p (.lst []) p = some (.lst []) from upd_same)
    have hl2 : (us.take (n + 1)).length = n + 1 := by
      rw [List.length_take]
      omega
    refine ⟨a2, rfl, ⟨_, sqT ha2⟩, for_tup (K := K) (a := a2) (xs := us.take (n + 1)) (fun i σ H' => ∃ y, σ = [some (.ref a), some (.int (n : Int)), some (.str (ch c)), some (.ref p), y] ∧ Same H H' ∧ H' p = some (.lst (nV (cnts c (ts.take i)))) ∧ H' a2 = some (.tup (us.take (n + 1))))
      ⟨none, rfl, s12, hp2, ha2⟩ (fun i σ H' _ ⟨_, _, _, _, h2⟩ => sqT h2) ?_ ?_⟩
    · rintro i x σ H1 hi ⟨y, rfl, sH, hp, hA⟩
      have hin : i < n + 1 := by
        rw [← hl2]
        exact get_lt hi
      rw [List.getElem?_take, if_pos hin] at hi
      obtain ⟨r, hri⟩ := get_at (l := rs) (i := i) (by omega)
      obtain ⟨ti, hti, hf⟩ := hT.get hri
      obtain ⟨x', hx', b, rfl, hb⟩ := P_get hr0 hri
      rw [hi] at hx'
      cases hx'
      have hb1 := sH _ _ hb
      have hlen : (nV (cnts c (ts.take i))).length < sizeLine := by
        rw [nV_len]
        unfold cnts
        rw [List.length_map, List.length_take]
        exact szt (by omega)
      -- what follows the append
      have fin : ∀ z : Int, z = ((ti.txt.count c : Nat) : Int) → ∃ y, [some (V.ref a), some (.int (n : Int)), some (.str (ch c)), some (.ref p), some (.ref b)] = [some (.ref a), some (.int (n : Int)), some (.str (ch c)), some (.ref p), y] ∧ Same H (upd H1 p (.lst (nV (cnts c (ts.take i)) ++ [.int z]))) ∧ (upd H1 p (.lst (nV (cnts c (ts.take i)) ++ [.int z]))) p = some (.lst (nV (cnts c (ts.take (i + 1))))) ∧ (upd H1 p (.lst (nV (cnts c (ts.take i)) ++ [.int z]))) a2 = some (.tup (us.take (n + 1))) := fun z ez => by
        subst ez
        refine ⟨_, rfl, Same.mut sH np, ?_, ?_⟩
        · rw [upd_same, take_snoc hti]
          unfold cnts
          rw [List.map_append, nV_app]
          rfl
        · rw [upd_ne (ne_of hA hp (by intro z; cases z))]
          exact hA
      cases r with
      | sg d =>
        have ed : ti = .sg d := hf.2
        subst ed
        refine s_yes (a_eq (v_ixT (vx 4) vc (sqT hb1) (atI_nat (j := 0) rfl)) vc rfl (by decide)) ?_
        refine ⟨.ref p, rfl, .inl ⟨rfl, _, sqL hp⟩, ?_⟩
        refine v_ixT (vx 4) vc (sqT hb1) (atI_nat (j := 1) rfl) _ ?_
        refine ⟨.str (ch c), rfl, rfl, .inr ⟨_, rfl, p, _, _, rfl, rfl, hp, hlen, ?_⟩⟩
        refine fin _ ?_
        by_cases e : d = c
        · subst e
          rw [show decide (kV (Sum.inr (ch d)) = V.str (ch d)) = true from decide_eq_true rfl]
          show (1 : Int) = (([d].count d : Nat) : Int)
          rw [List.count_singleton_self]
          rfl
        · rw [show decide (kV (Sum.inr (ch d)) = V.str (ch c)) = false from decide_eq_false fun z => e (ch_inj (V.str.inj z))]
          show (0 : Int) = (([d].count c : Nat) : Int)
          rw [List.count_eq_zero_of_not_mem (by simpa using fun z => e z.symm)]
          rfl
      | jn i1 i2 =>
        obtain ⟨t1, t2, h1, h2, rfl⟩ := hf
        refine s_no (a_eq (v_ixT (vx 4) vc (sqT hb1) (atI_nat (j := 0) rfl)) vc rfl (by decide)) ?_
        refine s_yes (a_eq (v_ixT (vx 4) vc (sqT hb1) (atI_nat (j := 0) rfl)) vc rfl (by decide)) ?_
        refine ⟨.ref p, rfl, .inl ⟨rfl, _, sqL hp⟩, ?_⟩
        refine v_ixL (vx 3) (v_ixT (vx 4) vc (sqT hb1) (atI_nat (j := 1) rfl)) (sqL hp) (at_nV (cnts_get h1)) _ ?_
        refine v_ixL (vx 3) (v_ixT (vx 4) vc (sqT hb1) (atI_nat (j := 2) rfl)) (sqL hp) (at_nV (cnts_get h2)) _ ?_
        refine ⟨_, _, rfl, rfl, p, _, _, rfl, rfl, hp, hlen, fin _ ?_⟩
        show _ = (((t1.txt ++ t2.txt).count c : Nat) : Int)
        rw [List.count_append]
        omega
      | tm i1 k =>
        obtain ⟨t1, rfl, h1, rfl⟩ := hf
        refine s_no (a_eq (v_ixT (vx 4) vc (sqT hb1) (atI_nat (j := 0) rfl)) vc rfl (by decide)) ?_
        refine s_no (a_eq (v_ixT (vx 4) vc (sqT hb1) (atI_nat (j := 0) rfl)) vc rfl (by decide)) ?_
        refine ⟨.ref p, rfl, .inl ⟨rfl, _, sqL hp⟩, ?_⟩
        refine v_ixL (vx 3) (v_ixT (vx 4) vc (sqT hb1) (atI_nat (j := 1) rfl)) (sqL hp) (at_nV (cnts_get h1)) _ ?_
        refine v_ixT (vx 4) vc (sqT hb1) (atI_nat (j := 2) rfl) _ ?_
        refine ⟨_, 2, rfl, rfl, .inr (by decide), p, _, _, rfl, rfl, hp, hlen, fin _ ?_⟩
        show ((t1.txt.count c : Nat) : Int) * 2 = (((t1.txt ++ t1.txt).count c : Nat) : Int)
        rw [List.count_append]
        omega
    · rintro σ H1 ⟨y, rfl, sH, hp, hA⟩
      rw [hl2] at hp
      have htn : (ts.take (n + 1))[n]? = some t := by
        rw [List.getElem?_take, if_pos (by omega)]
        exact ht
      exact v_ixL (vx 3) (vx 1) (sqL hp) (at_nV (cnts_get htn)) _ (q _ sH)
def sp_sign_at : Sp := fun vs H Q _ => ∃ (v : V) (rs : List Rl) (ts : List Tr) (n p c : Nat) (t : Tr), vs = [v, .int (n : Int), .int (p : Int)] ∧ RsU H v rs ts ∧ ts[n]? = some t ∧ t.txt[p]? = some c ∧ ∀ H', Same H H' → Q (.str (ch c)) H'
theorem ok_sign_at (T : Hd K mg) : Own P w K mg base "sign_at" ["rules", "name", "place"] 4 sp_sign_at := by
  refine own_mk T.d_sign_at sc_sign_at (fun vs H Q E h => ?_) (fun _ _ _ _ _ _ us hl => match us, hl with | [_, _, _], _ => rfl) (fun fa cdv A outer s H vs Q E hr h => ⟨_, (pss_cons (ps_set (i := 3) sc_sign_at.nd rfl (Or.inl rfl) (pe_own (ok_length T) (hr.mono (by decide)) (by rfl) (pa_cons (pv 0) (pa_cons (pv 1) pa_nil))))
      (pss_cons (ps_if (PW.pt (pw_or (pt_cmpR op_lt (pv 2) pe_int (nomark _)) (pw_or1 (pt_cmpR op_ge (pv 2) (pv 3) (nomark _))))) (pss_one ps_never) pss_nil)
      (pss_cons (ps_set (i := 4) sc_sign_at.nd rfl (Or.inl rfl) (pe_own (ok_lengths T) (hr.mono (by decide)) (by rfl) (pa_cons (pv 0) pa_nil)))
      (pss_cons (ps_set (i := 5) sc_sign_at.nd rfl (Or.inl rfl) (pe_ix ix_tup (pv 0) (pv 1) (fun _ _ => rfl)))
      (pss_cons (ps_while PassesOwn.never (pt_cmpR op_ne (pe_ix ix_tup (pv 5) pe_int (fun _ _ => rfl)) pe_str (nomark _)) (pss_cons (ps_set (i := 3) sc_sign_at.nd rfl (Or.inl rfl) (pe_ix ix_list (pv 4) (pe_ix ix_tup (pv 5) pe_int (fun _ _ => rfl)) (fun _ _ => rfl)))
      (pss_one (ps_if (pt_cmpR op_eq (pe_ix ix_tup (pv 5) pe_int (fun _ _ => rfl)) pe_str (nomark _)) (pss_cons (ps_set (i := 2) sc_sign_at.nd rfl (Or.inl rfl) (pe_op op_mod (pv 2) (pv 3)))
      (pss_one (ps_set (i := 5) sc_sign_at.nd rfl (Or.inl rfl) (pe_ix ix_tup (pv 0) (pe_ix ix_tup (pv 5) pe_int (fun _ _ => rfl)) (fun _ _ => rfl))))) (pss_one (ps_if (pt_cmpR op_lt (pv 2) (pv 3) (nomark _)) (pss_one (ps_set (i := 5) sc_sign_at.nd rfl (Or.inl rfl) (pe_ix ix_tup (pv 0) (pe_ix ix_tup (pv 5) pe_int (fun _ _ => rfl)) (fun _ _ => rfl)))) (pss_cons (ps_set (i := 2) sc_sign_at.nd rfl (Or.inl rfl) (pe_op op_sub (pv 2) (pv 3)))
      (pss_one (ps_set (i := 5) sc_sign_at.nd rfl (Or.inl rfl) (pe_ix ix_tup (pv 0) (pe_ix ix_tup (pv 5) pe_int (fun _ _ => rfl)) (fun _ _ => rfl)))))))))))
      (pss_one (ps_ret (pe_ix ix_tup (pv 5) pe_int (fun _ _ => rfl))))))))), ?_⟩)
  · obtain ⟨v, rs, ts, n, p, c, t, rfl, _⟩ := h
    rfl
  · obtain ⟨v, rs, ts, n, p, c, t, rfl, hR, ht, hc, q⟩ := h
    have hT := hR.2.1
    have hpl : p < t.len := get_lt hc
    refine ⟨v, rfl, .int (n : Int), rfl, v, rs, ts, some n, t.len, rfl, hR, ⟨t, ht, rfl⟩, fun H1 s1 => ?_⟩
    refine ⟨.int (p : Int), rfl, (p : Int), 0, rfl, rfl, _, rfl, ?_⟩
    rw [intn (show ¬ (p : Int) < 0 by omega)]
    refine iteF ⟨.int (p : Int), rfl, .int (t.len : Int), rfl, (p : Int), (t.len : Int), rfl, rfl, _, rfl, ?_⟩
    rw [intn (show ¬ (t.len : Int) ≤ (p : Int) by omega)]
    refine iteF ⟨v, rfl, v, rs, ts, rfl, hR.mono s1, fun l H2 s2 nl hl => ?_⟩
    have s12 := s1.trans s2
    obtain ⟨a, us, rfl, ha, hr0⟩ := hR.1.mono s12
    obtain ⟨r, hr1, hf⟩ := hT.at ht
    obtain ⟨x, hx, b, rfl, hb⟩ := P_get hr0 hr1
    refine v_ixT (vx 0) (vx 1) (sqT ha) (atI_nat hx) _ ?_
    refine ⟨fun m σ H' => H' = H2 ∧ ∃ (p' k : Nat) (y : V) (x : Addr) (t' : Tr), σ = [some (.ref a), some (.int (n : Int)), some (.int (p' : Int)), some y, some (.ref l), some (.ref x)] ∧ m = k ∧ ts[k]? = some t' ∧ t'.txt[p']? = some c ∧ us[k]? = some (.ref x), ⟨n, rfl, p, n, _, b, t, rfl, rfl, ht, hc, hx⟩, ?_⟩
    rintro m σ H' ⟨rfl, p', k, y, x, t', rfl, rfl, ht', hc', hx'⟩
    obtain ⟨r', hr', hf'⟩ := hT.at ht'
    obtain ⟨x2, hx2, x3, rfl, hb'⟩ := P_get hr0 hr'
    rw [hx'] at hx2
    cases hx2
    have hget : ∀ {j : Nat} {t2 : Tr}, (ts.take m)[j]? = some t2 → ∃ x4 : Addr, us[j]? = some (.ref x4) ∧ ts[j]? = some t2 ∧ j < m := fun {j t2} h => by
      have hj := get_lt h
      rw [List.length_take] at hj
      have h2 : ts[j]? = some t2 := by
        rw [List.getElem?_take, if_pos (by omega)] at h
        exact h
      obtain ⟨r2, hr2, _⟩ := hT.at h2
      obtain ⟨x5, hx5, x6, rfl, _⟩ := P_get hr0 hr2
      exact ⟨x6, hx5, h2, by omega⟩
    cases r' with
    | sg d =>
      have ed : t' = .sg d := hf'.2
      subst ed
      refine a_ne (b := false) (v_ixT (vx 5) vc (sqT hb') (atI_nat (j := 0) rfl)) vc rfl (by decide) _ ?_
      refine iteF ?_
      refine v_ixT (vx 5) vc (sqT hb') (atI_nat (j := 1) rfl) _ ?_
      have hc2 : ([d] : List Nat)[p']? = some c := hc'
      have hp0 : p' = 0 := by
        have := get_lt hc2
        rw [List.length_singleton] at this
        omega
      subst hp0
      have : d = c := Option.some.inj hc2
      subst this
      exact q _ s12
    | jn i j =>
      obtain ⟨t1, t2, h1, h2, rfl⟩ := hf'
      obtain ⟨x4, hx4, h1', hi⟩ := hget h1
      obtain ⟨x5, hx5, h2', hj⟩ := hget h2
      refine a_ne (b := true) (v_ixT (vx 5) vc (sqT hb') (atI_nat (j := 0) rfl)) vc rfl (by decide) _ ?_
      refine iteT ⟨fun σ' H'' => ∃ m', m' < m ∧ (H'' = H' ∧ ∃ (p' k : Nat) (y : V) (x : Addr) (t' : Tr), σ' = [some (.ref a), some (.int (n : Int)), some (.int (p' : Int)), some y, some (.ref l), some (.ref x)] ∧ m' = k ∧ ts[k]? = some t' ∧ t'.txt[p']? = some c ∧ us[k]? = some (.ref x)), fun _ _ z => z, ?_⟩
      refine v_ixL (vx 4) (v_ixT (vx 5) vc (sqT hb') (atI_nat (j := 1) rfl)) (sqL hl) (at_nV (lens_get h1')) _ ?_
      refine s_no (a_eq (v_ixT (vx 5) vc (sqT hb') (atI_nat (j := 0) rfl)) vc rfl (by decide)) ?_
      have hc2 : (t1.txt ++ t2.txt)[p']? = some c := hc'
      refine ⟨.int (p' : Int), rfl, .int (t1.len : Int), rfl, (p' : Int), (t1.len : Int), rfl, rfl, _, rfl, ?_⟩
      by_cases hlt : p' < t1.len
      · rw [intd (show (p' : Int) < (t1.len : Int) by omega)]
        refine iteT ?_
        refine v_ixT (vx 0) (v_ixT (vx 5) vc (sqT hb') (atI_nat (j := 1) rfl)) (sqT ha) (atI_nat hx4) _ ?_
        rw [List.getElem?_append_left hlt] at hc2
        exact ⟨i, hi, rfl, p', i, _, x4, t1, rfl, rfl, h1', hc2, hx4⟩
      · rw [intn (show ¬ (p' : Int) < (t1.len : Int) by omega)]
        refine iteF ⟨.int (p' : Int), rfl, .int (t1.len : Int), rfl, (p' : Int), (t1.len : Int), rfl, rfl, ?_⟩
        refine v_ixT (vx 0) (v_ixT (vx 5) vc (sqT hb') (atI_nat (j := 2) rfl)) (sqT ha) (atI_nat hx5) _ ?_
        have hge : t1.txt.length ≤ p' := Nat.le_of_not_lt hlt
        rw [List.getElem?_append_right hge] at hc2
        refine ⟨j, hj, rfl, p' - t1.len, j, .int (t1.len : Int), x5, t2, ?_, rfl, h2', hc2, hx5⟩
        have e : ((p' : Int) - (t1.len : Int)) = ((p' - t1.len : Nat) : Int) := by
          have : t1.len ≤ p' := hge
          omega
        rw [← e]
        rfl
    | tm i k2 =>
      obtain ⟨t1, rfl, h1, rfl⟩ := hf'
      obtain ⟨x4, hx4, h1', hi⟩ := hget h1
      have pos := t1.len_pos
      refine a_ne (b := true) (v_ixT (vx 5) vc (sqT hb') (atI_nat (j := 0) rfl)) vc rfl (by decide) _ ?_
      refine iteT ⟨fun σ' H'' => ∃ m', m' < m ∧ (H'' = H' ∧ ∃ (p' k : Nat) (y : V) (x : Addr) (t' : Tr), σ' = [some (.ref a), some (.int (n : Int)), some (.int (p' : Int)), some y, some (.ref l), some (.ref x)] ∧ m' = k ∧ ts[k]? = some t' ∧ t'.txt[p']? = some c ∧ us[k]? = some (.ref x)), fun _ _ z => z, ?_⟩
      refine v_ixL (vx 4) (v_ixT (vx 5) vc (sqT hb') (atI_nat (j := 1) rfl)) (sqL hl) (at_nV (lens_get h1')) _ ?_
      refine s_yes (a_eq (v_ixT (vx 5) vc (sqT hb') (atI_nat (j := 0) rfl)) vc rfl (by decide)) ?_
      refine ⟨.int (p' : Int), rfl, .int (t1.len : Int), rfl, (p' : Int), (t1.len : Int), rfl, rfl, by omega, ?_⟩
      refine v_ixT (vx 0) (v_ixT (vx 5) vc (sqT hb') (atI_nat (j := 1) rfl)) (sqT ha) (atI_nat hx4) _ ?_
      have hc2 : (t1.txt ++ t1.txt)[p']? = some c := hc'
      refine ⟨i, hi, rfl, p' % t1.len, i, .int (t1.len : Int), x4, t1, ?_, rfl, h1', mod_app hc2, hx4⟩
      have e : ((p' : Int) % (t1.len : Int)) = ((p' % t1.len : Nat) : Int) := (Int.natCast_emod _ _).symm
      rw [← e]
      rfl
end
end Sb
set_option Elab.async false
set_option linter.all false
set_option maxRecDepth 100000
set_option maxHeartbeats 4000000
/-! What a statement makes of one text or of two. -/
namespace Sb
open PySem PySem.Spec PyProof.Rows L2
/-- a whole text's copy -/
def Tr.wh : Tr → Tr
  | .sg c => .sg c
  | .jn a b => .jn a b
  | .db a => .jn a a
theorem Tr.wh_txt (t : Tr) : t.wh.txt = t.txt := by cases t <;> rfl
theorem Tr.wh_len (t : Tr) : t.wh.len = t.len := by
  unfold Tr.len
  rw [t.wh_txt]
theorem RT.join {rs : List Rl} {ts : List Tr} {i j : Nat} {a b : Tr} (h : RT rs ts) (hi : ts[i]? = some a) (hj : ts[j]? = some b) : RT (rs ++ [.jn i j]) (ts ++ [.jn a b]) := h.snoc ⟨a, b, hi, hj, rfl⟩
theorem RT.whole {rs : List Rl} {ts : List Tr} {n : Nat} {r : Rl} {t : Tr} (h : RT rs ts) (hr : rs[n]? = some r) (ht : ts[n]? = some t) :
    ∃ (ts' : List Tr) (n' : Nat), RT (wholeR rs r n).1 ts' ∧ (wholeR rs r n).2 = some n' ∧ ts'[n']? = some t.wh ∧ (∀ x ∈ ts', x ∈ ts ∨ x = t.wh) ∧ (wholeR rs r n).1.length ≤ rs.length + 1 ∧ (∀ (k : Nat) (x : Tr), ts[k]? = some x → ts'[k]? = some x) ∧ (∀ (k : Nat) (x : Rl), rs[k]? = some x → (wholeR rs r n).1[k]? = some x) := by
  obtain ⟨u, hu, f⟩ := h.fit hr
  rw [ht] at hu
  cases hu
  have le1 : ∀ s : Rl, (rs ++ [s]).length ≤ rs.length + 1 := fun s => by rw [List.length_append, List.length_singleton]; omega
  cases r with
  | sg c =>
    have e : t = .sg c := f.2
    subst e
    exact ⟨ts, n, h, rfl, ht, fun x hx => .inl hx, Nat.le_succ _, fun _ _ z => z, fun _ _ z => z⟩
  | jn i j =>
    obtain ⟨a, b, h1, h2, rfl⟩ := f
    refine ⟨ts ++ [Tr.jn a b], rs.length, h.join h1 h2, rfl, by rw [h.len]; exact get_snoc, fun x hx => ?_, le1 _, fun _ _ z => get_app z, fun _ _ z => get_app z⟩
    rcases List.mem_append.mp hx with z | z
    · exact .inl z
    · exact .inr (List.mem_singleton.mp z)
  | tm i m =>
    obtain ⟨a, rfl, h2, rfl⟩ := f
    refine ⟨ts ++ [Tr.jn a a], rs.length, h.join h2 h2, rfl, by rw [h.len]; exact get_snoc, fun x hx => ?_, le1 _, fun _ _ z => get_app z, fun _ _ z => get_app z⟩
    rcases List.mem_append.mp hx with z | z
    · exact .inl z
    · exact .inr (List.mem_singleton.mp z)
/-- rules that tell a text, all of their trees in U -/
def Src (H : Hp) (v : V) (U : List Tr) (rs : List Rl) (ts : List Tr) (n : Nat) (t : Tr) : Prop := PairR H v rs (some n) ∧ RT rs ts ∧ rs.length ≤ 10000 ∧ ts[n]? = some t ∧ ∀ x ∈ ts, x ∈ U
theorem Src.mono {H H' : Hp} {v : V} {U : List Tr} {rs : List Rl} {ts : List Tr} {n : Nat} {t : Tr} (s : Same H H') (h : Src H v U rs ts n t) : Src H' v U rs ts n t := ⟨h.1.mono s, h.2⟩
/-- what is made: rules that tell the text x, few new trees among theirs -/
def Made (H : Hp) (Q : VK) (U : List Tr) (x : List Nat) : Prop := ∀ (v' : V) (H' : Hp) (rs : List Rl) (ts : List Tr) (n : Nat) (t : Tr) (Vn : List Tr), Same H H' → PairR H' v' rs (some n) → RT rs ts → rs.length ≤ 40000 → ts[n]? = some t → t.txt = x → Vn.length ≤ 7 → (∀ y ∈ Vn, y.len ≤ x.length) → (∀ y ∈ ts, y ∈ U ∨ (∃ z ∈ U, y = Tr.rev z) ∨ y ∈ Vn) → Q v' H'
section
variable {P : Program} {w : World} {K : PySem.W.Frag} {mg : Str → Option Value} {base : Heap}
def sp_side_by_side : Sp := fun vs H Q _ => ∃ (v1 v2 : V) (U : List Tr) (rs1 rs2 : List Rl) (ts1 ts2 : List Tr) (n1 n2 : Nat) (t1 t2 : Tr), vs = [v1, v2] ∧ Src H v1 U rs1 ts1 n1 t1 ∧ Src H v2 U rs2 ts2 n2 t2 ∧
  ∀ a u H', Same H H' → H' a = some (.tup [u, .int (n1 : Int), .int ((rs1.length + n2 : Nat) : Int)]) → RsT H' u (rs1 ++ rs2.map (Rl.up rs1.length)) → Q (.ref a) H'
theorem ok_side_by_side (T : Hd K mg) : Own P w K mg base "side_by_side" ["one", "other"] 3 sp_side_by_side := by
  refine own_mk T.d_side_by_side sc_side_by_side (fun vs H Q E h => ?_) (fun _ _ _ _ _ _ us hl => match us, hl with | [_, _], _ => rfl) (fun fa cdv A outer s H vs Q E hr h => ⟨_, (pss_cons (ps_asg (pe_own (ok_brought T) (hr.mono (by decide)) (by rfl) (pa_cons (pe_ix ix_tup (pv 0) pe_int (fun _ _ => rfl)) (pa_cons (pe_ix ix_tup (pv 1) pe_int (fun _ _ => rfl)) (pa_cons (pe_ix ix_tup (pv 1) pe_int (fun _ _ => rfl)) pa_nil)))) (pg_tup rfl (pgs_cons (pg_name (i := 2) sc_side_by_side.nd rfl (Or.inl rfl)) (pgs_cons (pg_name (i := 3) sc_side_by_side.nd rfl (Or.inl rfl)) pgs_nil))))
      (pss_one (ps_ret (pe_tup (pa_cons (pv 2) (pa_cons (pe_ix ix_tup (pv 0) pe_int (fun _ _ => rfl)) (pa_cons (pv 3) pa_nil))))))), ?_⟩)
  · obtain ⟨v1, v2, U, rs1, rs2, ts1, ts2, n1, n2, t1, t2, rfl, _⟩ := h
    rfl
  · obtain ⟨v1, v2, U, rs1, rs2, ts1, ts2, n1, n2, t1, t2, rfl, S1, S2, q⟩ := h
    obtain ⟨⟨a1, u1, rfl, ha1, hu1⟩, hT1, hz1, ht1, _⟩ := S1
    obtain ⟨⟨a2, u2, rfl, ha2, hu2⟩, hT2, hz2, ht2, _⟩ := S2
    refine v_ixT (vx 0) vc (sqT ha1) (atI_nat (j := 0) rfl) _ ?_
    refine v_ixT (vx 1) vc (sqT ha2) (atI_nat (j := 0) rfl) _ ?_
    refine v_ixT (vx 1) vc (sqT ha2) (atI_nat (j := 1) rfl) _ ?_
    refine ⟨u1, u2, rs1, rs2, ts2, some n2, rfl, hu1, hu2, hT2, by omega, by omega, by show n2 < rs2.length; rw [hT2.len]; exact get_lt ht2, fun v' H1 s1 hp => ?_⟩
    obtain ⟨b, u, rfl, hb, hu⟩ := hp
    refine ⟨b, _, rfl, sqT hb, rfl, u, _, rfl, _, [], rfl, rfl, ?_⟩
    refine ⟨u, rfl, ?_⟩
    refine v_ixT (vx 0) vc (sqT (s1 _ _ ha1)) (atI_nat (j := 1) rfl) _ ?_
    refine ⟨_, rfl, by show 3 ≤ sizeLine; decide, fun d nd => ?_⟩
    have s2 := same_new (o := HO.tup [u, nmV (some n1), nmV (upO rs1.length (some n2))]) nd
    exact q d u _ (s1.trans s2) upd_same (hu.mono s2)
def sp_put_in : Sp := fun vs H Q _ => ∃ (v1 v2 : V) (p : Nat) (U : List Tr) (rs1 rs2 : List Rl) (ts1 ts2 : List Tr) (n1 n2 : Nat) (t1 t2 : Tr), vs = [v1, .int (p : Int), v2] ∧ Src H v1 U rs1 ts1 n1 t1 ∧ Src H v2 U rs2 ts2 n2 t2 ∧ t1.len + t2.len ≤ 2 ^ 60 ∧
  ((p = 0 ∧ Made H Q U (t2.txt ++ t1.txt)) ∨ (p = t1.len ∧ Made H Q U (t1.txt ++ t2.txt)))
theorem ok_put_in (T : Hd K mg) : Own P w K mg base "put_in" ["one", "place", "other"] 6 sp_put_in := by
  refine own_mk T.d_put_in sc_put_in (fun vs H Q E h => ?_) (fun _ _ _ _ _ _ us hl => match us, hl with | [_, _, _], _ => rfl) (fun fa cdv A outer s H vs Q E hr h => ⟨_, (pss_cons (ps_asg (pe_own (ok_side_by_side T) (hr.mono (by decide)) (by rfl) (pa_cons (pv 0) (pa_cons (pv 2) pa_nil))) (pg_tup rfl (pgs_cons (pg_name (i := 3) sc_put_in.nd rfl (Or.inl rfl)) (pgs_cons (pg_name (i := 4) sc_put_in.nd rfl (Or.inl rfl)) (pgs_cons (pg_name (i := 5) sc_put_in.nd rfl (Or.inl rfl)) pgs_nil)))))
      (pss_cons (ps_set (i := 6) sc_put_in.nd rfl (Or.inl rfl) (pe_own (ok_length T) (hr.mono (by decide)) (by rfl) (pa_cons (pv 3) (pa_cons (pv 4) pa_nil))))
      (pss_cons (ps_asg (pe_own (ok_cut T) (hr.mono (by decide)) (by rfl) (pa_cons (pv 3) (pa_cons (pv 4) (pa_cons pe_int (pa_cons (pv 1) pa_nil))))) (pg_tup rfl (pgs_cons (pg_name (i := 3) sc_put_in.nd rfl (Or.inl rfl)) (pgs_cons (pg_name (i := 7) sc_put_in.nd rfl (Or.inl rfl)) pgs_nil))))
      (pss_cons (ps_asg (pe_own (ok_cut T) (hr.mono (by decide)) (by rfl) (pa_cons (pv 3) (pa_cons (pv 4) (pa_cons (pv 1) (pa_cons (pv 6) pa_nil))))) (pg_tup rfl (pgs_cons (pg_name (i := 3) sc_put_in.nd rfl (Or.inl rfl)) (pgs_cons (pg_name (i := 8) sc_put_in.nd rfl (Or.inl rfl)) pgs_nil))))
      (pss_cons (ps_asg (pe_own (ok_joined T) (hr.mono (by decide)) (by rfl) (pa_cons (pv 3) (pa_cons (pv 7) (pa_cons (pv 5) pa_nil)))) (pg_tup rfl (pgs_cons (pg_name (i := 3) sc_put_in.nd rfl (Or.inl rfl)) (pgs_cons (pg_name (i := 9) sc_put_in.nd rfl (Or.inl rfl)) pgs_nil))))
      (pss_one (ps_ret (pe_own (ok_joined T) (hr.mono (by decide)) (by rfl) (pa_cons (pv 3) (pa_cons (pv 9) (pa_cons (pv 8) pa_nil))))))))))), ?_⟩)
  · obtain ⟨v1, v2, p, U, rs1, rs2, ts1, ts2, n1, n2, t1, t2, rfl, _⟩ := h
    rfl
  · obtain ⟨v1, v2, p, U, rs1, rs2, ts1, ts2, n1, n2, t1, t2, rfl, S1, S2, h60, hq⟩ := h
    have hT1 := S1.2.1
    have hT2 := S2.2.1
    have hz1 := S1.2.2.1
    have hz2 := S2.2.2.1
    have ht1 := S1.2.2.2.1
    have ht2 := S2.2.2.2.1
    have hU1 := S1.2.2.2.2
    have hU2 := S2.2.2.2.2
    refine ⟨v1, rfl, v2, rfl, v1, v2, U, rs1, rs2, ts1, ts2, n1, n2, t1, t2, rfl, S1, S2, fun a u H1 s1 ha hu => ?_⟩
    -- both side by side
    have hT := hT1.bring hT2
    generalize hrs : rs1 ++ rs2.map (Rl.up rs1.length) = rs at hu hT
    generalize hts : ts1 ++ ts2 = ts at hT
    have hrl : rs.length = rs1.length + rs2.length := by rw [← hrs, List.length_append, List.length_map]
    have htn : ts[n1]? = some t1 := by rw [← hts]; exact get_app ht1
    have htm : ts[rs1.length + n2]? = some t2 := by rw [← hts, hT1.len]; exact get_up ht2
    have hUt : ∀ x ∈ ts, x ∈ U := fun x hx => by
      rw [← hts] at hx
      rcases List.mem_append.mp hx with z | z
      · exact hU1 x z
      · exact hU2 x z
    generalize rs1.length + n2 = mid at *
    have hR : RsU H1 u rs ts := ⟨hu, hT, by omega⟩
    refine ⟨a, _, rfl, sqT ha, rfl, u, _, rfl, _, _, rfl, _, [], rfl, rfl, ?_⟩
    refine ⟨u, rfl, .int (n1 : Int), rfl, u, rs, ts, some n1, t1.len, rfl, hR, ⟨t1, htn, rfl⟩, fun H2 s2 => ?_⟩
    obtain ⟨r, hr1, _⟩ := hT.at htn
    obtain ⟨ts', n', hTw, en, htw, hsub, hlw, kt, kr⟩ := hT.whole hr1 htn
    have pos1 := t1.len_pos
    have lw := t1.wh_len
    have hzw : (wholeR rs r n1).1.length ≤ 50000 := by omega
    have allU : ∀ (t' : Tr) (y : Tr), y ∈ ts' ++ [t'] → y ∈ U ∨ (∃ z ∈ U, y = Tr.rev z) ∨ y ∈ [t1.wh, t'] := fun t' y hy => by
      rcases List.mem_append.mp hy with z | z
      · rcases hsub y z with z2 | z2
        · exact .inl (hUt y z2)
        · exact .inr (.inr (List.mem_cons.mpr (.inl z2)))
      · exact .inr (.inr (List.mem_cons_of_mem _ z))
    rcases hq with ⟨rfl, q⟩ | ⟨rfl, q⟩
    · -- at the beginning: no head, the whole text the tail
      refine ⟨u, rfl, .int (n1 : Int), rfl, .int 0, rfl, u, rs, ts, n1, 0, 0, r, t1, rfl, hR.mono s2, hr1, htn, by omega, .inl ⟨rfl, Nat.zero_le _, fun v3 H3 s3 p3 => ?_⟩⟩
      obtain ⟨a3, u3, rfl, ha3, hu3⟩ := p3
      refine ⟨a3, _, rfl, sqT ha3, rfl, u3, _, rfl, _, [], rfl, rfl, ?_⟩
      refine ⟨u3, rfl, .int (n1 : Int), rfl, .int 0, rfl, .int (t1.len : Int), rfl, u3, rs, ts, n1, 0, t1.len, r, t1, rfl, ⟨hu3, hT, hR.2.2⟩, hr1, htn, by omega, .inr ⟨rfl, rfl, fun v4 H4 s4 p4 => ?_⟩⟩
      rw [en] at p4
      obtain ⟨a4, u4, rfl, ha4, hu4⟩ := p4
      refine ⟨a4, _, rfl, sqT ha4, rfl, u4, _, rfl, _, [], rfl, rfl, ?_⟩
      have hR4 : RsU H4 u4 (wholeR rs r n1).1 ts' := ⟨hu4, hTw, hzw⟩
      refine ⟨u4, rfl, .non, rfl, .int (mid : Int), rfl, u4, _, ts', none, some mid, 0, t2.len, rfl, hR4, rfl, ⟨t2, kt _ _ htm, rfl⟩, by omega, fun v5 H5 s5 p5 => ?_⟩
      obtain ⟨a5, u5, rfl, ha5, hu5⟩ := p5
      refine ⟨a5, _, rfl, sqT ha5, rfl, u5, _, rfl, _, [], rfl, rfl, ?_⟩
      refine ⟨u5, rfl, .int (mid : Int), rfl, .int (n' : Int), rfl, u5, _, ts', some mid, some n', t2.len, t1.wh.len, rfl, ⟨hu5, hTw, hzw⟩, ⟨t2, kt _ _ htm, rfl⟩, ⟨_, htw, rfl⟩, by omega, fun v6 H6 s6 p6 => ?_⟩
      have hT6 := hTw.join (kt _ _ htm) htw
      refine q v6 H6 _ _ _ _ [t1.wh, .jn t2 t1.wh] (((((s1.trans s2).trans s3).trans s4).trans s5).trans s6) p6 hT6 ?_ (by show (ts' ++ [Tr.jn t2 t1.wh])[(wholeR rs r n1).1.length]? = _; rw [hTw.len]; exact get_snoc) ?_ (by show 2 ≤ 7; decide) ?_ (allU _)
      · show ((wholeR rs r n1).1 ++ [Rl.jn mid n']).length ≤ 40000
        rw [List.length_append, List.length_singleton]
        omega
      · show t2.txt ++ t1.wh.txt = _
        rw [t1.wh_txt]
      · intro y hy
        rw [List.length_append]
        show y.len ≤ t2.len + t1.len
        rcases List.mem_cons.mp hy with z | z
        · rw [z]
          omega
        · rw [List.mem_singleton.mp z, Tr.len_jn]
          omega
    · -- at the end: the whole text the head, no tail
      refine ⟨u, rfl, .int (n1 : Int), rfl, .int (t1.len : Int), rfl, u, rs, ts, n1, 0, t1.len, r, t1, rfl, hR.mono s2, hr1, htn, by omega, .inr ⟨rfl, rfl, fun v3 H3 s3 p3 => ?_⟩⟩
      rw [en] at p3
      obtain ⟨a3, u3, rfl, ha3, hu3⟩ := p3
      refine ⟨a3, _, rfl, sqT ha3, rfl, u3, _, rfl, _, [], rfl, rfl, ?_⟩
      refine ⟨u3, rfl, .int (n1 : Int), rfl, .int (t1.len : Int), rfl, .int (t1.len : Int), rfl, u3, _, ts', n1, t1.len, t1.len, r, t1, rfl, ⟨hu3, hTw, hzw⟩, kr _ _ hr1, kt _ _ htn, by omega, .inl ⟨rfl, Nat.le_refl _, fun v4 H4 s4 p4 => ?_⟩⟩
      obtain ⟨a4, u4, rfl, ha4, hu4⟩ := p4
      refine ⟨a4, _, rfl, sqT ha4, rfl, u4, _, rfl, _, [], rfl, rfl, ?_⟩
      refine ⟨u4, rfl, .int (n' : Int), rfl, .int (mid : Int), rfl, u4, _, ts', some n', some mid, t1.wh.len, t2.len, rfl, ⟨hu4, hTw, hzw⟩, ⟨_, htw, rfl⟩, ⟨t2, kt _ _ htm, rfl⟩, by omega, fun v5 H5 s5 p5 => ?_⟩
      obtain ⟨a5, u5, rfl, ha5, hu5⟩ := p5
      have hT5 := hTw.join htw (kt _ _ htm)
      have hl5 : ((wholeR rs r n1).1 ++ [Rl.jn n' mid]).length ≤ 40000 := by
        rw [List.length_append, List.length_singleton]
        omega
      have ht5 : (ts' ++ [Tr.jn t1.wh t2])[(wholeR rs r n1).1.length]? = some (.jn t1.wh t2) := by rw [hTw.len]; exact get_snoc
      refine ⟨a5, _, rfl, sqT ha5, rfl, u5, _, rfl, _, [], rfl, rfl, ?_⟩
      refine ⟨u5, rfl, .int ((wholeR rs r n1).1.length : Int), rfl, .non, rfl, u5, _, _, some (wholeR rs r n1).1.length, none, (Tr.jn t1.wh t2).len, 0, rfl, ⟨hu5, hT5, Nat.le_trans hl5 (by decide)⟩, ⟨_, ht5, rfl⟩, rfl, by rw [Tr.len_jn]; omega, fun v6 H6 s6 p6 => ?_⟩
      refine q v6 H6 _ _ _ _ [t1.wh, .jn t1.wh t2] (((((s1.trans s2).trans s3).trans s4).trans s5).trans s6) p6 hT5 hl5 ht5 ?_ (by show 2 ≤ 7; decide) ?_ (allU _)
      · show t1.wh.txt ++ t2.txt = _
        rw [t1.wh_txt]
      · intro y hy
        rw [List.length_append]
        show y.len ≤ t1.len + t2.len
        rcases List.mem_cons.mp hy with z | z
        · rw [z]
          omega
        · rw [List.mem_singleton.mp z, Tr.len_jn]
          omega
end
end Sb
set_option Elab.async false
set_option linter.all false
set_option maxRecDepth 100000
set_option maxHeartbeats 4000000
set_option pp.maxSteps 300
/-! A text spelled by rules. -/
namespace Sb
open PySem PySem.Spec PyProof.Rows L2
theorem rg2 {L : Nat} (h1 : 2 ≤ L) (h2 : L ≤ 4) : RgC 0 ((L : Int) - 1) 2 (L / 2) := by
  rcases (show L = 2 ∨ L = 3 ∨ L = 4 by omega) with h | h | h <;> subst h <;> exact ⟨by decide, by decide, by decide +kernel, by decide +kernel⟩
/-- the trees that the names tell -/
abbrev AtT (ts : List Tr) : List Nat → List Tr → Prop := Paired fun n u => ts[n]? = some u
theorem AtT.app {ts : List Tr} {ns : List Nat} {us : List Tr} (m : List Tr) (h : AtT ts ns us) : AtT (ts ++ m) ns us := Paired.mapP h fun _ _ e => get_app e
def flat (us : List Tr) : List Nat := us.flatMap Tr.txt
theorem flat_app (us vs : List Tr) : flat (us ++ vs) = flat us ++ flat vs := List.flatMap_append
theorem flat_one (t : Tr) : flat [t] = t.txt := by
  unfold flat
  rw [List.flatMap_cons, List.flatMap_nil, List.append_nil]
theorem flat_sg : ∀ s : List Nat, flat (s.map Tr.sg) = s
  | [] => rfl
  | c :: s => by
    show (Tr.sg c).txt ++ flat (s.map Tr.sg) = c :: s
    rw [flat_sg s]
    rfl
theorem AtT.range (s : List Nat) : AtT (s.map Tr.sg) (List.range s.length) (s.map Tr.sg) := by
  have aux : ∀ (n : Nat) (l : List Tr) (k : Nat), (∀ i, i < l.length → (s.map Tr.sg)[k + i]? = l[i]?) → AtT (s.map Tr.sg) ((List.range' k l.length)) l := by
    intro n l
    induction l with
    | nil => intro k _; exact .nil
    | cons x l ih =>
      intro k h
      refine .cons ?_ (ih (k + 1) fun i hi => ?_)
      · have := h 0 (by simp)
        simpa using this
      · have := h (i + 1) (by simp; omega)
        simpa [Nat.add_assoc, Nat.add_comm 1 i] using this
  have := aux 0 (s.map Tr.sg) 0 fun i _ => by rw [Nat.zero_add]
  rw [List.length_map, ← List.range_eq_range'] at this
  exact this
theorem len_mem {us : List Tr} {t : Tr} (h : t ∈ us) : t.len ≤ (flat us).length := by
  induction us with
  | nil => cases h
  | cons u us ih =>
    show t.len ≤ (u.txt ++ flat us).length
    rw [List.length_append]
    rcases List.mem_cons.mp h with e | e
    · rw [e]
      show u.txt.length ≤ _
      omega
    · have := ih e
      omega
section
variable {P : Program} {w : World} {K : PySem.W.Frag} {mg : Str → Option Value} {base : Heap}
def sp_spelled_rules : Sp := fun vs H Q _ => ∃ (s : List Nat) (U : List Tr), vs = [.str (tx s)] ∧ s ≠ [] ∧ s.length ≤ 4 ∧ (∀ c ∈ s, OkC c) ∧ Made H Q U s
theorem ok_spelled_rules (T : Hd K mg) : Own P w K mg base "spelled_rules" ["signs"] 1 sp_spelled_rules := by
  refine own_mk T.d_spelled_rules sc_spelled_rules (fun vs H Q E h => ?_) (fun _ _ _ _ _ _ us hl => match us, hl with | [_], _ => rfl) (fun fa cdv A outer s H vs Q E hr h => ⟨_, (pss_cons (ps_set (i := 1) sc_spelled_rules.nd rfl (Or.inl rfl) (pe_tup pa_nil))
      (pss_cons (ps_set (i := 2) sc_spelled_rules.nd rfl (Or.inl rfl) (pe_lst pa_nil))
      (pss_cons (ps_for PassesOwn.never rfl (pi_str (pv 0)) (pg_name (i := 3) sc_spelled_rules.nd rfl (Or.inl rfl)) (pss_cons (ps_expr (pe_bm PySem.F.plainAttrs_list PySem.F.slot_list_append PySem.F.type_list_append mt_append (pv 2) (pa_cons (pe_callB call_len_seq (by rfl) T.z_len (by decide +kernel) (pa_cons (pv 1) pa_nil)) pa_nil)))
      (pss_one (ps_set (i := 1) sc_spelled_rules.nd rfl (Or.inl rfl) (pe_op op_catA (pv 1) (pe_tup (pa_cons (pe_tup (pa_cons pe_str (pa_cons (pv 3) pa_nil))) pa_nil)))))))
      (pss_cons (ps_while PassesOwn.never (pt_cmpR op_gt (pe_callB call_len_seq (by rfl) T.z_len (by decide +kernel) (pa_cons (pv 2) pa_nil)) pe_int (nomark _)) (pss_cons (ps_set (i := 4) sc_spelled_rules.nd rfl (Or.inl rfl) (pe_lst pa_nil))
      (pss_cons (ps_for PassesOwn.never rfl (pi_range3 (by rfl) T.z_range (pa_cons pe_int (pa_cons (pe_op op_sub (pe_callB call_len_seq (by rfl) T.z_len (by decide +kernel) (pa_cons (pv 2) pa_nil)) pe_int) (pa_cons pe_int pa_nil)))) (pg_name (i := 5) sc_spelled_rules.nd rfl (Or.inl rfl)) (pss_cons (ps_expr (pe_bm PySem.F.plainAttrs_list PySem.F.slot_list_append PySem.F.type_list_append mt_append (pv 4) (pa_cons (pe_callB call_len_seq (by rfl) T.z_len (by decide +kernel) (pa_cons (pv 1) pa_nil)) pa_nil)))
      (pss_one (ps_set (i := 1) sc_spelled_rules.nd rfl (Or.inl rfl) (pe_op op_catA (pv 1) (pe_tup (pa_cons (pe_tup (pa_cons pe_str (pa_cons (pe_ix ix_list (pv 2) (pv 5) (fun _ _ => rfl)) (pa_cons (pe_ix ix_list (pv 2) (pe_op op_add (pv 5) pe_int) (fun _ _ => rfl)) pa_nil)))) pa_nil)))))))
      (pss_cons (ps_if (pt_cmpR op_eq (pe_op op_mod (pe_callB call_len_seq (by rfl) T.z_len (by decide +kernel) (pa_cons (pv 2) pa_nil)) pe_int) pe_int (nomark _)) (pss_one (ps_expr (pe_bm PySem.F.plainAttrs_list PySem.F.slot_list_append PySem.F.type_list_append mt_append (pv 4) (pa_cons (pe_ix ix_list (pv 2) (pe_un un_neg pe_int) (fun _ _ => rfl)) pa_nil)))) pss_nil)
      (pss_one (ps_set (i := 2) sc_spelled_rules.nd rfl (Or.inl rfl) (pv 4)))))))
      (pss_one (ps_ret (pe_tup (pa_cons (pv 1) (pa_cons (pe_ix ix_list (pv 2) pe_int (fun _ _ => rfl)) pa_nil))))))))), ?_⟩)
  · obtain ⟨s, U, rfl, _⟩ := h
    rfl
  · obtain ⟨s, U, rfl, hne, h4, hok, q⟩ := h
    refine ⟨Nat.zero_le _, fun a0 na0 => ?_⟩
    have s0 := same_new (o := HO.tup []) na0
    refine ⟨Nat.zero_le _, fun pn npn => ?_⟩
    have s1 := same_new (o := HO.lst []) npn
    have npn0 := s0.free npn
    refine ⟨.str (tx s), rfl, tx s, rfl, for_it (walk_str (z := tx s)) (fun i σ H' => ∃ a us y3, σ = [some (.str (tx s)), some (.ref a), some (.ref pn), y3, none, none] ∧ Same H H' ∧ H' a = some (.tup us) ∧ Rows H' us ((s.take i).map Rl.sg) ∧ RT ((s.take i).map Rl.sg) ((s.take i).map Tr.sg) ∧ H' pn = some (.lst (nV (List.range i))))
      ⟨a0, [], none, rfl, s0.trans s1, s1 _ _ upd_same, .nil, .nil, upd_same⟩ (fun _ _ _ _ _ => trivial) ?_ ?_⟩
    · rintro i x σ H1 H1' hi ⟨a, us, y3, rfl, sH, ha, hr, hT, hn⟩ ⟨rfl, c, hc, rfl⟩
      rw [tx_get] at hc
      have his : i < s.length := get_lt hc
      have hul : us.length = i := by
        rw [Paired.length hr, List.length_map, List.length_take]
        omega
      refine ⟨.ref pn, rfl, .inl ⟨rfl, _, sqL hn⟩, .ref a, rfl, a, us, rfl, .inr (sqT ha), pn, _, _, rfl, rfl, hn, szt (by rw [nV_len, List.length_range]; omega), ?_⟩
      have kp : ∀ {d : Addr} {xs : List V}, H1' d = some (.tup xs) → (upd H1' pn (.lst (nV (List.range i) ++ [.int (us.length : Int)]))) d = some (.tup xs) := fun h => by
        rw [upd_ne (ne_of h hn (by intro z; cases z))]
        exact h
      refine ⟨.ref a, rfl, .str (ch c), rfl, by show 2 ≤ sizeLine; decide, fun b nb => ?_⟩
      have sb := same_new (o := HO.tup [.str "sign", .str (ch c)]) nb
      refine ⟨by show 1 ≤ sizeLine; decide, fun d nd => ?_⟩
      have sd := same_new (o := HO.tup [.ref b]) nd
      refine v_cat (K := K) ((sb.trans sd) _ _ (kp ha)) upd_same (szl (by rw [hul]; show i + 1 ≤ 200000; omega)) fun a' H' s' ha' => ?_
      have sall := (sb.trans sd).trans s'
      refine ⟨a', us ++ [.ref b], _, rfl, (Same.mut sH npn0).trans sall, ha', ?_, ?_, ?_⟩
      · rw [take_snoc hc, List.map_append]
        refine P_app (Paired.mapP hr fun v r ⟨e, he, h1⟩ => ⟨e, he, sall _ _ (kp h1)⟩) (P_one ⟨b, rfl, s' _ _ (sd _ _ upd_same)⟩)
      · rw [take_snoc hc, List.map_append, List.map_append]
        exact hT.snoc ⟨hok c (List.mem_of_getElem? hc), rfl⟩
      · have e := sall _ _ (show (upd H1' pn (.lst (nV (List.range i) ++ [.int (us.length : Int)]))) pn = _ from upd_same)
        rw [e, List.range_succ, nV_app, hul]
        rfl
    · rintro σ H1 ⟨a, us, y3, rfl, sH, ha, hr, hT, hn⟩
      rw [tx_size] at hr hT hn
      rw [List.take_length] at hr hT
      refine ⟨fun m σ H' => ∃ a pn ns rs ts us vs y3 y4 y5, σ = [some (.str (tx s)), some (.ref a), some (.ref pn), y3, y4, y5] ∧ Same H H' ∧ H' a = some (.tup vs) ∧ Rows H' vs rs ∧ RT rs ts ∧ H' pn = some (.lst (nV ns)) ∧ AtT ts ns us ∧ flat us = s ∧ ns ≠ [] ∧ ns.length ≤ 4 ∧ rs.length + ns.length = 2 * s.length ∧ (∀ x ∈ ts, x.len ≤ s.length) ∧ m = ns.length,
        ⟨s.length, a, pn, List.range s.length, s.map Rl.sg, s.map Tr.sg, s.map Tr.sg, us, y3, none, none, rfl, sH, ha, hr, hT, hn, AtT.range s, flat_sg s, ?_, ?_, ?_, ?_, ?_⟩, ?_⟩
      · intro e
        have := congrArg List.length e
        rw [List.length_range] at this
        exact hne (List.length_eq_zero_iff.mp this)
      · rw [List.length_range]
        exact h4
      · rw [List.length_range, List.length_map]
        omega
      · intro x hx
        have := len_mem hx
        rw [flat_sg] at this
        exact this
      · rw [List.length_range]
      rintro m σ H2 ⟨a, pn, ns, rs, ts, us, vs, y3, y4, y5, rfl, sH, ha, hr, hT, hn, hA, hf, hns, hn4, hcount, hle, rfl⟩
      have hpos : 0 < ns.length := List.length_pos_iff.mpr hns
      have hul : ns.length = us.length := Paired.length hA
      have hvl : vs.length = rs.length := Paired.length hr
      refine ⟨.ref pn, rfl, pn, nV ns, rfl, .inl (sqL hn), (nV ns).length, 1, rfl, rfl, _, rfl, ?_⟩
      rw [nV_len]
      by_cases h1 : 1 < ns.length
      · rw [intd (show (1 : Int) < (ns.length : Int) by omega)]
        refine iteT ⟨fun σ' H'' => ∃ m', m' < ns.length ∧ (∃ a pn ns rs ts us vs y3 y4 y5, σ' = [some (.str (tx s)), some (.ref a), some (.ref pn), y3, y4, y5] ∧ Same H H'' ∧ H'' a = some (.tup vs) ∧ Rows H'' vs rs ∧ RT rs ts ∧ H'' pn = some (.lst (nV ns)) ∧ AtT ts ns us ∧ flat us = s ∧ ns ≠ [] ∧ ns.length ≤ 4 ∧ rs.length + ns.length = 2 * s.length ∧ (∀ x ∈ ts, x.len ≤ s.length) ∧ m' = ns.length), fun _ _ z => z, ?_⟩
        refine ⟨Nat.zero_le _, fun pa npa => ?_⟩
        have spa := same_new (o := HO.lst []) npa
        have hpan : pa ≠ pn := (ne_of_none hn npa).symm
        have npa0 := sH.free npa
        refine ⟨.ref pn, rfl, pn, nV ns, rfl, .inl (sqL (spa _ _ hn)), (nV ns).length, 1, rfl, rfl, 0, ((nV ns).length : Int) - 1, 2, ns.length / 2, rfl, by rw [nV_len]; exact rg2 (by omega) hn4, ?_⟩
        refine for_it (walk_rangeC (lo := 0) (c := 2) (n := ns.length / 2)) (fun i σ H' => ∃ a rs' ts' vs' nsa ua y5, σ = [some (.str (tx s)), some (.ref a), some (.ref pn), y3, some (.ref pa), y5] ∧ Same H H' ∧ H' a = some (.tup vs') ∧ Rows H' vs' rs' ∧ RT rs' ts' ∧ H' pn = some (.lst (nV ns)) ∧ AtT ts' ns us ∧ H' pa = some (.lst (nV nsa)) ∧ AtT ts' nsa ua ∧ nsa.length = i ∧ flat ua = flat (us.take (2 * i)) ∧ rs'.length = rs.length + i ∧ (∀ x ∈ ts', x.len ≤ s.length))
          ⟨a, rs, ts, vs, [], [], y5, rfl, sH.trans spa, spa _ _ ha, Rows.mono spa hr, hT, spa _ _ hn, hA, upd_same, .nil, rfl, rfl, rfl, hle⟩ (fun _ _ _ _ _ => trivial) ?_ ?_
        · rintro i x σ H3 H3' hi ⟨a, rs', ts', vs', nsa, ua, y5, rfl, sH3, ha3, hr3, hT3, hn3, hA3, hpa, hAa, hla, hfa, hcl, hle3⟩ ⟨rfl, hx⟩
          have hx : x = .int ((2 * i : Nat) : Int) := hx.trans (congrArg V.int (show (0 : Int) + ((i : Nat) : Int) * 2 = ((2 * i : Nat) : Int) by omega))
          subst hx
          obtain ⟨u1, hu1⟩ := get_at (l := us) (i := 2 * i) (by omega)
          obtain ⟨u2, hu2⟩ := get_at (l := us) (i := 2 * i + 1) (by omega)
          obtain ⟨n1, hn1, e1⟩ := P_get hA3 hu1
          obtain ⟨n2, hn2, e2⟩ := P_get hA3 hu2
          have hvl3 : vs'.length = rs'.length := Paired.length hr3
          refine ⟨.ref pa, rfl, .inl ⟨rfl, _, sqL hpa⟩, .ref a, rfl, a, vs', rfl, .inr (sqT ha3), pa, _, _, rfl, rfl, hpa, szt (by rw [nV_len]; omega), ?_⟩
          have kp : ∀ {d : Addr} {xs : List V}, H3' d = some (.tup xs) → (upd H3' pa (.lst (nV nsa ++ [.int (vs'.length : Int)]))) d = some (.tup xs) := fun h => by
            rw [upd_ne (ne_of h hpa (by intro z; cases z))]
            exact h
          have hn4' : (upd H3' pa (.lst (nV nsa ++ [.int (vs'.length : Int)]))) pn = some (.lst (nV ns)) := by
            rw [upd_ne hpan.symm]
            exact hn3
          refine ⟨.ref a, rfl, ?_⟩
          refine v_ixL (vx 2) (vx 5) (sqL hn4') (at_nV hn1) _ ?_
          have ei2 : ((2 * i : Nat) : Int) + 1 = ((2 * i + 1 : Nat) : Int) := by omega
          refine v_ixL (i := ((2 * i : Nat) : Int) + 1) (vx 2) (v_op (vx 5) vc fun Q q => ⟨_, _, rfl, rfl, q⟩) (sqL hn4') (by rw [ei2]; exact at_nV hn2) _ ?_
          refine ⟨by show 3 ≤ sizeLine; decide, fun b nb => ?_⟩
          have sb := same_new (o := HO.tup [.str "join", .int (n1 : Int), .int (n2 : Int)]) nb
          refine ⟨by show 1 ≤ sizeLine; decide, fun d nd => ?_⟩
          have sd := same_new (o := HO.tup [.ref b]) nd
          refine v_cat (K := K) ((sb.trans sd) _ _ (kp ha3)) upd_same (szl (by show vs'.length + 1 ≤ 200000; omega)) fun a' H' s' ha' => ?_
          have sall := (sb.trans sd).trans s'
          have hTn := hT3.join e1 e2
          refine ⟨a', rs' ++ [.jn n1 n2], ts' ++ [Tr.jn u1 u2], vs' ++ [.ref b], nsa ++ [rs'.length], ua ++ [Tr.jn u1 u2], _, rfl, (Same.mut sH3 npa0).trans sall, ha', ?_, hTn, sall _ _ hn4', hA3.app _, ?_, ?_, ?_, ?_, ?_, ?_⟩
          · exact P_app (Paired.mapP hr3 fun v r ⟨e, he, h1⟩ => ⟨e, he, sall _ _ (kp h1)⟩) (P_one ⟨b, rfl, s' _ _ (sd _ _ upd_same)⟩)
          · have e := sall _ _ (show (upd H3' pa (.lst (nV nsa ++ [.int (vs'.length : Int)]))) pa = _ from upd_same)
            rw [e, nV_app, hvl3]
            rfl
          · exact P_app (hAa.app _) (P_one (by rw [hT3.len]; exact get_snoc))
          · rw [List.length_append, List.length_singleton, hla]
          · rw [flat_app, hfa, flat_one, show 2 * (i + 1) = 2 * i + 1 + 1 by omega, take_snoc hu2, take_snoc hu1, flat_app, flat_app, flat_one, flat_one, List.append_assoc]
            rfl
          · rw [List.length_append, List.length_singleton, hcl]
            omega
          · intro x hx
            rcases List.mem_append.mp hx with z | z
            · exact hle3 x z
            · rw [List.mem_singleton.mp z]
              have h3 := List.take_append_drop (2 * i) us
              have h4 : flat us = flat (us.take (2 * i)) ++ (u1.txt ++ u2.txt) ++ flat (us.drop (2 * i + 1 + 1)) := by
                have h5 : us = us.take (2 * i + 1 + 1) ++ us.drop (2 * i + 1 + 1) := (List.take_append_drop _ us).symm
                have h6 := congrArg flat h5
                rw [flat_app, take_snoc hu2, take_snoc hu1, flat_app, flat_app, flat_one, flat_one, List.append_assoc (flat (us.take (2 * i)))] at h6
                exact h6
              have h7 := congrArg List.length h4
              rw [hf, List.length_append, List.length_append, List.length_append] at h7
              rw [Tr.len_jn]
              show u1.txt.length + u2.txt.length ≤ _
              omega
        · rintro σ H3 ⟨a, rs', ts', vs', nsa, ua, y5, rfl, sH3, ha3, hr3, hT3, hn3, hA3, hpa, hAa, hla, hfa, hcl, hle3⟩
          refine ⟨.ref pn, rfl, pn, nV ns, rfl, .inl (sqL hn3), (nV ns).length, 2, rfl, rfl, (by show (0 : Int) < 2; decide), rfl, _, rfl, ?_⟩
          rw [nV_len]
          by_cases hodd : ns.length % 2 = 1
          · rw [intd (show V.int ((ns.length : Int) % 2) = V.int 1 by rw [show ((ns.length : Int) % 2) = 1 by omega])]
            obtain ⟨ul, hul1⟩ := get_at (l := us) (i := us.length - 1) (by omega)
            obtain ⟨nl, hnl, enl⟩ := P_get hA3 hul1
            have hlast : atI (nV ns) (-1) = some (.int (nl : Int)) := by
              have e5 : ns.take (us.length - 1) ++ [nl] = ns := by rw [← take_snoc hnl, show us.length - 1 + 1 = ns.length by omega, List.take_length]
              rw [← e5, nV_app]
              exact atI_last _ _
            refine iteT ⟨.ref pa, rfl, .inl ⟨rfl, _, sqL hpa⟩, ?_⟩
            refine v_ixL (i := -1) (vx 2) (fun Q q => ⟨1, rfl, q⟩) (sqL hn3) hlast _ ?_
            refine ⟨pa, _, _, rfl, rfl, hpa, szt (by rw [nV_len]; omega), ?_⟩
            refine ⟨_, rfl, (nsa ++ [nl]).length, ?_, a, pa, nsa ++ [nl], rs', ts', ua ++ [ul], vs', y3, _, y5, rfl, Same.mut sH3 npa0, ?_, ?_, hT3, ?_, P_app hAa (P_one enl), ?_, ?_, ?_, ?_, hle3, rfl⟩
            · rw [List.length_append, List.length_singleton]
              omega
            · rw [upd_ne (ne_of ha3 hpa (by intro z; cases z))]
              exact ha3
            · exact Paired.mapP hr3 fun v r ⟨e, he, h1⟩ => ⟨e, he, by rw [upd_ne (ne_of h1 hpa (by intro z; cases z))]; exact h1⟩
            · rw [upd_same, nV_app]
              rfl
            · rw [flat_app, hfa, flat_one, ← hf]
              have h5 : us = us.take (2 * (ns.length / 2)) ++ [ul] := by
                have h6 := take_snoc hul1
                rw [show us.length - 1 + 1 = us.length by omega, List.take_length, show us.length - 1 = 2 * (ns.length / 2) by omega] at h6
                exact h6
              have h7 := congrArg flat h5
              rw [flat_app, flat_one] at h7
              exact h7.symm
            · exact List.append_ne_nil_of_right_ne_nil _ (List.cons_ne_nil _ _)
            · rw [List.length_append, List.length_singleton]
              omega
            · rw [List.length_append, List.length_singleton]
              omega
          · rw [intn (show ¬ V.int ((ns.length : Int) % 2) = V.int 1 from fun e => hodd (by have := V.int.inj e; omega))]
            refine iteF ⟨_, rfl, nsa.length, by omega, a, pa, nsa, rs', ts', ua, vs', y3, _, y5, rfl, sH3, ha3, hr3, hT3, hpa, hAa, ?_, ?_, by omega, by omega, hle3, rfl⟩
            · rw [hfa, ← hf, show 2 * (ns.length / 2) = us.length by omega, List.take_length]
            · intro e
              rw [e] at hla
              simp at hla
              omega
      · rw [intn (show ¬ (1 : Int) < (ns.length : Int) by omega)]
        obtain ⟨n0, hn0⟩ := get_at (l := ns) (i := 0) hpos
        obtain ⟨u0, hu0⟩ := get_at (l := us) (i := 0) (by omega)
        obtain ⟨n0', hn0', e0⟩ := P_get hA hu0
        rw [hn0] at hn0'
        cases hn0'
        have hus : us = [u0] := by
          match us, hul, hu0 with
          | [x], _, h => rw [Option.some.inj h]
          | [], h, _ =>
            have h : ns.length = 0 := h
            omega
          | x :: y :: r, h, _ =>
            have h : ns.length = r.length + 1 + 1 := h
            omega
        refine iteF ⟨.ref a, rfl, ?_⟩
        refine v_ixL (vx 2) vc (sqL hn) (at_nV (i := 0) hn0) _ ?_
        refine ⟨by show 2 ≤ sizeLine; decide, fun d nd => ?_⟩
        obtain ⟨s5, hp⟩ := pair_kept (o := some n0) ha hr nd
        refine q _ _ rs ts n0 u0 ts (sH.trans s5) hp hT (by omega) e0 ?_ (by rw [← hT.len]; omega) hle fun y hy => .inr (.inr hy)
        rw [← hf, hus, flat_one]
end
end Sb
set_option Elab.async false
set_option linter.all false
set_option maxRecDepth 100000
set_option maxHeartbeats 4000000
set_option pp.maxSteps 300
/-! Statements, and what they make. -/
namespace Sb
open PySem PySem.Spec PyProof.Rows L2
/-- the two words -/
def wd : Bool → Str
  | false => "x"
  | true => "y"
theorem wd_inj {a b : Bool} (h : wd a = wd b) : a = b := by
  cases a <;> cases b <;> first | rfl | exact absurd h (by decide +kernel)
theorem key_wd {a b : Bool} : ((Sum.inr (wd a) : Key) = Sum.inr (wd b)) ↔ a = b := ⟨fun e => wd_inj (Sum.inr.inj e), fun e => by rw [e]⟩
/-- the rows that are told -/
inductive Rw where
  | is (w : Bool) (s : List Nat)
  | turn (w : Bool)
  | join (w a b : Bool)
  | times (w : Bool)
  | insert (w : Bool) (p : Nat) (o : Bool)
def Rw.verb : Rw → Str
  | .is _ _ => "is"
  | .turn _ => "turn"
  | .join _ _ _ => "join"
  | .times _ => "times"
  | .insert _ _ _ => "insert"
def Rw.new : Rw → Bool
  | .is w _ => w
  | .turn w => w
  | .join w _ _ => w
  | .times w => w
  | .insert w _ _ => w
def Rw.kinds : Rw → List Str
  | .is _ _ => ["signs"]
  | .turn _ => ["word"]
  | .join _ _ _ => ["word", "word"]
  | .times _ => ["word", "many"]
  | .insert _ _ _ => ["word", "place", "word"]
def Rw.vals : Rw → List V
  | .is _ s => [.str (tx s)]
  | .turn w => [.str (wd w)]
  | .join _ a b => [.str (wd a), .str (wd b)]
  | .times w => [.str (wd w), .int 2]
  | .insert w p o => [.str (wd w), .int (p : Int), .str (wd o)]
/-! ### what words stand for -/
abbrev Env (α : Type) := List (Bool × α)
def getE {α : Type} : Env α → Bool → Option α
  | [], _ => none
  | p :: r, w => if p.1 = w then some p.2 else getE r w
def putE {α : Type} : Env α → Bool → α → Env α
  | [], w, a => [(w, a)]
  | p :: r, w, a => if p.1 = w then (w, a) :: r else p :: putE r w a
/-- a dict of words -/
abbrev DE {α : Type} (R : V → α → Prop) (kvs : List (Key × V)) (E : Env α) : Prop := Paired (fun (kv : Key × V) (p : Bool × α) => kv.1 = .inr (wd p.1) ∧ R kv.2 p.2) kvs E
theorem DE.mono {α : Type} {R S : V → α → Prop} {kvs : List (Key × V)} {E : Env α} (h : DE R kvs E) (f : ∀ v a, R v a → S v a) : DE S kvs E := Paired.mapP h fun _ _ q => ⟨q.1, f _ _ q.2⟩
theorem DE.get {α : Type} {R : V → α → Prop} {w : Bool} {a : α} : ∀ {kvs : List (Key × V)} {E : Env α}, DE R kvs E → getE E w = some a → ∃ v, valV kvs (.inr (wd w)) = some v ∧ R v a
  | _, _, .nil, h => by cases h
  | kv :: _, p :: r, .cons q t, h => by
    unfold getE at h
    by_cases e : p.1 = w
    · rw [if_pos e] at h
      cases h
      exact ⟨kv.2, valV_pos (by rw [q.1, e]), q.2⟩
    · rw [if_neg e] at h
      obtain ⟨v, h1, h2⟩ := DE.get t h
      exact ⟨v, by rw [valV_neg (fun z => e (by rw [q.1] at z; exact key_wd.mp z))]; exact h1, h2⟩
theorem DE.no {α : Type} {R : V → α → Prop} {w : Bool} : ∀ {kvs : List (Key × V)} {E : Env α}, DE R kvs E → getE E w = none → valV kvs (.inr (wd w)) = none
  | _, _, .nil, _ => rfl
  | kv :: _, p :: r, .cons q t, h => by
    unfold getE at h
    by_cases e : p.1 = w
    · rw [if_pos e] at h
      cases h
    · rw [if_neg e] at h
      rw [valV_neg (fun z => e (by rw [q.1] at z; exact key_wd.mp z))]
      exact DE.no t h
theorem nodup_get {α : Type} {w : Bool} : ∀ {E : Env α}, (E.map (·.1)).Nodup → w ∉ E.map (·.1) → getE E w = none
  | [], _, _ => rfl
  | p :: r, n, h => by
    unfold getE
    rw [if_neg fun e => h (List.mem_cons.mpr (.inl e.symm))]
    exact nodup_get (List.nodup_cons.mp n).2 fun m => h (List.mem_cons_of_mem _ m)
theorem putE_keys {α : Type} {w : Bool} {a : α} : ∀ {E : Env α}, (putE E w a).map (·.1) = if w ∈ E.map (·.1) then E.map (·.1) else E.map (·.1) ++ [w]
  | [] => by simp [putE]
  | p :: r => by
    unfold putE
    by_cases e : p.1 = w
    · subst e
      rw [if_pos rfl, List.map_cons, List.map_cons, if_pos (List.mem_cons_self ..)]
    · rw [if_neg e, List.map_cons, List.map_cons]
      have ih := putE_keys (w := w) (a := a) (E := r)
      by_cases m : w ∈ r.map (·.1)
      · rw [if_pos m] at ih
        rw [if_pos (List.mem_cons_of_mem _ m), ih]
      · rw [if_neg m] at ih
        rw [if_neg fun z => (List.mem_cons.mp z).elim (fun z => e z.symm) m, ih]
        rfl
theorem putE_nodup {α : Type} {w : Bool} {a : α} {E : Env α} (h : (E.map (·.1)).Nodup) : ((putE E w a).map (·.1)).Nodup := by
  rw [putE_keys]
  split
  · exact h
  · exact nd_snoc h (by assumption)
theorem get_put {α : Type} {w u : Bool} {a : α} : ∀ {E : Env α}, getE (putE E w a) u = if u = w then some a else getE E u
  | [] => by
    show (if w = u then some a else none) = _
    by_cases e : u = w
    · rw [if_pos e, if_pos e.symm]
    · rw [if_neg e, if_neg fun z => e z.symm]
      rfl
  | p :: r => by
    unfold putE
    by_cases e : p.1 = w
    · rw [if_pos e]
      show (if w = u then some a else getE r u) = if u = w then some a else if p.1 = u then some p.2 else getE r u
      by_cases e2 : u = w
      · rw [if_pos e2, if_pos e2.symm]
      · rw [if_neg e2, if_neg fun z => e2 z.symm, if_neg fun z => e2 (by rw [← z, e])]
    · rw [if_neg e]
      show (if p.1 = u then some p.2 else getE (putE r w a) u) = if u = w then some a else if p.1 = u then some p.2 else getE r u
      rw [get_put]
      by_cases e2 : p.1 = u
      · rw [if_pos e2, if_pos e2, if_neg fun z => e (by rw [e2, z])]
      · rw [if_neg e2, if_neg e2]
theorem DE.put {α : Type} {R : V → α → Prop} {w : Bool} {a : α} {v : V} : ∀ {kvs : List (Key × V)} {E : Env α}, DE R kvs E → (E.map (·.1)).Nodup → R v a → DE R (putK kvs (.inr (wd w)) v) (putE E w a)
  | _, _, .nil, _, q => .cons ⟨rfl, q⟩ .nil
  | kv :: kr, p :: r, .cons q t, n, h => by
    obtain ⟨n1, n2⟩ := List.nodup_cons.mp n
    by_cases e : p.1 = w
    · have e1 : putE (p :: r) w a = (w, a) :: r := by
        show (if p.1 = w then _ else _) = _
        rw [if_pos e]
      have hno : valV kr (.inr (wd w)) = none := DE.no t (nodup_get n2 (by rw [← e]; exact n1))
      have e2 : putK (kv :: kr) (.inr (wd w)) v = (.inr (wd w), v) :: kr := by
        have hk : kv.1 = .inr (wd w) := by rw [q.1, e]
        unfold putK
        rw [List.any_cons, decide_eq_true hk, Bool.true_or, if_pos rfl, List.map_cons, if_pos hk, hk]
        congr 1
        have : ∀ z ∈ kr, (if z.1 = (Sum.inr (wd w) : Key) then (z.1, v) else z) = z := fun z hz => by
          rw [if_neg fun ez => valV_not hno (List.mem_map.mpr ⟨z, hz, ez⟩)]
        exact (List.map_congr_left this).trans (List.map_id _)
      rw [e1, e2]
      exact .cons ⟨rfl, h⟩ t
    · have e1 : putE (p :: r) w a = p :: putE r w a := by
        show (if p.1 = w then _ else _) = _
        rw [if_neg e]
      have hk : ¬ kv.1 = .inr (wd w) := fun z => e (by rw [q.1] at z; exact key_wd.mp z)
      have e2 : putK (kv :: kr) (.inr (wd w)) v = kv :: putK kr (.inr (wd w)) v := by
        unfold putK
        rw [List.any_cons, decide_eq_false hk, Bool.false_or]
        by_cases hA : (kr.any fun kv => decide (kv.1 = (Sum.inr (wd w) : Key))) = true
        · rw [if_pos hA, if_pos hA, List.map_cons, if_neg hk]
        · rw [if_neg hA, if_neg hA]
          rfl
      rw [e1, e2]
      exact .cons q (DE.put t n2 h)
/-- the text x is what the row makes where the words stand for E -/
def Rw.txt (E : Env (List Nat)) (x : List Nat) : Rw → Prop
  | .is _ s => x = s ∧ s ≠ [] ∧ s.length ≤ 4 ∧ ∀ c ∈ s, OkC c
  | .turn w => ∃ u, getE E w = some u ∧ x = u.reverse
  | .join _ a b => ∃ u v, getE E a = some u ∧ getE E b = some v ∧ x = u ++ v
  | .times w => ∃ u, getE E w = some u ∧ x = u ++ u
  | .insert w p o => ∃ u v, getE E w = some u ∧ getE E o = some v ∧ ((p = 0 ∧ x = v ++ u) ∨ (p = u.length ∧ x = u ++ v))
/-- a tidy text, all of its trees in U -/
def TxAt (H : Hp) (U : List Tr) (v : V) (x : List Nat) : Prop := ∃ rs ts n t, Src H v U rs ts n t ∧ ts.Nodup ∧ t.txt = x
theorem TxAt.mono {H H' : Hp} {U : List Tr} {v : V} {x : List Nat} (s : Same H H') (h : TxAt H U v x) : TxAt H' U v x := let ⟨rs, ts, n, t, a, b⟩ := h; ⟨rs, ts, n, t, a.mono s, b⟩
theorem TxAt.more {H : Hp} {U U' : List Tr} {v : V} {x : List Nat} (s : ∀ t ∈ U, t ∈ U') (h : TxAt H U v x) : TxAt H U' v x := let ⟨rs, ts, n, t, ⟨a, b, c, d, e⟩, f⟩ := h; ⟨rs, ts, n, t, ⟨a, b, c, d, fun y hy => s y (e y hy)⟩, f⟩
section
variable {P : Program} {w : World} {K : PySem.W.Frag} {mg : Str → Option Value} {base : Heap}
def sp_kinds_of : Sp := fun vs H Q _ => ∃ z : Str, vs = [.str z] ∧ ((∃ r : Rw, z = r.verb ∧ ∀ p, H p = none → Q (.ref p) (upd H p (.lst (r.kinds.map V.str)))) ∨ ((z = wd false ∨ z = wd true) ∧ Q .non H))
theorem ok_kinds_of (T : Hd K mg) : Own P w K mg base "kinds_of" ["verb"] 1 sp_kinds_of := by
  refine own_mk T.d_kinds_of sc_kinds_of (fun vs H Q E h => ?_) (fun _ _ _ _ _ _ us hl => match us, hl with | [_], _ => rfl) (fun fa cdv A outer s H vs Q E hr h => ⟨_, (pss_cons (ps_if (pt_cmpR op_eq (pv 0) pe_str (nomark _)) (pss_one (ps_ret (pe_lst (pa_cons pe_str pa_nil)))) pss_nil)
      (pss_cons (ps_if (pt_cmpR op_eq (pv 0) pe_str (nomark _)) (pss_one (ps_ret (pe_lst (pa_cons pe_str (pa_cons pe_str pa_nil))))) pss_nil)
      (pss_cons (ps_if (pt_cmpR op_eq (pv 0) pe_str (nomark _)) (pss_one (ps_ret (pe_lst (pa_cons pe_str (pa_cons pe_str pa_nil))))) pss_nil)
      (pss_cons (ps_if (pt_cmpR op_eq (pv 0) pe_str (nomark _)) (pss_one (ps_ret (pe_lst (pa_cons pe_str pa_nil)))) pss_nil)
      (pss_cons (ps_if (pt_cmpR op_eq (pv 0) pe_str (nomark _)) (pss_one (ps_ret (pe_lst (pa_cons pe_str (pa_cons pe_str (pa_cons pe_str pa_nil)))))) pss_nil)
      (pss_cons (ps_if (pt_cmpR op_eq (pv 0) pe_str (nomark _)) (pss_one (ps_ret (pe_lst (pa_cons pe_str (pa_cons pe_str (pa_cons pe_str pa_nil)))))) pss_nil)
      (pss_cons (ps_if (PW.pt (pw_or (pt_cmpR op_eq (pv 0) pe_str (nomark _)) (pw_or1 (pt_cmpR op_eq (pv 0) pe_str (nomark _))))) (pss_one (ps_ret (pe_lst (pa_cons pe_str (pa_cons pe_str (pa_cons pe_str pa_nil)))))) pss_nil)
      (pss_one (ps_ret pe_non))))))))), ?_⟩)
  · obtain ⟨z, rfl, _⟩ := h
    rfl
  · obtain ⟨z, rfl, h⟩ := h
    rcases h with ⟨r, rfl, q⟩ | ⟨h, q⟩
    · cases r with
      | is w s =>
        have x0 : Val (tVar 0) (start ["verb"] [V.str (Rw.is w s).verb]) H (V.str "is") := vx 0
        exact s_yes (a_eq x0 vc rfl (by decide +kernel)) ⟨by show 1 ≤ sizeLine; decide, q⟩
      | turn w =>
        have x0 : Val (tVar 0) (start ["verb"] [V.str (Rw.turn w).verb]) H (V.str "turn") := vx 0
        refine s_no (a_eq x0 vc rfl (by decide +kernel)) ?_
        refine s_no (a_eq x0 vc rfl (by decide +kernel)) ?_
        refine s_no (a_eq x0 vc rfl (by decide +kernel)) ?_
        exact s_yes (a_eq x0 vc rfl (by decide +kernel)) ⟨by show 1 ≤ sizeLine; decide, q⟩
      | join w a b =>
        have x0 : Val (tVar 0) (start ["verb"] [V.str (Rw.join w a b).verb]) H (V.str "join") := vx 0
        refine s_no (a_eq x0 vc rfl (by decide +kernel)) ?_
        exact s_yes (a_eq x0 vc rfl (by decide +kernel)) ⟨by show 2 ≤ sizeLine; decide, q⟩
      | times w =>
        have x0 : Val (tVar 0) (start ["verb"] [V.str (Rw.times w).verb]) H (V.str "times") := vx 0
        refine s_no (a_eq x0 vc rfl (by decide +kernel)) ?_
        refine s_no (a_eq x0 vc rfl (by decide +kernel)) ?_
        exact s_yes (a_eq x0 vc rfl (by decide +kernel)) ⟨by show 2 ≤ sizeLine; decide, q⟩
      | insert w p o =>
        have x0 : Val (tVar 0) (start ["verb"] [V.str (Rw.insert w p o).verb]) H (V.str "insert") := vx 0
        refine s_no (a_eq x0 vc rfl (by decide +kernel)) ?_
        refine s_no (a_eq x0 vc rfl (by decide +kernel)) ?_
        refine s_no (a_eq x0 vc rfl (by decide +kernel)) ?_
        refine s_no (a_eq x0 vc rfl (by decide +kernel)) ?_
        refine s_no (a_eq x0 vc rfl (by decide +kernel)) ?_
        exact s_yes (a_eq x0 vc rfl (by decide +kernel)) ⟨by show 3 ≤ sizeLine; decide, q⟩
    · rcases h with rfl | rfl
      · have x0 : Val (tVar 0) (start ["verb"] [V.str (wd false)]) H (V.str "x") := vx 0
        refine s_no (a_eq x0 vc rfl (by decide +kernel)) ?_
        refine s_no (a_eq x0 vc rfl (by decide +kernel)) ?_
        refine s_no (a_eq x0 vc rfl (by decide +kernel)) ?_
        refine s_no (a_eq x0 vc rfl (by decide +kernel)) ?_
        refine s_no (a_eq x0 vc rfl (by decide +kernel)) ?_
        refine s_no (a_eq x0 vc rfl (by decide +kernel)) ?_
        refine a_eq (b := false) x0 vc rfl (by decide +kernel) _ (iteF ?_)
        exact a_eq (b := false) x0 vc rfl (by decide +kernel) _ (iteF q)
      · have x0 : Val (tVar 0) (start ["verb"] [V.str (wd true)]) H (V.str "y") := vx 0
        refine s_no (a_eq x0 vc rfl (by decide +kernel)) ?_
        refine s_no (a_eq x0 vc rfl (by decide +kernel)) ?_
        refine s_no (a_eq x0 vc rfl (by decide +kernel)) ?_
        refine s_no (a_eq x0 vc rfl (by decide +kernel)) ?_
        refine s_no (a_eq x0 vc rfl (by decide +kernel)) ?_
        refine s_no (a_eq x0 vc rfl (by decide +kernel)) ?_
        refine a_eq (b := false) x0 vc rfl (by decide +kernel) _ (iteF ?_)
        exact a_eq (b := false) x0 vc rfl (by decide +kernel) _ (iteF q)
def AskOk (kvs : List (Key × V)) : List Str → List V → Prop := Paired fun (k : Str) (v : V) => k = "word" → ∃ z u, v = .str z ∧ valV kvs (.inr z) = some u
def sp_ask_standing : Sp := fun vs H Q _ => ∃ (d k l : Addr) (kvs : List (Key × V)) (ks : List Str) (us : List V), vs = [.ref d, .ref k, .ref l] ∧ H d = some (.dK kvs) ∧ H k = some (.lst (ks.map V.str)) ∧ H l = some (.lst us) ∧ AskOk kvs ks us ∧ ∀ H', Same H H' → Q .non H'
theorem ok_ask_standing (T : Hd K mg) : Own P w K mg base "ask_standing" ["texts", "kinds", "values"] 1 sp_ask_standing := by
  refine own_mk T.d_ask_standing sc_ask_standing (fun vs H Q E h => ?_) (fun _ _ _ _ _ _ us hl => match us, hl with | [_, _, _], _ => rfl) (fun fa cdv A outer s H vs Q E hr h => ⟨_, (pss_one (ps_for PassesOwn.never rfl (pi_zip (by rfl) T.z_zip (pa_cons (pv 1) (pa_cons (pv 2) pa_nil))) (pg_tup rfl (pgs_cons (pg_name (i := 3) sc_ask_standing.nd rfl (Or.inl rfl)) (pgs_cons (pg_name (i := 4) sc_ask_standing.nd rfl (Or.inl rfl)) pgs_nil))) (pss_one (ps_if (PW.pt (pw_and (pt_cmpR op_eq (pv 3) pe_str (nomark _)) (pw_and1 (pt_cmp (pc_dnotin (hu_of hr) (pv 4) (pv 0)))))) (pss_one ps_never) pss_nil)))), ?_⟩)
  · obtain ⟨d, k, l, kvs, ks, us, rfl, _⟩ := h
    rfl
  · obtain ⟨d, k, l, kvs, ks, us, rfl, hd, hk, hl, hA, q⟩ := h
    have hlen : ks.length = us.length := Paired.length hA
    refine ⟨.ref k, rfl, .ref l, rfl, k, l, ks.map V.str, us, rfl, sqL hk, sqL hl, for_it (walk_zip (n := ks.length) (by rw [List.length_map]; omega)) (fun i σ H' => ∃ y3 y4, σ = [some (.ref d), some (.ref k), some (.ref l), y3, y4] ∧ Same H H')
      ⟨none, none, rfl, Same.refl H⟩ (fun i σ H' _ ⟨_, _, _, s⟩ => ⟨sqL (s _ _ hk), sqL (s _ _ hl)⟩) ?_ ?_⟩
    · rintro i x σ H1 H1' hi ⟨y3, y4, rfl, s1⟩ ⟨T, a, b, rfl, nT, rfl, ha, hb⟩
      have sT := same_new (o := HO.tup [a, b]) nT
      have hu : us[i]? = some b := hb
      obtain ⟨kk, hkk, hcond⟩ := P_get hA hu
      have ha2 : (ks.map V.str)[i]? = some a := ha
      rw [List.getElem?_map, hkk] at ha2
      cases ha2
      refine ⟨T, [.str kk, b], rfl, sqT upd_same, rfl, .str kk, [b], rfl, b, [], rfl, rfl, ?_⟩
      refine ⟨.str kk, rfl, rfl, _, rfl, ?_⟩
      by_cases e : kk = "word"
      · subst e
        obtain ⟨z, u, rfl, hz⟩ := hcond rfl
        rw [intd (show V.str "word" = V.str "word" from rfl)]
        refine iteT ⟨.str z, rfl, .ref d, rfl, d, some u, rfl, by rw [← hz]; exact DGet.k (k := Sum.inr z) ((s1.trans sT) _ _ hd), false, rfl, iteF ?_⟩
        exact ⟨_, _, rfl, s1.trans sT⟩
      · rw [intn (show ¬ V.str kk = V.str "word" from fun z => e (V.str.inj z))]
        refine iteF (iteF ?_)
        exact ⟨_, _, rfl, s1.trans sT⟩
    · rintro σ H1 ⟨y3, y4, rfl, s1⟩
      exact q H1 s1
def sp_of_one : Sp := fun vs H Q _ => ∃ (z : Str) (v : V) (l : Addr) (U : List Tr) (rs : List Rl) (ts : List Tr) (n : Nat) (t : Tr) (us : List V), vs = [.str z, v, .ref l] ∧ Src H v U rs ts n t ∧ H l = some (.lst us) ∧ t.len + t.len ≤ 2 ^ 60 ∧
  ((z = "times" ∧ us[1]? = some (.int 2) ∧ Made H Q U (t.txt ++ t.txt)) ∨ (z = "turn" ∧ Made H Q U t.txt.reverse))
theorem ok_of_one (T : Hd K mg) : Own P w K mg base "of_one" ["verb", "one", "values"] 6 sp_of_one := by
  refine own_mk T.d_of_one sc_of_one (fun vs H Q E h => ?_) (fun _ _ _ _ _ _ us hl => match us, hl with | [_, _, _], _ => rfl) (fun fa cdv A outer s H vs Q E hr h => ⟨_, (pss_cons (ps_if (pt_cmpR op_eq (pv 0) pe_str (nomark _)) (pss_one (ps_ret (pe_own (ok_repeated T) (hr.mono (by decide)) (by rfl) (pa_cons (pe_ix ix_tup (pv 1) pe_int (fun _ _ => rfl)) (pa_cons (pe_ix ix_tup (pv 1) pe_int (fun _ _ => rfl)) (pa_cons (pe_ix ix_list (pv 2) pe_int (fun _ _ => rfl)) pa_nil)))))) pss_nil)
      (pss_cons (ps_if (pt_cmpR op_eq (pv 0) pe_str (nomark _)) (pss_one (ps_ret (pe_own (ok_turned T) (hr.mono (by decide)) (by rfl) (pa_cons (pe_ix ix_tup (pv 1) pe_int (fun _ _ => rfl)) (pa_cons (pe_ix ix_tup (pv 1) pe_int (fun _ _ => rfl)) pa_nil))))) pss_nil)
      (pss_cons (ps_if (pt_cmpR op_eq (pv 0) pe_str (nomark _)) (pss_one ps_never) pss_nil)
      (pss_cons (ps_if (pt_cmpR op_eq (pv 0) pe_str (nomark _)) (pss_one ps_never) pss_nil)
      (pss_one ps_never))))), ?_⟩)
  · obtain ⟨z, v, l, U, rs, ts, n, t, us, rfl, _⟩ := h
    rfl
  · obtain ⟨z, v, l, U, rs, ts, n, t, us, rfl, ⟨⟨a, u, rfl, ha, hu⟩, hT, hz, ht, hU⟩, hl, h60, h⟩ := h
    rcases h with ⟨rfl, h2, q⟩ | ⟨rfl, q⟩
    · refine s_yes (a_eq (vx 0) vc rfl (by decide +kernel)) ?_
      refine v_ixT (vx 1) vc (sqT ha) (atI_nat (j := 0) rfl) _ ?_
      refine v_ixT (vx 1) vc (sqT ha) (atI_nat (j := 1) rfl) _ ?_
      refine v_ixL (vx 2) vc (sqL hl) (atI_nat (j := 1) h2) _ ?_
      refine ⟨u, rs, ts, some n, t.len, rfl, ⟨hu, hT, by omega⟩, ⟨t, ht, rfl⟩, h60, fun v' H' s1 hp => ?_⟩
      have hT2 : RT (rs ++ [.tm n 2]) (ts ++ [Tr.db t]) := hT.snoc ⟨t, rfl, ht, rfl⟩
      refine q v' H' _ _ _ _ [Tr.db t] s1 hp hT2 ?_ (by show (ts ++ [Tr.db t])[rs.length]? = _; rw [hT.len]; exact get_snoc) rfl (by show 1 ≤ 7; decide) ?_ ?_
      · show (rs ++ [Rl.tm n 2]).length ≤ 40000
        rw [List.length_append, List.length_singleton]
        omega
      · intro y hy
        rw [List.mem_singleton.mp hy, Tr.len_db, List.length_append]
        exact Nat.le_refl _
      · intro y hy
        rcases List.mem_append.mp hy with z | z
        · exact .inl (hU y z)
        · exact .inr (.inr z)
    · refine s_no (a_eq (vx 0) vc rfl (by decide +kernel)) ?_
      refine s_yes (a_eq (vx 0) vc rfl (by decide +kernel)) ?_
      refine v_ixT (vx 1) vc (sqT ha) (atI_nat (j := 0) rfl) _ ?_
      refine v_ixT (vx 1) vc (sqT ha) (atI_nat (j := 1) rfl) _ ?_
      refine ⟨u, rs, ts, n, t, rfl, ⟨hu, hT, by omega⟩, ht, fun v' H' ex ux k s1 hp hT2 hlen hux hk => ?_⟩
      refine q v' H' _ _ k t.rev [] s1 hp hT2 ?_ hk t.txt_rev (Nat.zero_le _) (fun y hy => absurd hy List.not_mem_nil) ?_
      · rw [List.length_append]
        omega
      · intro y hy
        rcases List.mem_append.mp hy with z | z
        · exact .inl (hU y z)
        · obtain ⟨x, hx, e⟩ := hux y z
          exact .inr (.inl ⟨x, hU x hx, e⟩)
def sp_of_two : Sp := fun vs H Q _ => ∃ (z : Str) (v1 v2 : V) (l d : Addr) (U : List Tr) (rs1 rs2 : List Rl) (ts1 ts2 : List Tr) (n1 n2 : Nat) (t1 t2 : Tr) (us : List V) (kvs : List (Key × V)) (b : Str), vs = [.str z, v1, .ref l, .ref d] ∧ Src H v1 U rs1 ts1 n1 t1 ∧ Src H v2 U rs2 ts2 n2 t2 ∧ H l = some (.lst us) ∧ H d = some (.dK kvs) ∧ valV kvs (.inr b) = some v2 ∧ t1.len + t2.len ≤ 2 ^ 60 ∧
  ((z = "join" ∧ us[1]? = some (.str b) ∧ Made H Q U (t1.txt ++ t2.txt)) ∨ (z = "insert" ∧ us[2]? = some (.str b) ∧ ∃ p : Nat, us[1]? = some (.int (p : Int)) ∧ ((p = 0 ∧ Made H Q U (t2.txt ++ t1.txt)) ∨ (p = t1.len ∧ Made H Q U (t1.txt ++ t2.txt)))))
theorem ok_of_two (T : Hd K mg) : Own P w K mg base "of_two" ["verb", "one", "values", "texts"] 7 sp_of_two := by
  refine own_mk T.d_of_two sc_of_two (fun vs H Q E h => ?_) (fun _ _ _ _ _ _ us hl => match us, hl with | [_, _, _, _], _ => rfl) (fun fa cdv A outer s H vs Q E hr h => ⟨_, (pss_cons (ps_if (pt_cmpR op_eq (pv 0) pe_str (nomark _)) (pss_one (ps_ret (pe_own (ok_put_in T) (hr.mono (by decide)) (by rfl) (pa_cons (pv 1) (pa_cons (pe_ix ix_list (pv 2) pe_int (fun _ _ => rfl)) (pa_cons (pe_dget (hu_of hr) (pv 3) (pe_ix ix_list (pv 2) pe_int (fun _ _ => rfl)) (fun _ _ => rfl)) pa_nil)))))) pss_nil)
      (pss_cons (ps_asg (pe_own (ok_side_by_side T) (hr.mono (by decide)) (by rfl) (pa_cons (pv 1) (pa_cons (pe_dget (hu_of hr) (pv 3) (pe_ix ix_list (pv 2) pe_int (fun _ _ => rfl)) (fun _ _ => rfl)) pa_nil))) (pg_tup rfl (pgs_cons (pg_name (i := 4) sc_of_two.nd rfl (Or.inl rfl)) (pgs_cons (pg_name (i := 5) sc_of_two.nd rfl (Or.inl rfl)) (pgs_cons (pg_name (i := 6) sc_of_two.nd rfl (Or.inl rfl)) pgs_nil)))))
      (pss_one (ps_ret (pe_own (ok_joined T) (hr.mono (by decide)) (by rfl) (pa_cons (pv 4) (pa_cons (pv 5) (pa_cons (pv 6) pa_nil)))))))), ?_⟩)
  · obtain ⟨z, v1, v2, l, d, U, rs1, rs2, ts1, ts2, n1, n2, t1, t2, us, kvs, b, rfl, _⟩ := h
    rfl
  · obtain ⟨z, v1, v2, l, d, U, rs1, rs2, ts1, ts2, n1, n2, t1, t2, us, kvs, b, rfl, S1, S2, hl, hd, hb, h60, h⟩ := h
    have hget : DGet H d (.str b) (some v2) := by
      rw [← hb]
      exact DGet.k (k := Sum.inr b) hd
    rcases h with ⟨rfl, h1, q⟩ | ⟨rfl, h2, p, h1, q⟩
    · refine s_no (a_eq (vx 0) vc rfl (by decide +kernel)) ?_
      refine ⟨v1, rfl, .ref d, rfl, ?_⟩
      refine v_ixL (vx 2) vc (sqL hl) (atI_nat (j := 1) h1) _ ?_
      refine ⟨d, v2, rfl, hget, ?_⟩
      refine ⟨v1, v2, U, rs1, rs2, ts1, ts2, n1, n2, t1, t2, rfl, S1, S2, fun a u H1 s1 ha hu => ?_⟩
      refine ⟨a, _, rfl, sqT ha, rfl, u, _, rfl, _, _, rfl, _, [], rfl, rfl, ?_⟩
      have hT := S1.2.1.bring S2.2.1
      have hl1 := S1.2.1.len
      have hz1 := S1.2.2.1
      have hz2 := S2.2.2.1
      have hlen : (rs1 ++ rs2.map (Rl.up rs1.length)).length ≤ 20000 := by
        rw [List.length_append, List.length_map]
        omega
      have htn : (ts1 ++ ts2)[n1]? = some t1 := get_app S1.2.2.2.1
      have htm : (ts1 ++ ts2)[rs1.length + n2]? = some t2 := by rw [hl1]; exact get_up S2.2.2.2.1
      refine ⟨u, rfl, .int (n1 : Int), rfl, .int ((rs1.length + n2 : Nat) : Int), rfl, u, _, _, some n1, some (rs1.length + n2), t1.len, t2.len, rfl, ⟨hu, hT, by omega⟩, ⟨t1, htn, rfl⟩, ⟨t2, htm, rfl⟩, h60, fun v' H' s2 hp => ?_⟩
      have hT2 := hT.join htn htm
      refine q v' H' _ _ _ (Tr.jn t1 t2) [Tr.jn t1 t2] (s1.trans s2) hp hT2 ?_ ?_ rfl (by show 1 ≤ 7; decide) ?_ ?_
      · show ((rs1 ++ rs2.map (Rl.up rs1.length)) ++ [Rl.jn n1 (rs1.length + n2)]).length ≤ 40000
        rw [List.length_append, List.length_singleton]
        omega
      · show ((ts1 ++ ts2) ++ [Tr.jn t1 t2])[(rs1 ++ rs2.map (Rl.up rs1.length)).length]? = _
        rw [hT.len]
        exact get_snoc
      · intro y hy
        rw [List.mem_singleton.mp hy, Tr.len_jn, List.length_append]
        exact Nat.le_refl _
      · intro y hy
        rcases List.mem_append.mp hy with z | z
        · rcases List.mem_append.mp z with z2 | z2
          · exact .inl (S1.2.2.2.2 y z2)
          · exact .inl (S2.2.2.2.2 y z2)
        · exact .inr (.inr z)
    · refine s_yes (a_eq (vx 0) vc rfl (by decide +kernel)) ?_
      refine ⟨v1, rfl, ?_⟩
      refine v_ixL (vx 2) vc (sqL hl) (atI_nat (j := 1) h1) _ ?_
      refine ⟨.ref d, rfl, ?_⟩
      refine v_ixL (vx 2) vc (sqL hl) (atI_nat (j := 2) h2) _ ?_
      refine ⟨d, v2, rfl, hget, ?_⟩
      exact ⟨v1, v2, p, U, rs1, rs2, ts1, ts2, n1, n2, t1, t2, rfl, S1, S2, h60, q⟩
end
end Sb
set_option Elab.async false
set_option linter.all false
set_option maxRecDepth 100000
set_option maxHeartbeats 4000000
set_option pp.maxSteps 300
/-! The text that a statement makes. -/
namespace Sb
open PySem PySem.Spec PyProof.Rows L2
section
variable {P : Program} {w : World} {K : PySem.W.Frag} {mg : Str → Option Value} {base : Heap}
/-- a row as a tuple (verb, new, values) -/
def DeedAt (H : Hp) (v : V) (r : Rw) : Prop := ∃ a l, v = .ref a ∧ H a = some (.tup [.str r.verb, .str (wd r.new), .ref l]) ∧ H l = some (.lst r.vals)
theorem DeedAt.mono {H H' : Hp} {v : V} {r : Rw} (s : Same H H') (h : DeedAt H v r) : DeedAt H' v r := let ⟨a, l, e, h1, h2⟩ := h; ⟨a, l, e, s _ _ h1, s _ _ h2⟩
theorem ask_of {kvs : List (Key × V)} {R : V → List Nat → Prop} {E : Env (List Nat)} {x : List Nat} {r : Rw} (h : DE R kvs E) (hx : r.txt E x) : AskOk kvs r.kinds r.vals := by
  have one : ∀ {b : Bool} {u : List Nat}, getE E b = some u → (("word" : Str) = "word" → ∃ z y, V.str (wd b) = .str z ∧ valV kvs (.inr z) = some y) := fun {b u} hb _ => by
    obtain ⟨v, h1, _⟩ := h.get hb
    exact ⟨wd b, v, rfl, h1⟩
  have skip : ∀ {k : Str} {v : V}, k ≠ "word" → (k = "word" → ∃ z y, v = .str z ∧ valV kvs (.inr z) = some y) := fun h e => absurd e h
  cases r with
  | is w s => exact .cons (skip (by decide +kernel)) .nil
  | turn w =>
    obtain ⟨u, hu, _⟩ := hx
    exact .cons (one hu) .nil
  | join w a b =>
    obtain ⟨u, v, hu, hv, _⟩ := hx
    exact .cons (one hu) (.cons (one hv) .nil)
  | times w =>
    obtain ⟨u, hu, _⟩ := hx
    exact .cons (one hu) (.cons (skip (by decide +kernel)) .nil)
  | insert w p o =>
    obtain ⟨u, v, hu, hv, _⟩ := hx
    exact .cons (one hu) (.cons (skip (by decide +kernel)) (.cons (one hv) .nil))
def sp_made_text : Sp := fun vs H Q _ => ∃ (d : Addr) (v : V) (r : Rw) (kvs : List (Key × V)) (E : Env (List Nat)) (U : List Tr) (B : Nat) (x : List Nat), vs = [.ref d, v] ∧ DeedAt H v r ∧ H d = some (.dK kvs) ∧ DE (TxAt H U) kvs E ∧ Pool U B ∧ B ≤ 2 ^ 59 ∧ r.txt E x ∧ x.length ≤ B ∧ U.length + 14 ≤ 10000 ∧
  ∀ v' H' U', Same H H' → TxAt H' U' v' x → (∀ t ∈ U, t ∈ U') → U'.length ≤ U.length + 14 → Pool U' B → Q v' H'
theorem ok_made_text (T : Hd K mg) : Own P w K mg base "made_text" ["texts", "deed"] 8 sp_made_text := by
  refine own_mk T.d_made_text sc_made_text (fun vs H Q E h => ?_) (fun _ _ _ _ _ _ us hl => match us, hl with | [_, _], _ => rfl) (fun fa cdv A outer s H vs Q E hr h => ⟨_, (pss_cons (ps_asg (pv 1) (pg_tup rfl (pgs_cons (pg_name (i := 2) sc_made_text.nd rfl (Or.inl rfl)) (pgs_cons (pg_name (i := 3) sc_made_text.nd rfl (Or.inl rfl)) (pgs_cons (pg_name (i := 4) sc_made_text.nd rfl (Or.inl rfl)) pgs_nil)))))
      (pss_cons (ps_expr (pe_own (ok_ask_standing T) (hr.mono (by decide)) (by rfl) (pa_cons (pv 0) (pa_cons (pe_own (ok_kinds_of T) (hr.mono (by decide)) (by rfl) (pa_cons (pv 2) pa_nil)) (pa_cons (pv 4) pa_nil)))))
      (C8.pss_cut (ps_if (pt_cmpR op_eq (pv 2) pe_str (nomark _)) (pss_one (ps_asg (pe_own (ok_spelled_rules T) (hr.mono (by decide)) (by rfl) (pa_cons (pe_ix ix_list (pv 4) pe_int (fun _ _ => rfl)) pa_nil)) (pg_tup rfl (pgs_cons (pg_name (i := 5) sc_made_text.nd rfl (Or.inl rfl)) (pgs_cons (pg_name (i := 6) sc_made_text.nd rfl (Or.inl rfl)) pgs_nil))))) (pss_one (ps_if (PW.pt (pw_or (pt_cmpR op_eq (pv 2) pe_str (nomark _)) (pw_or1 (pt_cmpR op_eq (pv 2) pe_str (nomark _))))) (pss_one (ps_asg (pe_own (ok_of_two T) (hr.mono (by decide)) (by rfl) (pa_cons (pv 2) (pa_cons (pe_dget (hu_of hr) (pv 0) (pe_ix ix_list (pv 4) pe_int (fun _ _ => rfl)) (fun _ _ => rfl)) (pa_cons (pv 4) (pa_cons (pv 0) pa_nil))))) (pg_tup rfl (pgs_cons (pg_name (i := 5) sc_made_text.nd rfl (Or.inl rfl)) (pgs_cons (pg_name (i := 6) sc_made_text.nd rfl (Or.inl rfl)) pgs_nil))))) (pss_one (ps_asg (pe_own (ok_of_one T) (hr.mono (by decide)) (by rfl) (pa_cons (pv 2) (pa_cons (pe_dget (hu_of hr) (pv 0) (pe_ix ix_list (pv 4) pe_int (fun _ _ => rfl)) (fun _ _ => rfl)) (pa_cons (pv 4) pa_nil)))) (pg_tup rfl (pgs_cons (pg_name (i := 5) sc_made_text.nd rfl (Or.inl rfl)) (pgs_cons (pg_name (i := 6) sc_made_text.nd rfl (Or.inl rfl)) pgs_nil))))))))
      (pss_one (ps_ret (pe_own (ok_tidy T) (hr.mono (by decide)) (by rfl) (pa_cons (pv 5) (pa_cons (pv 6) pa_nil)))))))), ?_⟩)
  · obtain ⟨d, v, r, kvs, E, U, B, x, rfl, _⟩ := h
    rfl
  · obtain ⟨d, v, r, kvs, Ev, U, B, x, rfl, ⟨a, l, rfl, ha, hl⟩, hd, hE, hP, hB, hx, hxB, hU, q⟩ := h
    have e59 : (2 : Nat) ^ 59 = 576460752303423488 := by decide
    have e60 : (2 : Nat) ^ 60 = 1152921504606846976 := by decide
    refine ⟨.ref a, rfl, a, _, rfl, sqT ha, rfl, .str r.verb, _, rfl, .str (wd r.new), _, rfl, .ref l, [], rfl, rfl, ?_⟩
    refine ⟨.ref d, rfl, .str r.verb, rfl, r.verb, rfl, .inl ⟨r, rfl, fun k nk => ?_⟩⟩
    have sk := same_new (o := HO.lst (r.kinds.map V.str)) nk
    refine ⟨.ref l, rfl, d, k, l, kvs, r.kinds, r.vals, rfl, sk _ _ hd, upd_same, sk _ _ hl, ask_of hE hx, fun H2 s2 => ?_⟩
    have s12 := sk.trans s2
    have hd2 := s12 _ _ hd
    have hl2 := s12 _ _ hl
    have hE2 : DE (TxAt H2 U) kvs Ev := hE.mono fun _ _ h => h.mono s12
    refine ⟨fun σ H' => ∃ (u : V) (rs : List Rl) (ts : List Tr) (n : Nat) (t : Tr) (Vn : List Tr), σ = [some (.ref d), some (.ref a), some (.str r.verb), some (.str (wd r.new)), some (.ref l), some u, some (.int ((n : Nat) : Int))] ∧ Same H H' ∧ RsT H' u rs ∧ RT rs ts ∧ rs.length ≤ 40000 ∧ ts[n]? = some t ∧ t.txt = x ∧ Vn.length ≤ 7 ∧ (∀ y ∈ Vn, y.len ≤ x.length) ∧ (∀ y ∈ ts, y ∈ U ∨ (∃ z ∈ U, y = Tr.rev z) ∨ y ∈ Vn), ?_, ?_⟩
    · -- the three ways
      have fin : Made H2 (fun v' H' => gTup K 2 (gCons (gName 5) (gCons (gName 6) gNil)) v' [some (.ref d), some (.ref a), some (.str r.verb), some (.str (wd r.new)), some (.ref l), none, none] H' fun σ H' => ∃ (u : V) (rs : List Rl) (ts : List Tr) (n : Nat) (t : Tr) (Vn : List Tr), σ = [some (.ref d), some (.ref a), some (.str r.verb), some (.str (wd r.new)), some (.ref l), some u, some (.int ((n : Nat) : Int))] ∧ Same H H' ∧ RsT H' u rs ∧ RT rs ts ∧ rs.length ≤ 40000 ∧ ts[n]? = some t ∧ t.txt = x ∧ Vn.length ≤ 7 ∧ (∀ y ∈ Vn, y.len ≤ x.length) ∧ (∀ y ∈ ts, y ∈ U ∨ (∃ z ∈ U, y = Tr.rev z) ∨ y ∈ Vn)) U x := by
        intro v' H' rs ts n t Vn s3 hp hT hz ht hxt h7 hle hmem
        obtain ⟨a', u, rfl, ha', hu⟩ := hp
        exact ⟨a', _, rfl, sqT ha', rfl, u, _, rfl, _, [], rfl, rfl, u, rs, ts, n, t, Vn, rfl, s12.trans s3, hu, hT, hz, ht, hxt, h7, hle, hmem⟩
      cases r with
      | is w s =>
        obtain ⟨rfl, hne, h4, hok⟩ := hx
        have x2 : Val (tVar 2) [some (.ref d), some (.ref a), some (.str (Rw.is w x).verb), some (.str (wd (Rw.is w x).new)), some (.ref l), none, none] H2 (.str "is") := vx 2
        refine s_yes (a_eq x2 vc rfl (by decide +kernel)) ?_
        refine v_ixL (vx 4) vc (sqL hl2) (atI_nat (j := 0) rfl) _ ?_
        exact ⟨x, U, rfl, hne, h4, hok, fin⟩
      | turn w =>
        obtain ⟨u, hu, rfl⟩ := hx
        obtain ⟨v1, h1, rs, ts, n, t, S1, nd, rfl⟩ := hE2.get hu
        have x2 : Val (tVar 2) [some (.ref d), some (.ref a), some (.str (Rw.turn w).verb), some (.str (wd (Rw.turn w).new)), some (.ref l), none, none] H2 (.str "turn") := vx 2
        refine s_no (a_eq x2 vc rfl (by decide +kernel)) ?_
        refine a_eq (b := false) x2 vc rfl (by decide +kernel) _ (iteF ?_)
        refine a_eq (b := false) x2 vc rfl (by decide +kernel) _ (iteF ?_)
        refine ⟨_, rfl, .ref d, rfl, ?_⟩
        refine v_ixL (vx 4) vc (sqL hl2) (atI_nat (j := 0) rfl) _ ?_
        refine ⟨d, v1, rfl, by rw [← h1]; exact DGet.k (k := Sum.inr (wd w)) hd2, .ref l, rfl, ?_⟩
        rw [List.length_reverse] at hxB
        have hxB : t.len ≤ B := hxB
        exact ⟨_, v1, l, U, rs, ts, n, t, _, rfl, S1, hl2, by omega, .inr ⟨rfl, fin⟩⟩
      | times w =>
        obtain ⟨u, hu, rfl⟩ := hx
        obtain ⟨v1, h1, rs, ts, n, t, S1, nd, rfl⟩ := hE2.get hu
        have x2 : Val (tVar 2) [some (.ref d), some (.ref a), some (.str (Rw.times w).verb), some (.str (wd (Rw.times w).new)), some (.ref l), none, none] H2 (.str "times") := vx 2
        refine s_no (a_eq x2 vc rfl (by decide +kernel)) ?_
        refine a_eq (b := false) x2 vc rfl (by decide +kernel) _ (iteF ?_)
        refine a_eq (b := false) x2 vc rfl (by decide +kernel) _ (iteF ?_)
        refine ⟨_, rfl, .ref d, rfl, ?_⟩
        refine v_ixL (vx 4) vc (sqL hl2) (atI_nat (j := 0) rfl) _ ?_
        refine ⟨d, v1, rfl, by rw [← h1]; exact DGet.k (k := Sum.inr (wd w)) hd2, .ref l, rfl, ?_⟩
        rw [List.length_append] at hxB
        have hxB : t.len + t.len ≤ B := hxB
        exact ⟨_, v1, l, U, rs, ts, n, t, _, rfl, S1, hl2, by omega, .inl ⟨rfl, rfl, fin⟩⟩
      | join w b c =>
        obtain ⟨u1, u2, hu1, hu2, rfl⟩ := hx
        obtain ⟨v1, h1, rs1, ts1, n1, t1, S1, nd1, rfl⟩ := hE2.get hu1
        obtain ⟨v2, h2, rs2, ts2, n2, t2, S2, nd2, rfl⟩ := hE2.get hu2
        have x2 : Val (tVar 2) [some (.ref d), some (.ref a), some (.str (Rw.join w b c).verb), some (.str (wd (Rw.join w b c).new)), some (.ref l), none, none] H2 (.str "join") := vx 2
        refine s_no (a_eq x2 vc rfl (by decide +kernel)) ?_
        refine a_eq (b := true) x2 vc rfl (by decide +kernel) _ (iteT ?_)
        refine ⟨_, rfl, .ref d, rfl, ?_⟩
        refine v_ixL (vx 4) vc (sqL hl2) (atI_nat (j := 0) rfl) _ ?_
        refine ⟨d, v1, rfl, by rw [← h1]; exact DGet.k (k := Sum.inr (wd b)) hd2, .ref l, rfl, .ref d, rfl, ?_⟩
        rw [List.length_append] at hxB
        have hxB : t1.len + t2.len ≤ B := hxB
        exact ⟨_, v1, v2, l, d, U, rs1, rs2, ts1, ts2, n1, n2, t1, t2, _, kvs, wd c, rfl, S1, S2, hl2, hd2, h2, by omega, .inl ⟨rfl, rfl, fin⟩⟩
      | insert w p c =>
        obtain ⟨u1, u2, hu1, hu2, hx⟩ := hx
        obtain ⟨v1, h1, rs1, ts1, n1, t1, S1, nd1, rfl⟩ := hE2.get hu1
        obtain ⟨v2, h2, rs2, ts2, n2, t2, S2, nd2, rfl⟩ := hE2.get hu2
        have x2 : Val (tVar 2) [some (.ref d), some (.ref a), some (.str (Rw.insert w p c).verb), some (.str (wd (Rw.insert w p c).new)), some (.ref l), none, none] H2 (.str "insert") := vx 2
        refine s_no (a_eq x2 vc rfl (by decide +kernel)) ?_
        refine a_eq (b := false) x2 vc rfl (by decide +kernel) _ (iteF ?_)
        refine a_eq (b := true) x2 vc rfl (by decide +kernel) _ (iteT ?_)
        refine ⟨_, rfl, .ref d, rfl, ?_⟩
        refine v_ixL (vx 4) vc (sqL hl2) (atI_nat (j := 0) rfl) _ ?_
        refine ⟨d, v1, rfl, by rw [← h1]; exact DGet.k (k := Sum.inr (wd w)) hd2, .ref l, rfl, .ref d, rfl, ?_⟩
        have hlen : t1.len + t2.len ≤ B := by
          rcases hx with ⟨_, rfl⟩ | ⟨_, rfl⟩
          · rw [List.length_append] at hxB
            have hxB : t2.len + t1.len ≤ B := hxB
            omega
          · rw [List.length_append] at hxB
            exact hxB
        refine ⟨_, v1, v2, l, d, U, rs1, rs2, ts1, ts2, n1, n2, t1, t2, _, kvs, wd c, rfl, S1, S2, hl2, hd2, h2, by omega, .inr ⟨rfl, rfl, p, rfl, ?_⟩⟩
        rcases hx with ⟨e1, rfl⟩ | ⟨e1, rfl⟩
        · exact .inl ⟨e1, fin⟩
        · exact .inr ⟨e1, fin⟩
    · rintro σ H3 ⟨u, rs, ts, n, t, Vn, rfl, s3, hu, hT, hz, ht, hxt, h7, hle, hmem⟩
      refine ⟨u, rfl, .int (n : Int), rfl, u, rs, ts, n, t, rfl, ⟨hu, hT, by omega⟩, ht, fun v' H' rs' ts' k s4 hp hT' nd sub hk => ?_⟩
      have hP' : Pool (U ++ (Vn ++ Vn.map Tr.rev)) B := hP.add fun y hy => Nat.le_trans (hle y hy) hxB
      have hlen' : (U ++ (Vn ++ Vn.map Tr.rev)).length ≤ U.length + 14 := by
        rw [List.length_append, List.length_append, List.length_map]
        omega
      have hmem' : ∀ y ∈ ts', y ∈ U ++ (Vn ++ Vn.map Tr.rev) := fun y hy => by
        rcases hmem y (sub y hy) with z | ⟨z, hz, e⟩ | z
        · exact List.mem_append.mpr (.inl z)
        · rw [e]
          exact List.mem_append.mpr (.inl (hP.rev z hz))
        · exact List.mem_append.mpr (.inr (List.mem_append.mpr (.inl z)))
      have hl' : rs'.length ≤ 10000 := by
        rw [hT'.len]
        have := nodup_len nd hmem'
        omega
      exact q v' H' (U ++ (Vn ++ Vn.map Tr.rev)) (s3.trans s4) ⟨rs', ts', k, t, ⟨hp, hT', hl', hk, hmem'⟩, nd, hxt⟩ (fun y hy => List.mem_append.mpr (.inl hy)) hlen' hP'
end
end Sb
set_option Elab.async false
set_option linter.all false
set_option maxRecDepth 100000
set_option maxHeartbeats 4000000
set_option pp.maxSteps 300
/-! Words, numbers and signs as they are written. -/
namespace Sb
open PySem PySem.Spec PyProof.Rows L2
theorem signs_in : ∀ c, c < 123 → ((48 ≤ c ∧ c ≤ 57) ∨ (65 ≤ c ∧ c ≤ 90) ∨ (97 ≤ c ∧ c ≤ 122)) → c ∈ (("0123456789ABCDEFGHIJKLMNOPQRSTUVWXYZabcdefghijklmnopqrstuvwxyz" : Str).cps.toList) := by decide +kernel
theorem sign_in {c : Nat} (h : OkC c) : decide (c ∈ (("0123456789ABCDEFGHIJKLMNOPQRSTUVWXYZabcdefghijklmnopqrstuvwxyz" : Str).cps.toList)) = true := decide_eq_true (signs_in c (by unfold OkC at h; omega) h)
theorem letters_in : ∀ c, c < 123 → 97 ≤ c → c ∈ (("abcdefghijklmnopqrstuvwxyz" : Str).cps.toList) := by decide +kernel
theorem figures_in : ∀ c, c < 58 → 48 ≤ c → c ∈ (("0123456789" : Str).cps.toList) := by decide +kernel
/-- the two words' signs -/
def wL : Bool → List Nat
  | false => [120]
  | true => [121]
theorem wd_tx (b : Bool) : wd b = tx (wL b) := by cases b <;> decide +kernel
abbrev numL := TL.numL
def numS (n : Nat) : Str := Str.ofString (toString ((n : Nat) : Int))
theorem numS_tx (n : Nat) : numS n = tx (numL n) := by
  have h := SX.S_tl (numS n)
  rw [show (numS n).cps.toList = numL n from TL.tl_num n] at h
  exact h.symm
theorem numL_head (n : Nat) : 1 ≤ n → ∃ d r, numL n = d :: r ∧ d ≠ 48 := by
  induction n using Nat.strongRecOn with
  | _ n ih =>
    intro h1
    by_cases h : n < 10
    · exact ⟨48 + n, [], TL.numL_lt h, by omega⟩
    · obtain ⟨d, r, e, hd⟩ := ih (n / 10) (by omega) (by omega)
      refine ⟨d, r ++ [48 + n % 10], ?_, hd⟩
      rw [show numL n = TL.numL n from rfl, TL.numL_step (by omega)]
      show numL (n / 10) ++ _ = _
      rw [e]
      rfl
/-- a word that is written, and what it writes -/
def ValOf (k : Str) (z : List Nat) (v : V) : Prop :=
  (k = "word" ∧ ∃ b, z = wL b ∧ v = .str (wd b)) ∨ (k = "place" ∧ ∃ n : Nat, n < 10 ^ 19 ∧ z = numL n ∧ v = .int (n : Int)) ∨ (k = "many" ∧ z = numL 2 ∧ v = .int 2) ∨ (k = "sign" ∧ ∃ c, OkC c ∧ z = [c] ∧ v = .str (ch c)) ∨
  (k = "signs" ∧ z ≠ [] ∧ z.length ≤ 40 ∧ (∀ c ∈ z, OkC c) ∧ v = .str (tx z))
section
variable {P : Program} {w : World} {K : PySem.W.Frag} {mg : Str → Option Value} {base : Heap}
def sp_is_sign : Sp := fun vs H Q _ => ∃ c, vs = [.str (ch c)] ∧ OkC c ∧ Q (.bl true) H
theorem ok_is_sign (T : Hd K mg) : Own P w K mg base "is_sign" ["thing"] 1 sp_is_sign := by
  refine own_mk T.d_is_sign sc_is_sign (fun vs H Q E h => ?_) (fun _ _ _ _ _ _ us hl => match us, hl with | [_], _ => rfl) (fun fa cdv A outer s H vs Q E hr h => ⟨_, (pss_one (ps_ret (pe_and (pe_callB call_isi (by rfl) T.z_isinstance (by decide +kernel) (pa_cons (pv 0) (pa_cons (pe_bltn (v := .ty "str") (by rfl) T.z_str (by decide +kernel) rfl) pa_nil))) (pe_and (pe_cmpR op_eq (pe_callB call_len_str (by rfl) T.z_len (by decide +kernel) (pa_cons (pv 0) pa_nil)) pe_int (nomark _)) (pe_one (pe_cmpR op_in_sign (pv 0) (pe_gs T.s_SIGNS (by rfl)) (by rfl))))))), ?_⟩)
  · obtain ⟨c, rfl, _⟩ := h
    rfl
  · obtain ⟨c, rfl, hc, q⟩ := h
    refine ⟨.str (ch c), rfl, .str (ch c), .ty "str", .type "str", .type "str", true, rfl, .ty _, .base (.str _), kit_ty (by decide +kernel), true, rfl, iteT ?_⟩
    refine ⟨.str (ch c), rfl, ch c, rfl, szl (by show 1 ≤ 200000; decide), rfl, true, ?_, ?_⟩
    · show V.bl (decide (V.int ((1 : Nat) : Int) = V.int 1)) = V.bl true
      rw [intd (show V.int ((1 : Nat) : Int) = V.int 1 from rfl)]
    · refine iteT ⟨.str (ch c), rfl, c, _, rfl, rfl, ?_⟩
      rw [sign_in hc]
      exact q
def sp_is_word : Sp := fun vs H Q _ => ∃ z : List Nat, vs = [.str (tx z)] ∧ z ≠ [] ∧ z.length ≤ 8 ∧ (∀ c ∈ z, 97 ≤ c ∧ c ≤ 122) ∧ Q (.bl true) H
theorem ok_is_word (T : Hd K mg) : Own P w K mg base "is_word" ["text"] 1 sp_is_word := by
  refine own_mk T.d_is_word sc_is_word (fun vs H Q E h => ?_) (fun _ _ _ _ _ _ us hl => match us, hl with | [_], _ => rfl) (fun fa cdv A outer s H vs Q E hr h => ⟨_, (pss_cons (ps_if (pt_not (pt_chain op_le op_le pe_int (pe_callB call_len_str (by rfl) T.z_len (by decide +kernel) (pa_cons (pv 0) pa_nil)) (pe_gi T.i_WORD (by rfl)))) (pss_one (ps_ret pe_bl)) pss_nil)
      (pss_cons (ps_for PassesOwn.never rfl (pi_str (pv 0)) (pg_name (i := 1) sc_is_word.nd rfl (Or.inl rfl)) (pss_one (ps_if (pt_cmpR op_notIn_sign (pv 1) (pe_gs T.s_LETTERS (by rfl)) (by rfl)) (pss_one (ps_ret pe_bl)) pss_nil)))
      (pss_one (ps_ret pe_bl)))), ?_⟩)
  · obtain ⟨z, rfl, _⟩ := h
    rfl
  · obtain ⟨z, rfl, hne, h8, hz, q⟩ := h
    have hpos : 0 < z.length := List.length_pos_iff.mpr hne
    refine ⟨.str (tx z), rfl, tx z, rfl, szl (by rw [tx_len]; omega), 1, ((tx z).length : Int), rfl, rfl, _, rfl, ?_⟩
    rw [tx_len, intd (show (1 : Int) ≤ (z.length : Int) by omega)]
    refine iteT ⟨(z.length : Int), 8, rfl, rfl, _, rfl, ?_⟩
    rw [intd (show (z.length : Int) ≤ 8 by omega)]
    refine iteF ⟨.str (tx z), rfl, tx z, rfl, for_it (walk_str (z := tx z)) (fun i σ H' => ∃ y, σ = [some (.str (tx z)), y] ∧ H' = H) ⟨none, rfl, rfl⟩ (fun _ _ _ _ _ => trivial) ?_ ?_⟩
    · rintro i x σ H1 H1' hi ⟨y, rfl, rfl⟩ ⟨rfl, c, hc, rfl⟩
      rw [tx_get] at hc
      obtain ⟨h1, h2⟩ := hz c (List.mem_of_getElem? hc)
      refine ⟨.str (ch c), rfl, c, _, rfl, rfl, _, rfl, ?_⟩
      rw [intd (letters_in c (by omega) h1)]
      exact iteF ⟨_, rfl, rfl⟩
    · rintro σ H1 ⟨y, rfl, rfl⟩
      exact q
def sp_number_of : Sp := fun vs H Q _ => ∃ (n : Nat) (m : Int), vs = [.str (tx (numL n)), .int m] ∧ n < 10 ^ 19 ∧ (n : Int) ≤ m ∧ Q (.int (n : Int)) H
theorem ok_number_of (T : Hd K mg) : Own P w K mg base "number_of" ["text", "most"] 1 sp_number_of := by
  refine own_mk T.d_number_of sc_number_of (fun vs H Q E h => ?_) (fun _ _ _ _ _ _ us hl => match us, hl with | [_, _], _ => rfl) (fun fa cdv A outer s H vs Q E hr h => ⟨_, (pss_cons (ps_if (PW.pt (pw_or (pt_not (pt_chain op_le op_le pe_int (pe_callB call_len_str (by rfl) T.z_len (by decide +kernel) (pa_cons (pv 0) pa_nil)) (pe_gi T.i_NUMBER (by rfl)))) (pw_or1 (PW.pt (pw_and (pt_cmpR op_gt (pe_callB call_len_str (by rfl) T.z_len (by decide +kernel) (pa_cons (pv 0) pa_nil)) pe_int (nomark _)) (pw_and1 (pt_cmpR op_eq (pe_ix ix_str (pv 0) pe_int (fun _ _ => rfl)) pe_str (nomark _)))))))) (pss_one (ps_ret pe_non)) pss_nil)
      (pss_cons (ps_for PassesOwn.never rfl (pi_str (pv 0)) (pg_name (i := 2) sc_number_of.nd rfl (Or.inl rfl)) (pss_one (ps_if (pt_cmpR op_notIn_sign (pv 2) (pe_gs T.s_FIGURES (by rfl)) (by rfl)) (pss_one (ps_ret pe_non)) pss_nil)))
      (pss_cons (ps_set (i := 3) sc_number_of.nd rfl (Or.inl rfl) (pe_callTy call_int_str (by rfl) T.z_int (by decide +kernel) (pa_cons (pv 0) pa_nil)))
      (pss_cons (ps_if (pt_cmpR op_gt (pv 3) (pv 1) (nomark _)) (pss_one (ps_ret pe_non)) pss_nil)
      (pss_one (ps_ret (pv 3))))))), ?_⟩)
  · obtain ⟨n, m, rfl, _⟩ := h
    rfl
  · obtain ⟨n, m, rfl, hn, hm, q⟩ := h
    have hl : (numL n).length ≤ 19 := TL.numL_len (by decide) hn
    have hne : numL n ≠ [] := TL.numL_ne n
    have hpos : 0 < (numL n).length := List.length_pos_iff.mpr hne
    refine ⟨.str (tx (numL n)), rfl, tx (numL n), rfl, szl (by rw [tx_len]; omega), 1, ((tx (numL n)).length : Int), rfl, rfl, _, rfl, ?_⟩
    rw [tx_len, intd (show (1 : Int) ≤ ((numL n).length : Int) by omega)]
    refine iteT ⟨((numL n).length : Int), 19, rfl, rfl, _, rfl, ?_⟩
    rw [intd (show ((numL n).length : Int) ≤ 19 by omega)]
    refine iteF ⟨.str (tx (numL n)), rfl, tx (numL n), rfl, szl (by rw [tx_len]; omega), ((tx (numL n)).length : Int), 1, rfl, rfl, _, rfl, ?_⟩
    rw [tx_len]
    have rest : tSeq (tFor (iStr (tVar 0)) (gName 2) (tIfS (tTest (tOp (fun x y H Q => ∃ (c : Nat) (z : Str), x = .str ⟨#[c]⟩ ∧ y = .str z ∧ Q (.bl (!decide (c ∈ z.cps.toList))) H) (tVar 2) (tC (.str "0123456789")))) (tRet (tC .non)) tNext))
        (tSeq (tAsg (tCB (fun xs H Q => ∃ a n, xs = [.str a] ∧ PySem.intText? a = some n ∧ a.length ≤ 640 ∧ Q (.int n) H) (tCons (tVar 0) tNil)) (gName 3)) (tSeq (tIfS (tTest (tOp (rI0 fun i j => .bl (decide (j < i))) (tVar 3) (tVar 1))) (tRet (tC .non)) tNext) (tRet (tVar 3))))
        { nx := fun _ H' => Q .non H', rt := Q } [some (.str (tx (numL n))), some (.int m), none, none] H := by
      refine ⟨.str (tx (numL n)), rfl, tx (numL n), rfl, for_it (walk_str (z := tx (numL n))) (fun i σ H' => ∃ y, σ = [some (.str (tx (numL n))), some (.int m), y, none] ∧ H' = H) ⟨none, rfl, rfl⟩ (fun _ _ _ _ _ => trivial) ?_ ?_⟩
      · rintro i x σ H1 H1' hi ⟨y, rfl, rfl⟩ ⟨rfl, c, hc, rfl⟩
        rw [tx_get] at hc
        obtain ⟨h1, h2⟩ := TL.numL_digits n c (List.mem_of_getElem? hc)
        refine ⟨.str (ch c), rfl, c, _, rfl, rfl, _, rfl, ?_⟩
        rw [intd (figures_in c (by omega) h1)]
        exact iteF ⟨_, rfl, rfl⟩
      · rintro σ H1 ⟨y, rfl, rfl⟩
        refine ⟨.str (tx (numL n)), rfl, tx (numL n), (n : Int), rfl, ?_, by rw [tx_len]; omega, ?_⟩
        · rw [← numS_tx]
          have hl' : (TL.numL n).length ≤ 19 := hl
          exact TL.int_num (by omega)
        · refine ⟨.int (n : Int), rfl, .int m, rfl, (n : Int), m, rfl, rfl, _, rfl, ?_⟩
          rw [intn (show ¬ m < (n : Int) by omega)]
          exact iteF ⟨_, rfl, q⟩
    by_cases h1 : 1 < (numL n).length
    · rw [intd (show (1 : Int) < ((numL n).length : Int) by omega)]
      have hn10 : 1 ≤ n := by
        by_cases h0 : n = 0
        · subst h0
          rw [show numL 0 = [48] from TL.numL_lt (by decide)] at h1
          simp at h1
        · omega
      obtain ⟨d, r, e, hd⟩ := numL_head n hn10
      have hat : atI (tx (numL n)).cps.toList ((0 : Nat) : Int) = some d := atI_nat (by
        show (numL n).toArray.toList[0]? = some d
        rw [e]
        rfl)
      refine iteT ⟨.str (tx (numL n)), rfl, tx (numL n), 0, d, rfl, rfl, szl (by rw [tx_len]; omega), hat, rfl, _, rfl, ?_⟩
      have ez : ("0" : Str) = ch 48 := by decide +kernel
      rw [intn (show ¬ V.str ⟨#[d]⟩ = V.str "0" from fun z => hd (ch_inj ((V.str.inj z).trans ez)))]
      exact iteF rest
    · rw [intn (show ¬ (1 : Int) < ((numL n).length : Int) by omega)]
      exact iteF (iteF rest)
def sp_signs_of : Sp := fun vs H Q _ => ∃ (z : List Nat) (m : Int), vs = [.str (tx z), .int m] ∧ z ≠ [] ∧ z.length ≤ 40 ∧ (z.length : Int) ≤ m ∧ (∀ c ∈ z, OkC c) ∧ Q (.str (tx z)) H
theorem ok_signs_of (T : Hd K mg) : Own P w K mg base "signs_of" ["text", "most"] 2 sp_signs_of := by
  refine own_mk T.d_signs_of sc_signs_of (fun vs H Q E h => ?_) (fun _ _ _ _ _ _ us hl => match us, hl with | [_, _], _ => rfl) (fun fa cdv A outer s H vs Q E hr h => ⟨_, (pss_cons (ps_if (pt_not (pt_chain op_le op_le pe_int (pe_callB call_len_str (by rfl) T.z_len (by decide +kernel) (pa_cons (pv 0) pa_nil)) (pv 1))) (pss_one (ps_ret pe_non)) pss_nil)
      (pss_cons (ps_for PassesOwn.never rfl (pi_str (pv 0)) (pg_name (i := 2) sc_signs_of.nd rfl (Or.inl rfl)) (pss_one (ps_if (pt_not (pt_val (pe_own (ok_is_sign T) (hr.mono (by decide)) (by rfl) (pa_cons (pv 2) pa_nil)))) (pss_one (ps_ret pe_non)) pss_nil)))
      (pss_one (ps_ret (pv 0))))), ?_⟩)
  · obtain ⟨z, m, rfl, _⟩ := h
    rfl
  · obtain ⟨z, m, rfl, hne, h40, hm, hz, q⟩ := h
    have hpos : 0 < z.length := List.length_pos_iff.mpr hne
    refine ⟨.str (tx z), rfl, tx z, rfl, szl (by rw [tx_len]; omega), 1, ((tx z).length : Int), rfl, rfl, _, rfl, ?_⟩
    rw [tx_len, intd (show (1 : Int) ≤ (z.length : Int) by omega)]
    refine iteT ⟨.int m, rfl, (z.length : Int), m, rfl, rfl, _, rfl, ?_⟩
    rw [intd hm]
    refine iteF ⟨.str (tx z), rfl, tx z, rfl, for_it (walk_str (z := tx z)) (fun i σ H' => ∃ y, σ = [some (.str (tx z)), some (.int m), y] ∧ H' = H) ⟨none, rfl, rfl⟩ (fun _ _ _ _ _ => trivial) ?_ ?_⟩
    · rintro i x σ H1 H1' hi ⟨y, rfl, rfl⟩ ⟨rfl, c, hc, rfl⟩
      rw [tx_get] at hc
      exact ⟨.str (ch c), rfl, c, rfl, hz c (List.mem_of_getElem? hc), true, rfl, iteF ⟨_, rfl, rfl⟩⟩
    · rintro σ H1 ⟨y, rfl, rfl⟩
      exact ⟨_, rfl, q⟩
def sp_value_of : Sp := fun vs H Q _ => ∃ (k : Str) (z : List Nat) (v : V), vs = [.str k, .str (tx z)] ∧ ValOf k z v ∧ Q v H
theorem ok_value_of (T : Hd K mg) : Own P w K mg base "value_of" ["kind", "word"] 3 sp_value_of := by
  refine own_mk T.d_value_of sc_value_of (fun vs H Q E h => ?_) (fun _ _ _ _ _ _ us hl => match us, hl with | [_, _], _ => rfl) (fun fa cdv A outer s H vs Q E hr h => ⟨_, (pss_cons (ps_if (pt_cmpR op_eq (pv 0) pe_str (nomark _)) (pss_cons (ps_if (pt_val (pe_own (ok_is_word T) (hr.mono (by decide)) (by rfl) (pa_cons (pv 1) pa_nil))) (pss_one (ps_ret (pv 1))) pss_nil)
      (pss_one (ps_ret pe_non))) pss_nil)
      (pss_cons (ps_if (pt_cmpR op_eq (pv 0) pe_str (nomark _)) (pss_one (ps_ret (pe_own (ok_number_of T) (hr.mono (by decide)) (by rfl) (pa_cons (pv 1) (pa_cons (pe_op op_pow pe_int pe_int) pa_nil))))) pss_nil)
      (pss_cons (ps_if (pt_cmpR op_eq (pv 0) pe_str (nomark _)) (pss_one (ps_ret (pe_own (ok_number_of T) (hr.mono (by decide)) (by rfl) (pa_cons (pv 1) (pa_cons (pe_gi T.i_MOST (by rfl)) pa_nil))))) pss_nil)
      (pss_cons (ps_if (pt_cmpR op_eq (pv 0) pe_str (nomark _)) (pss_one (ps_ret (pe_own (ok_signs_of T) (hr.mono (by decide)) (by rfl) (pa_cons (pv 1) (pa_cons pe_int pa_nil))))) pss_nil)
      (pss_cons (ps_if (pt_cmpR op_eq (pv 0) pe_str (nomark _)) (pss_one ps_never) pss_nil)
      (pss_one (ps_ret (pe_own (ok_signs_of T) (hr.mono (by decide)) (by rfl) (pa_cons (pv 1) (pa_cons (pe_gi T.i_WRITTEN_words (by rfl)) pa_nil)))))))))), ?_⟩)
  · obtain ⟨k, z, v, rfl, _⟩ := h
    rfl
  · obtain ⟨k, z, v, rfl, hv, q⟩ := h
    rcases hv with ⟨rfl, b, rfl, rfl⟩ | ⟨rfl, n, hn, rfl, rfl⟩ | ⟨rfl, rfl, rfl⟩ | ⟨rfl, c, hc, rfl, rfl⟩ | ⟨rfl, hne, h40, hz, rfl⟩
    · refine s_yes (a_eq (vx 0) vc rfl (by decide +kernel)) ?_
      refine ⟨.str (tx (wL b)), rfl, wL b, rfl, by cases b <;> exact List.cons_ne_nil _ _, by cases b <;> decide, by cases b <;> decide, true, rfl, iteT ⟨_, rfl, ?_⟩⟩
      rw [← wd_tx]
      exact q
    · refine s_no (a_eq (vx 0) vc rfl (by decide +kernel)) ?_
      refine s_yes (a_eq (vx 0) vc rfl (by decide +kernel)) ?_
      refine ⟨.str (tx (numL n)), rfl, 10, 19, rfl, rfl, ⟨by decide, by decide, by decide⟩, n, _, rfl, hn, ?_, q⟩
      have e : ((10 : Int) ^ (19 : Int).toNat) = ((10 ^ 19 : Nat) : Int) := by decide
      show (n : Int) ≤ (10 : Int) ^ (19 : Int).toNat
      rw [e]
      omega
    · refine s_no (a_eq (vx 0) vc rfl (by decide +kernel)) ?_
      refine s_no (a_eq (vx 0) vc rfl (by decide +kernel)) ?_
      refine s_yes (a_eq (vx 0) vc rfl (by decide +kernel)) ?_
      exact ⟨.str (tx (numL 2)), rfl, 2, _, rfl, by decide, by decide, q⟩
    · refine s_no (a_eq (vx 0) vc rfl (by decide +kernel)) ?_
      refine s_no (a_eq (vx 0) vc rfl (by decide +kernel)) ?_
      refine s_no (a_eq (vx 0) vc rfl (by decide +kernel)) ?_
      refine s_yes (a_eq (vx 0) vc rfl (by decide +kernel)) ?_
      refine ⟨.str (tx [c]), rfl, [c], 1, rfl, List.cons_ne_nil _ _, by show 1 ≤ 40; decide, by show ((1 : Nat) : Int) ≤ 1; decide, fun d hd => ?_, q⟩
      rw [List.mem_singleton.mp hd]
      exact hc
    · refine s_no (a_eq (vx 0) vc rfl (by decide +kernel)) ?_
      refine s_no (a_eq (vx 0) vc rfl (by decide +kernel)) ?_
      refine s_no (a_eq (vx 0) vc rfl (by decide +kernel)) ?_
      refine s_no (a_eq (vx 0) vc rfl (by decide +kernel)) ?_
      refine s_no (a_eq (vx 0) vc rfl (by decide +kernel)) ?_
      exact ⟨.str (tx z), rfl, z, 40, rfl, hne, h40, by omega, hz, q⟩
def sp_values_of : Sp := fun vs H Q _ => ∃ (k l : Addr) (tr : List (Str × List Nat × V)), vs = [.ref k, .ref l] ∧ H k = some (.lst (tr.map fun q => V.str q.1)) ∧ H l = some (.lst (tr.map fun q => V.str (tx q.2.1))) ∧ (∀ q ∈ tr, ValOf q.1 q.2.1 q.2.2) ∧ tr.length ≤ 1000 ∧
  ∀ p H', Same H H' → H p = none → H' p = some (.lst (tr.map fun q => q.2.2)) → Q (.ref p) H'
theorem ok_values_of (T : Hd K mg) : Own P w K mg base "values_of" ["kinds", "words"] 4 sp_values_of := by
  refine own_mk T.d_values_of sc_values_of (fun vs H Q E h => ?_) (fun _ _ _ _ _ _ us hl => match us, hl with | [_, _], _ => rfl) (fun fa cdv A outer s H vs Q E hr h => ⟨_, (pss_cons (ps_if (pt_cmpR op_ne (pe_callB call_len_seq (by rfl) T.z_len (by decide +kernel) (pa_cons (pv 0) pa_nil)) (pe_callB call_len_seq (by rfl) T.z_len (by decide +kernel) (pa_cons (pv 1) pa_nil)) (nomark _)) (pss_one (ps_ret pe_non)) pss_nil)
      (pss_cons (ps_set (i := 2) sc_values_of.nd rfl (Or.inl rfl) (pe_lst pa_nil))
      (pss_cons (ps_for PassesOwn.never rfl (pi_zip (by rfl) T.z_zip (pa_cons (pv 0) (pa_cons (pv 1) pa_nil))) (pg_tup rfl (pgs_cons (pg_name (i := 3) sc_values_of.nd rfl (Or.inl rfl)) (pgs_cons (pg_name (i := 4) sc_values_of.nd rfl (Or.inl rfl)) pgs_nil))) (pss_cons (ps_set (i := 5) sc_values_of.nd rfl (Or.inl rfl) (pe_own (ok_value_of T) (hr.mono (by decide)) (by rfl) (pa_cons (pv 3) (pa_cons (pv 4) pa_nil))))
      (pss_cons (ps_if (pt_cmpR op_isN (pv 5) pe_non (nomark _)) (pss_one (ps_ret pe_non)) pss_nil)
      (pss_one (ps_expr (pe_bm PySem.F.plainAttrs_list PySem.F.slot_list_append PySem.F.type_list_append mt_append (pv 2) (pa_cons (pv 5) pa_nil)))))))
      (pss_one (ps_ret (pv 2)))))), ?_⟩)
  · obtain ⟨k, l, tr, rfl, _⟩ := h
    rfl
  · obtain ⟨k, l, tr, rfl, hk, hl, hv, hz, q⟩ := h
    refine ⟨.ref k, rfl, k, _, rfl, .inl (sqL hk), .ref l, rfl, l, _, rfl, .inl (sqL hl), rfl, _, rfl, ?_⟩
    rw [List.length_map, List.length_map]
    rw [intd (show V.int (tr.length : Int) = V.int (tr.length : Int) from rfl)]
    refine iteF ⟨Nat.zero_le _, fun p np => ?_⟩
    have s1 := same_new (o := HO.lst []) np
    refine ⟨.ref k, rfl, .ref l, rfl, k, l, _, _, rfl, sqL (s1 _ _ hk), sqL (s1 _ _ hl), for_it (walk_zip (n := tr.length) (by rw [List.length_map, List.length_map]; omega)) (fun i σ H' => ∃ y3 y4 y5, σ = [some (.ref k), some (.ref l), some (.ref p), y3, y4, y5] ∧ Same H H' ∧ H' p = some (.lst ((tr.take i).map fun q => q.2.2)))
      ⟨none, none, none, rfl, s1, upd_same⟩ (fun i σ H' _ ⟨_, _, _, _, s, _⟩ => ⟨sqL (s _ _ hk), sqL (s _ _ hl)⟩) ?_ ?_⟩
    · rintro i x σ H1 H1' hi ⟨y3, y4, y5, rfl, sH, hp⟩ ⟨T', a, b, rfl, nT, rfl, ha, hb⟩
      obtain ⟨t, ht⟩ := get_at hi
      have ha : (tr.map fun q => V.str q.1)[i]? = some a := ha
      have hb : (tr.map fun q => V.str (tx q.2.1))[i]? = some b := hb
      rw [List.getElem?_map, ht] at ha hb
      cases ha
      cases hb
      have sT := same_new (o := HO.tup [V.str t.1, V.str (tx t.2.1)]) nT
      have hp2 := sT _ _ hp
      have hvt := hv t (List.mem_of_getElem? ht)
      have hnn : t.2.2 ≠ .non := by
        rcases hvt with ⟨_, b, _, e⟩ | ⟨_, n, _, _, e⟩ | ⟨_, _, e⟩ | ⟨_, c, _, _, e⟩ | ⟨_, _, _, _, e⟩ <;> rw [e] <;> intro z <;> cases z
      refine ⟨T', _, rfl, sqT upd_same, rfl, .str t.1, _, rfl, .str (tx t.2.1), [], rfl, rfl, ?_⟩
      refine ⟨.str t.1, rfl, .str (tx t.2.1), rfl, t.1, t.2.1, t.2.2, rfl, hvt, ?_⟩
      refine ⟨t.2.2, rfl, rfl, _, rfl, ?_⟩
      rw [intn hnn]
      refine iteF ⟨.ref p, rfl, .inl ⟨rfl, _, sqL hp2⟩, t.2.2, rfl, p, _, _, rfl, rfl, hp2, szt (by rw [List.length_map, List.length_take]; omega), ?_⟩
      refine ⟨_, _, _, rfl, Same.mut (sH.trans sT) np, ?_⟩
      rw [upd_same, take_snoc ht, List.map_append]
      rfl
    · rintro σ H1 ⟨y3, y4, y5, rfl, sH, hp⟩
      rw [List.take_length] at hp
      exact ⟨.ref p, rfl, q p H1 sH np hp⟩
end
end Sb
set_option Elab.async false
set_option linter.all false
set_option maxRecDepth 100000
set_option maxHeartbeats 4000000
set_option pp.maxSteps 300
/-! Rows as texts: statements and askings. -/
namespace Sb
open PySem PySem.Spec PyProof.Rows L2
def Rw.verbL : Rw → List Nat
  | .is _ _ => [105, 115]
  | .turn _ => [116, 117, 114, 110]
  | .join _ _ _ => [106, 111, 105, 110]
  | .times _ => [116, 105, 109, 101, 115]
  | .insert _ _ _ => [105, 110, 115, 101, 114, 116]
theorem Rw.verb_tx : ∀ r : Rw, r.verb = tx r.verbL
  | .is _ _ => (by decide +kernel : ("is" : Str) = tx [105, 115])
  | .turn _ => (by decide +kernel : ("turn" : Str) = tx [116, 117, 114, 110])
  | .join _ _ _ => (by decide +kernel : ("join" : Str) = tx [106, 111, 105, 110])
  | .times _ => (by decide +kernel : ("times" : Str) = tx [116, 105, 109, 101, 115])
  | .insert _ _ _ => (by decide +kernel : ("insert" : Str) = tx [105, 110, 115, 101, 114, 116])
/-- kind, word, value behind the verb -/
def Rw.tr : Rw → List (Str × List Nat × V)
  | .is _ s => [("signs", s, .str (tx s))]
  | .turn w => [("word", wL w, .str (wd w))]
  | .join _ a b => [("word", wL a, .str (wd a)), ("word", wL b, .str (wd b))]
  | .times w => [("word", wL w, .str (wd w)), ("many", numL 2, .int 2)]
  | .insert w p o => [("word", wL w, .str (wd w)), ("place", numL p, .int (p : Int)), ("word", wL o, .str (wd o))]
theorem Rw.tr_kinds (r : Rw) : r.tr.map (fun q => V.str q.1) = r.kinds.map V.str := by cases r <;> rfl
theorem Rw.tr_vals (r : Rw) : r.tr.map (fun q => q.2.2) = r.vals := by cases r <;> rfl
def Rw.fine : Rw → Prop
  | .is _ s => s ≠ [] ∧ s.length ≤ 4 ∧ ∀ c ∈ s, OkC c
  | .insert _ p _ => p < 10 ^ 19
  | _ => True
theorem word_val (b : Bool) : ValOf "word" (wL b) (.str (wd b)) := .inl ⟨rfl, b, rfl, rfl⟩
theorem Rw.tr_ok {r : Rw} (h : r.fine) : ∀ q ∈ r.tr, ValOf q.1 q.2.1 q.2.2 := by
  have two : ∀ {a b : Str × List Nat × V}, ValOf a.1 a.2.1 a.2.2 → ValOf b.1 b.2.1 b.2.2 → ∀ q ∈ [a, b], ValOf q.1 q.2.1 q.2.2 := fun h1 h2 q hq => by
    rcases List.mem_cons.mp hq with e | e
    · rw [e]
      exact h1
    · rw [List.mem_singleton.mp e]
      exact h2
  cases r with
  | is w s =>
    intro q hq
    rw [List.mem_singleton.mp hq]
    exact .inr (.inr (.inr (.inr ⟨rfl, h.1, by have := h.2.1; show s.length ≤ 40; omega, h.2.2, rfl⟩)))
  | turn w =>
    intro q hq
    rw [List.mem_singleton.mp hq]
    exact word_val w
  | join w a b => exact two (word_val a) (word_val b)
  | times w => exact two (word_val w) (.inr (.inr (.inl ⟨rfl, rfl, rfl⟩)))
  | insert w p o =>
    intro q hq
    rcases List.mem_cons.mp hq with e | hq
    · rw [e]
      exact word_val w
    · exact two (a := ("place", numL p, .int (p : Int))) (b := ("word", wL o, .str (wd o))) (.inr (.inl ⟨rfl, p, h, rfl, rfl⟩)) (word_val o) q hq
def Rw.words (r : Rw) : List (List Nat) := wL r.new :: r.verbL :: r.tr.map (fun q => q.2.1)
def Rw.text (r : Rw) : List Nat := TL.joinL [32] r.words
/-! ### askings -/
inductive Ak where
  | length (w : Bool)
  | sign (w : Bool) (p : Nat)
  | count (w : Bool) (c : Nat)
def Ak.verb : Ak → Str
  | .length _ => "length"
  | .sign _ _ => "sign"
  | .count _ _ => "count"
def Ak.verbL : Ak → List Nat
  | .length _ => [108, 101, 110, 103, 116, 104]
  | .sign _ _ => [115, 105, 103, 110]
  | .count _ _ => [99, 111, 117, 110, 116]
theorem Ak.verb_tx : ∀ a : Ak, a.verb = tx a.verbL
  | .length _ => (by decide +kernel : ("length" : Str) = tx [108, 101, 110, 103, 116, 104])
  | .sign _ _ => (by decide +kernel : ("sign" : Str) = tx [115, 105, 103, 110])
  | .count _ _ => (by decide +kernel : ("count" : Str) = tx [99, 111, 117, 110, 116])
def Ak.word : Ak → Bool
  | .length w => w
  | .sign w _ => w
  | .count w _ => w
def Ak.more : Ak → List (Str × List Nat × V)
  | .length _ => []
  | .sign _ p => [("place", numL p, .int (p : Int))]
  | .count _ c => [("sign", [c], .str (ch c))]
def Ak.tr (a : Ak) : List (Str × List Nat × V) := ("word", wL a.word, .str (wd a.word)) :: a.more
def Ak.fine : Ak → Prop
  | .length _ => True
  | .sign _ p => p < 10 ^ 19
  | .count _ c => OkC c
theorem Ak.tr_ok {a : Ak} (h : a.fine) : ∀ q ∈ a.tr, ValOf q.1 q.2.1 q.2.2 := fun q hq => by
  rcases List.mem_cons.mp hq with e | e
  · rw [e]
    exact word_val _
  · cases a with
    | length w => cases e
    | sign w p =>
      rw [List.mem_singleton.mp e]
      exact .inr (.inl ⟨rfl, p, h, rfl, rfl⟩)
    | count w c =>
      rw [List.mem_singleton.mp e]
      exact .inr (.inr (.inr (.inl ⟨rfl, c, h, rfl, rfl⟩)))
def Ak.words (a : Ak) : List (List Nat) := a.verbL :: a.tr.map (fun q => q.2.1)
def Ak.text (a : Ak) : List Nat := TL.joinL [32] a.words
/-! ### no blank within a word, none too long -/
def Clean (z : List Nat) : Prop := z.length ≤ 40 ∧ ∀ c ∈ z, OkC c
theorem OkC.of_small {c : Nat} (h1 : 97 ≤ c) (h2 : c ≤ 122) : OkC c := .inr (.inr ⟨h1, h2⟩)
theorem clean_wL (b : Bool) : Clean (wL b) := by
  cases b <;> exact ⟨by decide, fun c hc => by rw [List.mem_singleton.mp hc]; exact OkC.of_small (by decide) (by decide)⟩
theorem clean_num {n : Nat} (h : n < 10 ^ 19) : Clean (numL n) := ⟨Nat.le_trans (TL.numL_len (by decide) h) (by decide), fun c hc => by
  have := TL.numL_digits n c hc
  exact .inl this⟩
theorem clean_val {k : Str} {z : List Nat} {v : V} (h : ValOf k z v) : Clean z := by
  rcases h with ⟨_, b, rfl, _⟩ | ⟨_, n, hn, rfl, _⟩ | ⟨_, rfl, _⟩ | ⟨_, c, hc, rfl, _⟩ | ⟨_, _, h40, hz, _⟩
  · exact clean_wL b
  · exact clean_num hn
  · exact clean_num (by decide)
  · exact ⟨by show 1 ≤ 40; decide, fun d hd => by rw [List.mem_singleton.mp hd]; exact hc⟩
  · exact ⟨h40, hz⟩
theorem low : ∀ {z : List Nat}, (z.length ≤ 8 ∧ ∀ c ∈ z, 97 ≤ c ∧ c ≤ 122) → Clean z := fun h => ⟨by omega, fun c hc => OkC.of_small (h.2 c hc).1 (h.2 c hc).2⟩
theorem Rw.verb_low : ∀ r : Rw, r.verbL.length ≤ 8 ∧ ∀ c ∈ r.verbL, 97 ≤ c ∧ c ≤ 122
  | .is _ _ => (by decide : ([105, 115] : List Nat).length ≤ 8 ∧ ∀ c ∈ ([105, 115] : List Nat), 97 ≤ c ∧ c ≤ 122)
  | .turn _ => (by decide : ([116, 117, 114, 110] : List Nat).length ≤ 8 ∧ ∀ c ∈ ([116, 117, 114, 110] : List Nat), 97 ≤ c ∧ c ≤ 122)
  | .join _ _ _ => (by decide : ([106, 111, 105, 110] : List Nat).length ≤ 8 ∧ ∀ c ∈ ([106, 111, 105, 110] : List Nat), 97 ≤ c ∧ c ≤ 122)
  | .times _ => (by decide : ([116, 105, 109, 101, 115] : List Nat).length ≤ 8 ∧ ∀ c ∈ ([116, 105, 109, 101, 115] : List Nat), 97 ≤ c ∧ c ≤ 122)
  | .insert _ _ _ => (by decide : ([105, 110, 115, 101, 114, 116] : List Nat).length ≤ 8 ∧ ∀ c ∈ ([105, 110, 115, 101, 114, 116] : List Nat), 97 ≤ c ∧ c ≤ 122)
theorem Rw.tr_len : ∀ r : Rw, 1 ≤ r.tr.length ∧ r.tr.length ≤ 3
  | .is _ _ => (by decide : 1 ≤ 1 ∧ 1 ≤ 3)
  | .turn _ => (by decide : 1 ≤ 1 ∧ 1 ≤ 3)
  | .join _ _ _ => (by decide : 1 ≤ 2 ∧ 2 ≤ 3)
  | .times _ => (by decide : 1 ≤ 2 ∧ 2 ≤ 3)
  | .insert _ _ _ => (by decide : 1 ≤ 3 ∧ 3 ≤ 3)
theorem Ak.more_len : ∀ a : Ak, a.more.length ≤ 1
  | .length _ => (by decide : 0 ≤ 1)
  | .sign _ _ => (by decide : 1 ≤ 1)
  | .count _ _ => (by decide : 1 ≤ 1)
theorem Ak.verb_low : ∀ r : Ak, r.verbL.length ≤ 8 ∧ ∀ c ∈ r.verbL, 97 ≤ c ∧ c ≤ 122
  | .length _ => (by decide : ([108, 101, 110, 103, 116, 104] : List Nat).length ≤ 8 ∧ ∀ c ∈ ([108, 101, 110, 103, 116, 104] : List Nat), 97 ≤ c ∧ c ≤ 122)
  | .sign _ _ => (by decide : ([115, 105, 103, 110] : List Nat).length ≤ 8 ∧ ∀ c ∈ ([115, 105, 103, 110] : List Nat), 97 ≤ c ∧ c ≤ 122)
  | .count _ _ => (by decide : ([99, 111, 117, 110, 116] : List Nat).length ≤ 8 ∧ ∀ c ∈ ([99, 111, 117, 110, 116] : List Nat), 97 ≤ c ∧ c ≤ 122)
theorem Rw.clean {r : Rw} (h : r.fine) : ∀ z ∈ r.words, Clean z := fun z hz => by
  rcases List.mem_cons.mp hz with e | hz
  · rw [e]
    exact clean_wL _
  · rcases List.mem_cons.mp hz with e | hz
    · rw [e]
      exact low r.verb_low
    · obtain ⟨q, hq, e⟩ := List.mem_map.mp hz
      rw [← e]
      exact clean_val (Rw.tr_ok h q hq)
theorem Ak.clean {a : Ak} (h : a.fine) : ∀ z ∈ a.words, Clean z := fun z hz => by
  rcases List.mem_cons.mp hz with e | hz
  · rw [e]
    exact low a.verb_low
  · obtain ⟨q, hq, e⟩ := List.mem_map.mp hz
    rw [← e]
    exact clean_val (Ak.tr_ok h q hq)
theorem clean_no {z : List Nat} (h : Clean z) {c : Nat} (hc : c < 48 ∨ (57 < c ∧ c < 65)) : c ∉ z := fun hm => by
  have := h.2 c hm
  unfold OkC at this
  omega
theorem joinL_len : ∀ ws : List (List Nat), (∀ z ∈ ws, Clean z) → (TL.joinL [32] ws).length ≤ 41 * ws.length
  | [], _ => Nat.zero_le _
  | [p], h => by
    have := (h p (List.mem_singleton.mpr rfl)).1
    show p.length ≤ 41 * 1
    omega
  | p :: q :: r, h => by
    have h1 := (h p (List.mem_cons_self ..)).1
    have h2 := joinL_len (q :: r) fun z hz => h z (List.mem_cons_of_mem _ hz)
    show (p ++ ([32] ++ TL.joinL [32] (q :: r))).length ≤ 41 * ((q :: r).length + 1)
    rw [List.length_append, List.length_append, List.length_singleton]
    omega
theorem blank : (" " : Str) = SX.S [32] := by decide +kernel
/-- a row is parted at its blanks -/
theorem split_row {ws : List (List Nat)} (hne : ws ≠ []) (h : ∀ z ∈ ws, Clean z) : Txt.split (tx (TL.joinL [32] ws)) " " = ws.map tx := by
  rw [blank]
  show Txt.split (SX.S (TL.joinL [32] ws)) (SX.S [32]) = _
  rw [SX.split_S (List.cons_ne_nil _ _) (by decide), TL.spl_join hne fun p hp => clean_no (h p hp) (.inl (by decide))]
theorem cut_from (xs : List V) (k : Nat) (hk : k ≤ xs.length) : cutV xs (some (k : Int)) none = xs.drop k := by
  unfold cutV
  rw [show HT.sIx xs.length 0 (some (k : Int)) = min k xs.length from HT.sIx_nat xs.length 0 k, HT.sIx_none, Nat.min_eq_left hk]
  exact List.take_of_length_le (by rw [List.length_drop]; omega)
section
variable {P : Program} {w : World} {K : PySem.W.Frag} {mg : Str → Option Value} {base : Heap}
def sp_statement_of : Sp := fun vs H Q _ => ∃ z : List Nat, vs = [.str (tx z)] ∧ ((∃ r : Rw, r.fine ∧ z = r.text ∧ ∀ v' H', Same H H' → DeedAt H' v' r → Q v' H') ∨ (∃ a : Ak, a.fine ∧ z = a.text ∧ ∀ H', Same H H' → Q .non H'))
theorem ok_statement_of (T : Hd K mg) : Own P w K mg base "statement_of" ["row"] 5 sp_statement_of := by
  refine own_mk T.d_statement_of sc_statement_of (fun vs H Q E h => ?_) (fun _ _ _ _ _ _ us hl => match us, hl with | [_], _ => rfl) (fun fa cdv A outer s H vs Q E hr h => ⟨_, (pss_cons (ps_set (i := 1) sc_statement_of.nd rfl (Or.inl rfl) (pe_split (pv 0) pe_str))
      (pss_cons (ps_if (PW.pt (pw_or (pt_cmpR op_lt (pe_callB call_len_seq (by rfl) T.z_len (by decide +kernel) (pa_cons (pv 1) pa_nil)) pe_int (nomark _)) (pw_or1 (pt_not (pt_val (pe_own (ok_is_word T) (hr.mono (by decide)) (by rfl) (pa_cons (pe_ix ix_list (pv 1) pe_int (fun _ _ => rfl)) pa_nil))))))) (pss_one (ps_ret pe_non)) pss_nil)
      (pss_cons (ps_set (i := 2) sc_statement_of.nd rfl (Or.inl rfl) (pe_own (ok_kinds_of T) (hr.mono (by decide)) (by rfl) (pa_cons (pe_ix ix_list (pv 1) pe_int (fun _ _ => rfl)) pa_nil)))
      (pss_cons (ps_if (pt_cmpR op_isN (pv 2) pe_non (nomark _)) (pss_one (ps_ret pe_non)) pss_nil)
      (pss_cons (ps_set (i := 3) sc_statement_of.nd rfl (Or.inl rfl) (pe_own (ok_values_of T) (hr.mono (by decide)) (by rfl) (pa_cons (pv 2) (pa_cons (pe_slice sl_list (pv 1) (po_some pe_int) po_none) pa_nil))))
      (pss_cons (ps_if (pt_cmpR op_isN (pv 3) pe_non (nomark _)) (pss_one (ps_ret pe_non)) pss_nil)
      (pss_one (ps_ret (pe_tup (pa_cons (pe_ix ix_list (pv 1) pe_int (fun _ _ => rfl)) (pa_cons (pe_ix ix_list (pv 1) pe_int (fun _ _ => rfl)) (pa_cons (pv 3) pa_nil)))))))))))), ?_⟩)
  · obtain ⟨z, rfl, _⟩ := h
    rfl
  · obtain ⟨z, rfl, h⟩ := h
    rcases h with ⟨r, hf, rfl, q⟩ | ⟨a, hf, rfl, q⟩
    · have hcl := Rw.clean hf
      have hsp := split_row (ws := r.words) (List.cons_ne_nil _ _) hcl
      have hlen := joinL_len r.words hcl
      have hwl : r.words.length = 2 + r.tr.length := by
        show (r.tr.map _).length + 1 + 1 = _
        rw [List.length_map]
        omega
      have htl := r.tr_len
      refine ⟨.str (tx r.text), rfl, ⟨_, rfl⟩, tx r.text, " ", rfl, rfl, by decide +kernel, szl (by rw [tx_len]; show (TL.joinL [32] r.words).length + 2 ≤ 200000; omega), ?_⟩
      show rNewStrs (Txt.split (tx (TL.joinL [32] r.words)) " ") H _
      rw [hsp]
      refine fun p np => ?_
      have s1 := same_new (o := HO.lst ((r.words.map tx).map V.str)) np
      have hp : upd H p (.lst ((r.words.map tx).map V.str)) p = some (.lst ((r.words.map tx).map V.str)) := upd_same
      generalize upd H p (.lst ((r.words.map tx).map V.str)) = H1 at s1 hp
      have g0 : ((r.words.map tx).map V.str)[0]? = some (.str (tx (wL r.new))) := rfl
      have g1 : ((r.words.map tx).map V.str)[1]? = some (.str (tx r.verbL)) := rfl
      refine ⟨.ref p, rfl, p, _, rfl, .inl (sqL hp), _, 3, rfl, rfl, _, rfl, ?_⟩
      rw [List.length_map, List.length_map, hwl, intn (show ¬ ((2 + r.tr.length : Nat) : Int) < 3 by omega)]
      refine iteF (v_ixL (vx 1) vc (sqL hp) (atI_nat (j := 0) g0) _ ?_)
      refine ⟨wL r.new, rfl, by cases r.new <;> exact List.cons_ne_nil _ _, by cases r.new <;> decide, by cases r.new <;> decide, true, rfl, iteF ?_⟩
      refine v_ixL (vx 1) vc (sqL hp) (atI_nat (j := 1) g1) _ ?_
      refine ⟨tx r.verbL, rfl, .inl ⟨r, r.verb_tx.symm, fun k nk => ?_⟩⟩
      have s2 := same_new (o := HO.lst (r.kinds.map V.str)) nk
      have hk : upd H1 k (.lst (r.kinds.map V.str)) k = some (.lst (r.kinds.map V.str)) := upd_same
      generalize upd H1 k (.lst (r.kinds.map V.str)) = H2 at s2 hk
      have hp2 := s2 _ _ hp
      refine ⟨.ref k, rfl, rfl, _, rfl, iteF ?_⟩
      refine ⟨.ref k, rfl, .ref p, rfl, 2, rfl, p, _, rfl, sqL hp2, fun c nc => ?_⟩
      have ec : cutV ((r.words.map tx).map V.str) (some 2) none = ((r.words.map tx).map V.str).drop 2 := cut_from _ 2 (by rw [List.length_map, List.length_map]; omega)
      rw [ec]
      have s3 := same_new (o := HO.lst (((r.words.map tx).map V.str).drop 2)) nc
      have hc : upd H2 c (.lst (((r.words.map tx).map V.str).drop 2)) c = some (.lst (((r.words.map tx).map V.str).drop 2)) := upd_same
      generalize upd H2 c (.lst (((r.words.map tx).map V.str).drop 2)) = H3 at s3 hc
      refine ⟨k, c, r.tr, rfl, by rw [Rw.tr_kinds]; exact s3 _ _ hk, ?_, Rw.tr_ok hf, by omega, fun l H4 s4 nl hl => ?_⟩
      · rw [hc]
        show some (HO.lst (((r.tr.map (fun q => q.2.1)).map tx).map V.str)) = _
        rw [List.map_map, List.map_map]
        rfl
      · have hp4 := s4 _ _ (s3 _ _ hp2)
        refine ⟨.ref l, rfl, rfl, _, rfl, iteF ?_⟩
        refine v_ixL (vx 1) vc (sqL hp4) (atI_nat (j := 1) g1) _ ?_
        refine v_ixL (vx 1) vc (sqL hp4) (atI_nat (j := 0) g0) _ ?_
        refine ⟨.ref l, rfl, by show 3 ≤ sizeLine; decide, fun d nd => ?_⟩
        have s5 := same_new (o := HO.tup [.str (tx r.verbL), .str (tx (wL r.new)), .ref l]) nd
        refine q _ _ ((((s1.trans s2).trans s3).trans s4).trans s5) ⟨d, l, rfl, ?_, s5 _ _ (by rw [hl, Rw.tr_vals])⟩
        rw [upd_same, r.verb_tx, wd_tx]
    · have hcl := Ak.clean hf
      have hsp := split_row (ws := a.words) (List.cons_ne_nil _ _) hcl
      have hlen := joinL_len a.words hcl
      have hwl : a.words.length = 2 + a.more.length := by
        show (a.more.map _).length + 1 + 1 = _
        rw [List.length_map]
        omega
      have htl := a.more_len
      refine ⟨.str (tx a.text), rfl, ⟨_, rfl⟩, tx a.text, " ", rfl, rfl, by decide +kernel, szl (by rw [tx_len]; show (TL.joinL [32] a.words).length + 2 ≤ 200000; omega), ?_⟩
      show rNewStrs (Txt.split (tx (TL.joinL [32] a.words)) " ") H _
      rw [hsp]
      refine fun p np => ?_
      have s1 := same_new (o := HO.lst ((a.words.map tx).map V.str)) np
      have hp : upd H p (.lst ((a.words.map tx).map V.str)) p = some (.lst ((a.words.map tx).map V.str)) := upd_same
      generalize upd H p (.lst ((a.words.map tx).map V.str)) = H1 at s1 hp
      have g0 : ((a.words.map tx).map V.str)[0]? = some (.str (tx a.verbL)) := rfl
      have g1 : ((a.words.map tx).map V.str)[1]? = some (.str (tx (wL a.word))) := rfl
      refine ⟨.ref p, rfl, p, _, rfl, .inl (sqL hp), _, 3, rfl, rfl, _, rfl, ?_⟩
      rw [List.length_map, List.length_map, hwl]
      by_cases hm : a.more.length = 0
      · rw [intd (show ((2 + a.more.length : Nat) : Int) < 3 by omega)]
        exact iteT (iteT (q _ s1))
      · rw [intn (show ¬ ((2 + a.more.length : Nat) : Int) < 3 by omega)]
        refine iteF (v_ixL (vx 1) vc (sqL hp) (atI_nat (j := 0) g0) _ ?_)
        have hv := a.verb_low
        refine ⟨a.verbL, rfl, by cases a <;> exact List.cons_ne_nil _ _, hv.1, hv.2, true, rfl, iteF ?_⟩
        refine v_ixL (vx 1) vc (sqL hp) (atI_nat (j := 1) g1) _ ?_
        refine ⟨tx (wL a.word), rfl, .inr ⟨by rw [← wd_tx]; cases a.word <;> first | exact .inl rfl | exact .inr rfl, ?_⟩⟩
        exact ⟨.non, rfl, rfl, _, rfl, iteT (q _ s1)⟩
def Ak.kindsV (a : Ak) : List V := a.tr.map fun q => V.str q.1
def sp_asked_kinds : Sp := fun vs H Q _ => ∃ a : Ak, vs = [.str a.verb] ∧ ∀ p H', Same H H' → H' p = some (.lst a.kindsV) → Q (.ref p) H'
theorem ok_asked_kinds (T : Hd K mg) : Own P w K mg base "asked_kinds" ["verb"] 1 sp_asked_kinds := by
  refine own_mk T.d_asked_kinds sc_asked_kinds (fun vs H Q E h => ?_) (fun _ _ _ _ _ _ us hl => match us, hl with | [_], _ => rfl) (fun fa cdv A outer s H vs Q E hr h => ⟨_, (pss_cons (ps_if (pt_cmpR op_eq (pv 0) pe_str (nomark _)) (pss_one (ps_ret (pe_lst pa_nil))) pss_nil)
      (pss_cons (ps_if (pt_cmpR op_in_seq (pv 0) (pe_tup (pa_cons pe_str (pa_cons pe_str (pa_cons pe_str (pa_cons pe_str (pa_cons pe_str pa_nil)))))) (by rfl)) (pss_one (ps_ret (pe_lst (pa_cons pe_str pa_nil)))) pss_nil)
      (pss_cons (ps_if (pt_cmpR op_in_seq (pv 0) (pe_tup (pa_cons pe_str (pa_cons pe_str (pa_cons pe_str (pa_cons pe_str pa_nil))))) (by rfl)) (pss_one (ps_ret (pe_lst (pa_cons pe_str (pa_cons pe_str pa_nil))))) pss_nil)
      (pss_cons (ps_if (pt_cmpR op_in_seq (pv 0) (pe_tup (pa_cons pe_str (pa_cons pe_str pa_nil))) (by rfl)) (pss_one (ps_ret (pe_lst (pa_cons pe_str (pa_cons pe_str pa_nil))))) pss_nil)
      (pss_cons (ps_if (pt_cmpR op_eq (pv 0) pe_str (nomark _)) (pss_one (ps_ret (pe_lst (pa_cons pe_str (pa_cons pe_str pa_nil))))) pss_nil)
      (pss_cons (ps_if (pt_cmpR op_eq (pv 0) pe_str (nomark _)) (pss_one (ps_ret (pe_lst (pa_cons pe_str (pa_cons pe_str pa_nil))))) pss_nil)
      (pss_one (ps_ret pe_non)))))))), ?_⟩)
  · obtain ⟨a, rfl, _⟩ := h
    rfl
  · obtain ⟨a, rfl, q⟩ := h
    cases a with
    | length w =>
      have x0 : Val (tVar 0) (start ["verb"] [V.str (Ak.length w).verb]) H (V.str "length") := vx 0
      refine s_no (a_eq x0 vc rfl (by decide +kernel)) ?_
      refine ⟨.str "length", rfl, by show 5 ≤ sizeLine; decide, fun p np => ?_⟩
      have s1 := same_new (o := HO.tup [V.str "drop", .str "length", .str "show", .str "piece", .str "form"]) np
      refine ⟨p, _, rfl, .inr (sqT upd_same), rfl, rfl, true, by decide +kernel, iteT ⟨by show 1 ≤ sizeLine; decide, fun c nc => ?_⟩⟩
      exact q c _ (s1.trans (same_new nc)) upd_same
    | sign w p =>
      have x0 : ∀ H, Val (tVar 0) (start ["verb"] [V.str (Ak.sign w p).verb]) H (V.str "sign") := fun H => vx 0
      refine s_no (a_eq (x0 H) vc rfl (by decide +kernel)) ?_
      refine ⟨.str "sign", rfl, by show 5 ≤ sizeLine; decide, fun p1 np1 => ?_⟩
      have s1 := same_new (o := HO.tup [V.str "drop", .str "length", .str "show", .str "piece", .str "form"]) np1
      refine ⟨p1, _, rfl, .inr (sqT upd_same), rfl, rfl, false, by decide +kernel, iteF ?_⟩
      refine ⟨.str "sign", rfl, by show 4 ≤ sizeLine; decide, fun p2 np2 => ?_⟩
      have s2 := same_new (o := HO.tup [V.str "swap", .str "parts", .str "order", .str "ring"]) np2
      refine ⟨p2, _, rfl, .inr (sqT upd_same), rfl, rfl, false, by decide +kernel, iteF ?_⟩
      refine ⟨.str "sign", rfl, by show 2 ≤ sizeLine; decide, fun p3 np3 => ?_⟩
      have s3 := same_new (o := HO.tup [V.str "stands", .str "first"]) np3
      refine ⟨p3, _, rfl, .inr (sqT upd_same), rfl, rfl, false, by decide +kernel, iteF ?_⟩
      refine s_no (a_eq (x0 _) vc rfl (by decide +kernel)) ?_
      refine s_yes (a_eq (x0 _) vc rfl (by decide +kernel)) ⟨by show 2 ≤ sizeLine; decide, fun c nc => ?_⟩
      exact q c _ (((s1.trans s2).trans s3).trans (same_new nc)) upd_same
    | count w d =>
      have x0 : ∀ H, Val (tVar 0) (start ["verb"] [V.str (Ak.count w d).verb]) H (V.str "count") := fun H => vx 0
      refine s_no (a_eq (x0 H) vc rfl (by decide +kernel)) ?_
      refine ⟨.str "count", rfl, by show 5 ≤ sizeLine; decide, fun p1 np1 => ?_⟩
      have s1 := same_new (o := HO.tup [V.str "drop", .str "length", .str "show", .str "piece", .str "form"]) np1
      refine ⟨p1, _, rfl, .inr (sqT upd_same), rfl, rfl, false, by decide +kernel, iteF ?_⟩
      refine ⟨.str "count", rfl, by show 4 ≤ sizeLine; decide, fun p2 np2 => ?_⟩
      have s2 := same_new (o := HO.tup [V.str "swap", .str "parts", .str "order", .str "ring"]) np2
      refine ⟨p2, _, rfl, .inr (sqT upd_same), rfl, rfl, false, by decide +kernel, iteF ?_⟩
      refine ⟨.str "count", rfl, by show 2 ≤ sizeLine; decide, fun p3 np3 => ?_⟩
      have s3 := same_new (o := HO.tup [V.str "stands", .str "first"]) np3
      refine ⟨p3, _, rfl, .inr (sqT upd_same), rfl, rfl, false, by decide +kernel, iteF ?_⟩
      refine s_yes (a_eq (x0 _) vc rfl (by decide +kernel)) ⟨by show 2 ≤ sizeLine; decide, fun c nc => ?_⟩
      exact q c _ (((s1.trans s2).trans s3).trans (same_new nc)) upd_same
def sp_asking_of : Sp := fun vs H Q _ => ∃ a : Ak, vs = [.str (tx a.text)] ∧ a.fine ∧ ∀ b l H', Same H H' → H' b = some (.tup [.str a.verb, .ref l]) → H' l = some (.lst (a.tr.map fun q => q.2.2)) → Q (.ref b) H'
theorem ok_asking_of (T : Hd K mg) : Own P w K mg base "asking_of" ["row"] 5 sp_asking_of := by
  refine own_mk T.d_asking_of sc_asking_of (fun vs H Q E h => ?_) (fun _ _ _ _ _ _ us hl => match us, hl with | [_], _ => rfl) (fun fa cdv A outer s H vs Q E hr h => ⟨_, (pss_cons (ps_set (i := 1) sc_asking_of.nd rfl (Or.inl rfl) (pe_split (pv 0) pe_str))
      (pss_cons (ps_set (i := 2) sc_asking_of.nd rfl (Or.inl rfl) (pe_own (ok_asked_kinds T) (hr.mono (by decide)) (by rfl) (pa_cons (pe_ix ix_list (pv 1) pe_int (fun _ _ => rfl)) pa_nil)))
      (pss_cons (ps_if (pt_cmpR op_isN (pv 2) pe_non (nomark _)) (pss_one (ps_ret pe_non)) pss_nil)
      (pss_cons (ps_set (i := 3) sc_asking_of.nd rfl (Or.inl rfl) (pe_own (ok_values_of T) (hr.mono (by decide)) (by rfl) (pa_cons (pv 2) (pa_cons (pe_slice sl_list (pv 1) (po_some pe_int) po_none) pa_nil))))
      (pss_cons (ps_if (pt_cmpR op_isN (pv 3) pe_non (nomark _)) (pss_one (ps_ret pe_non)) pss_nil)
      (pss_one (ps_ret (pe_tup (pa_cons (pe_ix ix_list (pv 1) pe_int (fun _ _ => rfl)) (pa_cons (pv 3) pa_nil)))))))))), ?_⟩)
  · obtain ⟨a, rfl, _⟩ := h
    rfl
  · obtain ⟨a, rfl, hf, q⟩ := h
    have hcl := Ak.clean hf
    have hsp := split_row (ws := a.words) (List.cons_ne_nil _ _) hcl
    have hlen := joinL_len a.words hcl
    have hwl : a.words.length = 1 + a.tr.length := by
      show (a.tr.map _).length + 1 = _
      rw [List.length_map]
      omega
    have htl : a.tr.length ≤ 2 := Nat.succ_le_succ a.more_len
    refine ⟨.str (tx a.text), rfl, ⟨_, rfl⟩, tx a.text, " ", rfl, rfl, by decide +kernel, szl (by rw [tx_len]; show (TL.joinL [32] a.words).length + 2 ≤ 200000; omega), ?_⟩
    show rNewStrs (Txt.split (tx (TL.joinL [32] a.words)) " ") H _
    rw [hsp]
    refine fun p np => ?_
    have s1 := same_new (o := HO.lst ((a.words.map tx).map V.str)) np
    have hp : upd H p (.lst ((a.words.map tx).map V.str)) p = some (.lst ((a.words.map tx).map V.str)) := upd_same
    generalize upd H p (.lst ((a.words.map tx).map V.str)) = H1 at s1 hp
    have g0 : ((a.words.map tx).map V.str)[0]? = some (.str (tx a.verbL)) := rfl
    refine v_ixL (vx 1) vc (sqL hp) (atI_nat (j := 0) g0) _ ?_
    refine ⟨a, by rw [Ak.verb_tx]; rfl, fun k H2 s2 hk => ?_⟩
    have hp2 := s2 _ _ hp
    refine ⟨.ref k, rfl, rfl, _, rfl, iteF ?_⟩
    refine ⟨.ref k, rfl, .ref p, rfl, 1, rfl, p, _, rfl, sqL hp2, fun c nc => ?_⟩
    have ec : cutV ((a.words.map tx).map V.str) (some 1) none = ((a.words.map tx).map V.str).drop 1 := cut_from _ 1 (by rw [List.length_map, List.length_map]; omega)
    rw [ec]
    have s3 := same_new (o := HO.lst (((a.words.map tx).map V.str).drop 1)) nc
    have hc : upd H2 c (.lst (((a.words.map tx).map V.str).drop 1)) c = some (.lst (((a.words.map tx).map V.str).drop 1)) := upd_same
    generalize upd H2 c (.lst (((a.words.map tx).map V.str).drop 1)) = H3 at s3 hc
    refine ⟨k, c, a.tr, rfl, s3 _ _ hk, ?_, Ak.tr_ok hf, by omega, fun l H4 s4 nl hl => ?_⟩
    · rw [hc]
      show some (HO.lst (((a.tr.map (fun q => q.2.1)).map tx).map V.str)) = _
      rw [List.map_map, List.map_map]
      rfl
    · have hp4 := s4 _ _ (s3 _ _ hp2)
      refine ⟨.ref l, rfl, rfl, _, rfl, iteF ?_⟩
      refine v_ixL (vx 1) vc (sqL hp4) (atI_nat (j := 0) g0) _ ?_
      refine ⟨.ref l, rfl, by show 2 ≤ sizeLine; decide, fun d nd => ?_⟩
      have s5 := same_new (o := HO.tup [.str (tx a.verbL), .ref l]) nd
      refine q d l _ ((((s1.trans s2).trans s3).trans s4).trans s5) ?_ (s5 _ _ hl)
      rw [upd_same, a.verb_tx]
end
end Sb
set_option Elab.async false
set_option linter.all false
set_option maxRecDepth 100000
set_option maxHeartbeats 4000000
set_option pp.maxSteps 300
/-! Tellings: rows in a row, read. -/
namespace Sb
open PySem PySem.Spec PyProof.Rows L2
/-! ### tuples stay -/
def SameT (H H' : Hp) : Prop := ∀ a xs, H a = some (.tup xs) → H' a = some (.tup xs)
theorem Same.tups {H H' : Hp} (s : Same H H') : SameT H H' := fun a xs h => s a _ h
theorem SameT.upd {H : Hp} {d : Addr} {o o' : HO} (h : H d = some o) (n : ∀ xs, o ≠ .tup xs) : SameT H (upd H d o') := fun a xs e => by
  rw [upd_ne (ne_of e h (fun z => n xs z.symm))]
  exact e
theorem RsT.tups {H H' : Hp} {v : V} {rs : List Rl} (s : SameT H H') (h : RsT H v rs) : RsT H' v rs := let ⟨a, vs, e, q, r⟩ := h; ⟨a, vs, e, s _ _ q, Paired.mapP r fun _ _ ⟨b, e, z⟩ => ⟨b, e, s _ _ z⟩⟩
theorem PairR.tups {H H' : Hp} {v : V} {rs : List Rl} {o : Option Nat} (s : SameT H H') (h : PairR H v rs o) : PairR H' v rs o := let ⟨a, u, e, h1, h2⟩ := h; ⟨a, u, e, s _ _ h1, h2.tups s⟩
theorem TxAt.tups {H H' : Hp} {U : List Tr} {v : V} {x : List Nat} (s : SameT H H') (h : TxAt H U v x) : TxAt H' U v x := let ⟨rs, ts, n, t, ⟨a, b⟩, c⟩ := h; ⟨rs, ts, n, t, ⟨a.tups s, b⟩, c⟩
/-! ### rows, one behind another -/
def Runs : List Rw → Env (List Nat) → Env (List Nat) → Prop
  | [], E, E' => E' = E
  | r :: rs, E, E' => ∃ x, r.fine ∧ r.txt E x ∧ Runs rs (putE E r.new x) E'
theorem Runs.app : ∀ {rs ss : List Rw} {E E' E2 : Env (List Nat)}, Runs rs E E' → Runs ss E' E2 → Runs (rs ++ ss) E E2
  | [], _, _, _, _, h, h2 => by
    have h : _ = _ := h
    subst h
    exact h2
  | r :: rs, _, _, _, _, ⟨x, a, b, c⟩, h2 => ⟨x, a, b, Runs.app c h2⟩
/-- i rows told: the words' texts, few trees, none too long -/
structure BkS (H : Hp) (d : Addr) (E : Env (List Nat)) (U : List Tr) (i : Nat) : Prop where
  at_ : ∃ kvs, H d = some (.dK kvs) ∧ DE (TxAt H U) kvs E
  nd : (E.map (·.1)).Nodup
  pool : Pool U (2 ^ (i + 2))
  few : U.length ≤ 14 * i
  short : ∀ w x, getE E w = some x → x.length ≤ 2 ^ (i + 2)
theorem BkS.mono {H H' : Hp} {d : Addr} {E : Env (List Nat)} {U : List Tr} {i : Nat} (s : Same H H') (h : BkS H d E U i) : BkS H' d E U i :=
  ⟨let ⟨kvs, a, b⟩ := h.at_; ⟨kvs, s _ _ a, b.mono fun _ _ z => z.mono s⟩, h.nd, h.pool, h.few, h.short⟩
theorem pow_up (i : Nat) : 2 ^ (i + 1 + 2) = 2 * 2 ^ (i + 2) := by
  rw [show i + 1 + 2 = (i + 2) + 1 by omega, Nat.pow_succ]
  omega
/-- the text that a row makes is at most twice as long -/
theorem txt_short {E : Env (List Nat)} {r : Rw} {x : List Nat} {i : Nat} (h : ∀ w x, getE E w = some x → x.length ≤ 2 ^ (i + 2)) (hx : r.txt E x) : x.length ≤ 2 ^ (i + 1 + 2) := by
  rw [pow_up]
  have p4 : 2 ^ 2 ≤ 2 ^ (i + 2) := Nat.pow_le_pow_right (by decide) (by omega)
  have e4 : (2 : Nat) ^ 2 = 4 := by decide
  cases r with
  | is w s =>
    obtain ⟨rfl, _, h4, _⟩ := hx
    omega
  | turn w =>
    obtain ⟨u, hu, rfl⟩ := hx
    have := h _ _ hu
    rw [List.length_reverse]
    omega
  | join w a b =>
    obtain ⟨u, v, hu, hv, rfl⟩ := hx
    have := h _ _ hu
    have := h _ _ hv
    rw [List.length_append]
    omega
  | times w =>
    obtain ⟨u, hu, rfl⟩ := hx
    have := h _ _ hu
    rw [List.length_append]
    omega
  | insert w p o =>
    obtain ⟨u, v, hu, hv, hx⟩ := hx
    have := h _ _ hu
    have := h _ _ hv
    rcases hx with ⟨_, rfl⟩ | ⟨_, rfl⟩ <;> (rw [List.length_append]; omega)
theorem envs_le {α : Type} {E : Env α} (h : (E.map (·.1)).Nodup) : E.length ≤ 2 := by
  have := nodup_len (l := E.map (·.1)) (m := [false, true]) h fun a _ => by cases a <;> simp
  rw [List.length_map] at this
  exact this
/-- the row's text is stored -/
theorem BkS.put {H : Hp} {d : Addr} {E : Env (List Nat)} {U U' : List Tr} {i : Nat} {r : Rw} {x : List Nat} {v : V} {kvs : List (Key × V)} (hd : H d = some (.dK kvs)) (hE : DE (TxAt H U) kvs E) (h : BkS H d E U i) (hx : r.txt E x) (hv : TxAt H U' v x) (hU : ∀ t ∈ U, t ∈ U') (hl : U'.length ≤ U.length + 14) (hp : Pool U' (2 ^ (i + 1 + 2))) :
    BkS (upd H d (.dK (putK kvs (.inr (wd r.new)) v))) d (putE E r.new x) U' (i + 1) where
  at_ := by
    refine ⟨_, upd_same, ?_⟩
    have st : SameT H (upd H d (.dK (putK kvs (.inr (wd r.new)) v))) := SameT.upd hd (fun xs z => by cases z)
    exact DE.put (hE.mono fun _ _ z => (z.more hU).tups st) h.nd (hv.tups st)
  nd := putE_nodup h.nd
  pool := hp
  few := by
    have := h.few
    omega
  short := fun w y hy => by
    rw [get_put] at hy
    by_cases e : w = r.new
    · rw [if_pos e] at hy
      cases hy
      exact txt_short h.short hx
    · rw [if_neg e] at hy
      have := h.short w y hy
      rw [pow_up]
      omega
theorem BkS.nil {H : Hp} {d : Addr} (h : H d = some (.dK [])) : BkS H d [] [] 0 := ⟨⟨[], h, .nil⟩, List.nodup_nil, Pool.nil _, Nat.le_refl _, fun w x e => by cases e⟩
theorem semi : ("; " : Str) = SX.S [59, 32] := by decide +kernel
theorem Rw.text_no (r : Rw) (h : r.fine) : 59 ∉ r.text := by
  have aux : ∀ ws : List (List Nat), (∀ z ∈ ws, Clean z) → 59 ∉ TL.joinL [32] ws := by
    intro ws
    induction ws with
    | nil => intro _ hm; cases hm
    | cons p ws ih =>
      intro hc
      cases ws with
      | nil => exact clean_no (hc p (List.mem_cons_self ..)) (.inr (by decide))
      | cons q r =>
        show 59 ∉ p ++ ([32] ++ TL.joinL [32] (q :: r))
        intro hm
        rcases List.mem_append.mp hm with z | z
        · exact clean_no (hc p (List.mem_cons_self ..)) (.inr (by decide)) z
        · rcases List.mem_append.mp z with z | z
          · exact absurd (List.mem_singleton.mp z) (by decide)
          · exact ih (fun y hy => hc y (List.mem_cons_of_mem _ hy)) z
  exact aux _ (Rw.clean h)
theorem Rw.text_len (r : Rw) (h : r.fine) : r.text.length ≤ 205 := by
  have h1 := joinL_len r.words (Rw.clean h)
  have h2 := r.tr_len
  have h3 : r.words.length = 2 + r.tr.length := by
    show (r.tr.map _).length + 1 + 1 = _
    rw [List.length_map]
    omega
  show (TL.joinL [32] r.words).length ≤ 205
  omega
/-- the telling of some rows -/
def tale (rows : List Rw) : List Nat := TL.joinL [59, 32] (rows.map Rw.text)
theorem tale_split {rows : List Rw} (hne : rows ≠ []) (h : ∀ r ∈ rows, r.fine) : Txt.split (tx (tale rows)) "; " = (rows.map Rw.text).map tx := by
  rw [semi]
  show Txt.split (SX.S (TL.joinL [59, 32] (rows.map Rw.text))) (SX.S [59, 32]) = _
  rw [SX.split_S (List.cons_ne_nil _ _) (by decide), TL.spl_join (fun e => hne (List.map_eq_nil_iff.mp e)) fun p hp => by
    obtain ⟨r, hr, e⟩ := List.mem_map.mp hp
    rw [← e]
    exact r.text_no (h r hr)]
theorem tale_len : ∀ {rows : List Rw}, (∀ r ∈ rows, r.fine) → (tale rows).length ≤ 207 * rows.length
  | [], _ => Nat.zero_le _
  | [r], h => by
    have := r.text_len (h r (List.mem_singleton.mpr rfl))
    show r.text.length ≤ 207 * 1
    omega
  | r :: s :: rows, h => by
    have h1 := r.text_len (h r (List.mem_cons_self ..))
    have h2 := tale_len (rows := s :: rows) fun z hz => h z (List.mem_cons_of_mem _ hz)
    show (r.text ++ ([59, 32] ++ tale (s :: rows))).length ≤ 207 * ((s :: rows).length + 1)
    rw [List.length_append, List.length_append]
    show r.text.length + (2 + _) ≤ _
    omega
theorem tale_pos {rows : List Rw} (hne : rows ≠ []) : 0 < (tale rows).length := by
  cases rows with
  | nil => exact absurd rfl hne
  | cons r rows =>
    have h1 : 0 < r.text.length := by
      show 0 < (TL.joinL [32] (wL r.new :: r.verbL :: r.tr.map _)).length
      show 0 < (wL r.new ++ _).length
      rw [List.length_append]
      have : 0 < (wL r.new).length := by cases r.new <;> decide
      omega
    cases rows with
    | nil => exact h1
    | cons s rows =>
      show 0 < (r.text ++ _).length
      rw [List.length_append]
      omega
theorem Runs.fine : ∀ {rows : List Rw} {E E' : Env (List Nat)}, Runs rows E E' → ∀ r ∈ rows, r.fine
  | [], _, _, _, r, h => by cases h
  | r :: rs, _, _, ⟨x, a, b, c⟩, s, h => by
    rcases List.mem_cons.mp h with e | e
    · rw [e]
      exact a
    · exact Runs.fine c s e
section
variable {P : Program} {w : World} {K : PySem.W.Frag} {mg : Str → Option Value} {base : Heap}
def sp_texts_of : Sp := fun vs H Q _ => ∃ (rows : List Rw) (E : Env (List Nat)), vs = [.str (tx (tale rows))] ∧ rows ≠ [] ∧ rows.length ≤ 50 ∧ Runs rows [] E ∧ ∀ d H' U, Same H H' → H d = none → BkS H' d E U rows.length → Q (.ref d) H'
theorem ok_texts_of (T : Hd K mg) : Own P w K mg base "texts_of" ["text"] 9 sp_texts_of := by
  refine own_mk T.d_texts_of sc_texts_of (fun vs H Q E h => ?_) (fun _ _ _ _ _ _ us hl => match us, hl with | [_], _ => rfl) (fun fa cdv A outer s H vs Q E hr h => ⟨_, (pss_cons (ps_set (i := 1) sc_texts_of.nd rfl (Or.inl rfl) pe_dnewK)
      (pss_cons (ps_if (pt_cmpR op_eq (pv 0) pe_str (nomark _)) (pss_one (ps_ret (pv 1))) pss_nil)
      (pss_cons (ps_for PassesOwn.never rfl (pi_list (pe_split (pv 0) pe_str)) (pg_name (i := 2) sc_texts_of.nd rfl (Or.inl rfl)) (pss_cons (ps_set (i := 3) sc_texts_of.nd rfl (Or.inl rfl) (pe_own (ok_statement_of T) (hr.mono (by decide)) (by rfl) (pa_cons (pv 2) pa_nil)))
      (pss_cons (ps_if (pt_cmpR op_isN (pv 3) pe_non (nomark _)) (pss_one ps_never) pss_nil)
      (pss_one (ps_dput (hu_of hr) (pv 1) (pe_ix ix_tup (pv 3) pe_int (fun _ _ => rfl)) (pe_own (ok_made_text T) (hr.mono (by decide)) (by rfl) (pa_cons (pv 1) (pa_cons (pv 3) pa_nil))) rfl)))))
      (pss_one (ps_ret (pv 1)))))), ?_⟩)
  · obtain ⟨rows, E, rfl, _⟩ := h
    rfl
  · obtain ⟨rows, E, rfl, hne, h50, hR, q⟩ := h
    have hf := hR.fine
    have hlen := tale_len hf
    refine fun d nd => ?_
    have sd := same_new (o := HO.dK []) nd
    refine ⟨.str (tx (tale rows)), rfl, rfl, _, rfl, ?_⟩
    rw [intn (show ¬ V.str (tx (tale rows)) = V.str "" from fun e => by
      have e2 := congrArg Str.length (V.str.inj e)
      rw [tx_len] at e2
      have := tale_pos hne
      have e3 : ("" : Str).length = 0 := by decide +kernel
      omega)]
    refine iteF ⟨.str (tx (tale rows)), rfl, ⟨_, rfl⟩, tx (tale rows), "; ", rfl, rfl, by decide +kernel, szl (by rw [tx_len]; omega), ?_⟩
    show rNewStrs (Txt.split (tx (tale rows)) "; ") _ _
    rw [tale_split hne hf]
    refine fun l nl => ?_
    have sl := same_new (o := HO.lst (((rows.map Rw.text).map tx).map V.str)) nl
    have hd0 : (upd H d (.dK [])) d = some (.dK []) := upd_same
    have hl0 : (upd (upd H d (.dK [])) l (.lst (((rows.map Rw.text).map tx).map V.str))) l = some (.lst (((rows.map Rw.text).map tx).map V.str)) := upd_same
    have hd1 := sl _ _ hd0
    have s1 := sd.trans sl
    have hld : l ≠ d := (ne_of_none hd0 nl).symm
    generalize upd (upd H d (.dK [])) l (.lst (((rows.map Rw.text).map tx).map V.str)) = H1 at s1 hl0 hd1
    have hxl : (((rows.map Rw.text).map tx).map V.str).length = rows.length := by rw [List.length_map, List.length_map, List.length_map]
    refine ⟨l, rfl, ⟨_, sqL hl0⟩, for_list (K := K) (a := l) (xs := ((rows.map Rw.text).map tx).map V.str) (fun i σ H' => ∃ y2 y3 Ei U, σ = [some (.str (tx (tale rows))), some (.ref d), y2, y3] ∧ Same H H' ∧ H' l = some (.lst (((rows.map Rw.text).map tx).map V.str)) ∧ Runs (rows.drop i) Ei E ∧ BkS H' d Ei U i)
      ⟨none, none, [], [], rfl, s1, hl0, hR, BkS.nil hd1⟩ (fun i σ H' _ ⟨_, _, _, _, _, _, h, _⟩ => sqL h) ?_ ?_⟩
    · rintro i x σ H2 hi ⟨y2, y3, Ei, U, rfl, sH, hl, hRi, hB⟩
      have hir : i < rows.length := by
        rw [← hxl]
        exact get_lt hi
      obtain ⟨r, hri⟩ := get_at hir
      rw [List.getElem?_map, List.getElem?_map, List.getElem?_map, hri] at hi
      cases hi
      have hdrop : rows.drop i = r :: rows.drop (i + 1) := by
        rw [List.drop_eq_getElem_cons hir]
        congr 1
        exact (List.getElem?_eq_some_iff.mp hri).2
      rw [hdrop] at hRi
      obtain ⟨x, hfr, hx, hRn⟩ := hRi
      refine ⟨.str (tx r.text), rfl, r.text, rfl, .inl ⟨r, hfr, rfl, fun v' H3 s3 hdeed => ?_⟩⟩
      have hB3 := hB.mono s3
      obtain ⟨kvs, hd3, hE3⟩ := hB3.at_
      have hdeed2 := hdeed
      obtain ⟨a, l2, rfl, ha, hl2⟩ := hdeed
      refine ⟨.ref a, rfl, rfl, _, rfl, iteF ?_⟩
      have hfew := hB.few
      refine ⟨.ref d, rfl, .ref a, rfl, d, .ref a, r, kvs, Ei, U, 2 ^ (i + 1 + 2), x, rfl, hdeed2, hd3, hE3, hB.pool.more (by rw [pow_up]; omega), Nat.pow_le_pow_right (by decide) (by omega), hx, txt_short hB.short hx, by omega, fun v4 H4 U4 s4 hT4 hU4 hl4 hP4 => ?_⟩
      have hd4 := s4 _ _ hd3
      have hE4 : DE (TxAt H4 U) kvs Ei := hE3.mono fun _ _ z => z.mono s4
      refine ⟨.ref d, rfl, ?_⟩
      refine v_ixT (vx 3) vc (sqT (s4 _ _ ha)) (atI_nat (j := 1) rfl) _ ?_
      have hk2 : kvs.length ≤ 2 := by
        rw [Paired.length hE3]
        exact envs_le hB.nd
      refine ⟨d, _, rfl, DPut.k (k := Sum.inr (wd r.new)) hd4 (szt (by omega)), ?_⟩
      have sH4 := (sH.trans s3).trans s4
      refine ⟨_, _, putE Ei r.new x, U4, rfl, Same.mut sH4 nd, ?_, hRn, BkS.put hd4 hE4 (hB3.mono s4) hx hT4 hU4 hl4 hP4⟩
      rw [upd_ne hld]
      exact s4 _ _ (s3 _ _ hl)
    · rintro σ H2 ⟨y2, y3, Ei, U, rfl, sH, hl, hRi, hB⟩
      rw [hxl] at hRi hB
      rw [List.drop_length] at hRi
      have hRi : E = Ei := hRi
      subst hRi
      exact ⟨.ref d, rfl, q d H2 U sH nd hB⟩
end
end Sb
set_option Elab.async false
set_option linter.all false
set_option maxRecDepth 100000
set_option maxHeartbeats 4000000
set_option pp.maxSteps 300
/-! A telling read as a whole. -/
namespace Sb
open PySem PySem.Spec PyProof.Rows L2
/-- x alone, or x and y in that order -/
def Ordd {α : Type} (E : Env α) : Prop := E.map (·.1) = [false] ∨ E.map (·.1) = [false, true]
theorem Ordd.nd {α : Type} {E : Env α} (h : Ordd E) : (E.map (·.1)).Nodup := by
  rcases h with h | h <;> (rw [h]; decide)
theorem Ordd.len {α : Type} {E : Env α} (h : Ordd E) : E.length ≤ 2 := envs_le h.nd
theorem getE_at {α : Type} : ∀ {E : Env α} {i : Nat} {p : Bool × α}, (E.map (·.1)).Nodup → E[i]? = some p → getE E p.1 = some p.2
  | [], i, p, _, h => by cases h
  | e :: E, 0, p, _, h => by
    have h := Option.some.inj h
    subst h
    unfold getE
    rw [if_pos rfl]
  | e :: E, i + 1, p, n, h => by
    obtain ⟨n1, n2⟩ := List.nodup_cons.mp n
    have h : E[i]? = some p := h
    have hm : p ∈ E := List.mem_of_getElem? h
    unfold getE
    rw [if_neg fun (z : e.1 = p.1) => n1 (by show e.1 ∈ _; rw [z]; exact List.mem_map_of_mem hm)]
    exact getE_at n2 h
theorem ord_sorted {ks : List Bool} {ys : List Str} (h : ks = [false] ∨ ks = [false, true]) (hp : ys.Perm (ks.map wd)) (hs : sortedS ys = true) : ys = ks.map wd := by
  rcases h with rfl | rfl
  · exact List.perm_singleton.mp hp
  · have hl := hp.length_eq
    match ys, hl with
    | [p, q], _ =>
      have hn : [p, q].Nodup := hp.nodup_iff.mpr (by decide +kernel)
      have h1 : p ∈ [wd false, wd true] := hp.mem_iff.mp (List.mem_cons_self ..)
      have h2 : q ∈ [wd false, wd true] := hp.mem_iff.mp (by simp)
      have hne : p ≠ q := fun e => (List.nodup_cons.mp hn).1 (by rw [e]; exact List.mem_singleton.mpr rfl)
      have hbad : ¬ (p = wd true ∧ q = wd false) := by
        rintro ⟨rfl, rfl⟩
        exact absurd hs (by decide +kernel)
      simp only [List.mem_cons, List.not_mem_nil, or_false] at h1 h2
      rcases h1 with rfl | rfl <;> rcases h2 with rfl | rfl
      · exact absurd rfl hne
      · rfl
      · exact absurd ⟨rfl, rfl⟩ hbad
      · exact absurd rfl hne
theorem de_keys {α : Type} {R : V → α → Prop} : ∀ {kvs : List (Key × V)} {E : Env α}, DE R kvs E → kvs.map (·.1) = ((E.map (·.1)).map wd).map Sum.inr
  | _, _, .nil => rfl
  | kv :: _, p :: r, .cons q t => by
    show kv.1 :: _ = Sum.inr (wd p.1) :: _
    rw [q.1]
    exact congrArg (List.cons _) (de_keys t)
/-- a word with the name of its text -/
def NameAt (H : Hp) (ts : List Tr) (v : V) (p : Bool × List Nat) : Prop := ∃ (b : Addr) (n : Nat) (t : Tr), v = .ref b ∧ H b = some (.tup [.str (wd p.1), .int (n : Int)]) ∧ ts[n]? = some t ∧ t.txt = p.2
theorem NameAt.tups {H H' : Hp} {ts us : List Tr} {v : V} {p : Bool × List Nat} (s : SameT H H') (h : NameAt H ts v p) : NameAt H' (ts ++ us) v p := let ⟨b, n, t, e, h1, h2, h3⟩ := h; ⟨b, n, t, e, s _ _ h1, get_app h2, h3⟩
section
variable {P : Program} {w : World} {K : PySem.W.Frag} {mg : Str → Option Value} {base : Heap}
def sp_read : Sp := fun vs H Q _ => ∃ (rows : List Rw) (E : Env (List Nat)), vs = [.str (tx (tale rows))] ∧ rows ≠ [] ∧ rows.length ≤ 50 ∧ Runs rows [] E ∧ Ordd E ∧
  ∀ (a l : Addr) (u : V) (rs : List Rl) (ts : List Tr) (us : List V) (H' : Hp), Same H H' → H' a = some (.tup [u, .ref l]) → RsT H' u rs → RT rs ts → rs.length ≤ 20000 → (∀ t ∈ ts, t.len ≤ 2 ^ (rows.length + 2)) → H' l = some (.lst us) → Paired (NameAt H' ts) us E → Q (.ref a) H'
theorem ok_read (T : Hd K mg) : Own P w K mg base "read" ["text"] 10 sp_read := by
  refine own_mk T.d_read sc_read (fun vs H Q E h => ?_) (fun _ _ _ _ _ _ us hl => match us, hl with | [_], _ => rfl) (fun fa cdv A outer s H vs Q E hr h => ⟨_, (pss_cons (ps_set (i := 1) sc_read.nd rfl (Or.inl rfl) (pe_own (ok_texts_of T) (hr.mono (by decide)) (by rfl) (pa_cons (pv 0) pa_nil)))
      (pss_cons (ps_set (i := 2) sc_read.nd rfl (Or.inl rfl) (pe_tup pa_nil))
      (pss_cons (ps_set (i := 3) sc_read.nd rfl (Or.inl rfl) (pe_lst pa_nil))
      (pss_cons (ps_for PassesOwn.never rfl (pi_list (pe_callB (cr_sortKS rfl) (by rfl) T.z_sorted (by decide +kernel) (pa_cons (pe_bm0 PySem.F.plainAttrs_dict PySem.F.slot_dict_keys PySem.F.type_dict_keys mt_keys (pv 1)) pa_nil))) (pg_name (i := 4) sc_read.nd rfl (Or.inl rfl)) (pss_cons (ps_asg (pe_dget (hu_of hr) (pv 1) (pv 4) (fun _ _ => rfl)) (pg_tup rfl (pgs_cons (pg_name (i := 5) sc_read.nd rfl (Or.inl rfl)) (pgs_cons (pg_name (i := 6) sc_read.nd rfl (Or.inl rfl)) pgs_nil))))
      (pss_cons (ps_asg (pe_own (ok_brought T) (hr.mono (by decide)) (by rfl) (pa_cons (pv 2) (pa_cons (pv 5) (pa_cons (pv 6) pa_nil)))) (pg_tup rfl (pgs_cons (pg_name (i := 2) sc_read.nd rfl (Or.inl rfl)) (pgs_cons (pg_name (i := 6) sc_read.nd rfl (Or.inl rfl)) pgs_nil))))
      (pss_one (ps_expr (pe_bm PySem.F.plainAttrs_list PySem.F.slot_list_append PySem.F.type_list_append mt_append (pv 3) (pa_cons (pe_tup (pa_cons (pv 4) (pa_cons (pv 6) pa_nil))) pa_nil)))))))
      (pss_one (ps_ret (pe_tup (pa_cons (pv 2) (pa_cons (pv 3) pa_nil))))))))), ?_⟩)
  · obtain ⟨rows, E, rfl, _⟩ := h
    rfl
  · obtain ⟨rows, E, rfl, hne, h50, hR, hO, q⟩ := h
    refine ⟨.str (tx (tale rows)), rfl, rows, E, rfl, hne, h50, hR, fun d H1 U s1 nd hB => ?_⟩
    obtain ⟨kvs, hd, hE⟩ := hB.at_
    have hk2 : kvs.length ≤ 2 := by
      rw [Paired.length hE]
      exact hO.len
    refine ⟨by show 0 ≤ sizeLine; decide, fun p0 np0 => ⟨by show 0 ≤ sizeLine; decide, fun l nl => ?_⟩⟩
    have s2 := s1.trans ((same_new (o := HO.tup []) np0).trans (same_new (o := HO.lst []) nl))
    have hd2 := ((same_new (o := HO.tup []) np0).trans (same_new (o := HO.lst []) nl)) _ _ hd
    have hE2 : DE (TxAt (upd (upd H1 p0 (.tup [])) l (.lst [])) U) kvs E := hE.mono fun _ _ z => z.mono ((same_new (o := HO.tup []) np0).trans (same_new (o := HO.lst []) nl))
    have hp0 : (upd (upd H1 p0 (.tup [])) l (.lst [])) p0 = some (.tup []) := same_new nl _ _ upd_same
    have hl0 : (upd (upd H1 p0 (.tup [])) l (.lst [])) l = some (.lst []) := upd_same
    have nl0 : H l = none := (s1.trans (same_new (o := HO.tup []) np0)).free nl
    generalize upd (upd H1 p0 (.tup [])) l (.lst []) = H2 at s2 hd2 hE2 hp0 hl0
    clear hE hd
    refine ⟨.ref d, rfl, .inr (.inr (.inl ⟨rfl, .inl ⟨_, hd2⟩⟩)), d, kvs, rfl, rfl, hd2, fun p1 np1 => ?_⟩
    have s3 := same_new (o := keysO p1 d) np1
    refine ⟨p1, d, kvs, (E.map (·.1)).map wd, rfl, upd_same, s3 _ _ hd2, de_keys hE2, by rw [List.length_map, List.length_map]; have := hO.len; omega, fun ys q1 hperm hsort nq1 => ?_⟩
    have hys := ord_sorted hO hperm hsort
    subst hys
    have s4 := s3.trans (same_new (o := HO.lst (((E.map (·.1)).map wd).map V.str)) nq1)
    have hq1 : (upd (upd H2 p1 (keysO p1 d)) q1 (.lst (((E.map (·.1)).map wd).map V.str))) q1 = some (.lst (((E.map (·.1)).map wd).map V.str)) := upd_same
    generalize upd (upd H2 p1 (keysO p1 d)) q1 (.lst (((E.map (·.1)).map wd).map V.str)) = H3 at s4 hq1
    have hlq : l ≠ q1 := ne_of_none hl0 (s3.free nq1)
    have hxl : (((E.map (·.1)).map wd).map V.str).length = E.length := by rw [List.length_map, List.length_map, List.length_map]
    refine ⟨q1, rfl, ⟨_, sqL hq1⟩, for_list (K := K) (a := q1) (xs := ((E.map (·.1)).map wd).map V.str) (fun i σ H' => ∃ (v y4 y5 y6 : _) (rs : List Rl) (ts : List Tr) (us : List V), σ = [some (.str (tx (tale rows))), some (.ref d), some v, some (.ref l), y4, y5, y6] ∧ Same H H' ∧ But l H3 H' ∧ RsT H' v rs ∧ RT rs ts ∧ rs.length ≤ 10000 * i ∧ (∀ t ∈ ts, t.len ≤ 2 ^ (rows.length + 2)) ∧ H' l = some (.lst us) ∧ Paired (NameAt H' ts) us (E.take i))
      ⟨.ref p0, none, none, none, [], [], [], rfl, s2.trans s4, But.refl _ _, ⟨p0, [], rfl, s4 _ _ hp0, .nil⟩, .nil, Nat.zero_le _, fun t h => absurd h List.not_mem_nil, s4 _ _ hl0, by rw [List.take_zero]; exact .nil⟩ (fun i σ H' _ ⟨_, _, _, _, _, _, _, _, _, b, _⟩ => sqL (b _ _ hlq.symm hq1)) ?_ ?_⟩
    · rintro i x σ H4 hi ⟨v, y4, y5, y6, rs, ts, us, rfl, sH, bH, hv, hT, hlen, hle, hl, hP⟩
      have hir : i < E.length := by
        rw [← hxl]
        exact get_lt hi
      have hO2 := hO.len
      obtain ⟨p, hpi⟩ := get_at hir
      rw [List.getElem?_map, List.getElem?_map, List.getElem?_map, hpi] at hi
      cases hi
      have hg := getE_at hO.nd hpi
      have hne2 : ∀ b o, H3 b = some o → b ≠ l → H4 b = some o := fun b o h e => bH b o e h
      have hdl : d ≠ l := by
        intro e
        rw [e, hl0] at hd2
        cases hd2
      have sT4 : SameT H2 H4 := fun b xs h => bH _ _ (fun e => by subst e; rw [hl0] at h; cases h) (s4 _ _ h)
      have hd4 := bH _ _ hdl (s4 _ _ hd2)
      obtain ⟨vt, hvt, hT4⟩ := (hE2.mono fun _ _ z => z.tups sT4).get hg
      obtain ⟨rs2, ts2, n2, t2, ⟨⟨a2, u2, rfl, ha2, hu2⟩, hT2, h10, ht2, hmem⟩, _, htx⟩ := hT4
      refine ⟨.ref d, rfl, .str (wd p.1), rfl, d, _, rfl, by rw [← hvt]; exact DGet.k (k := Sum.inr (wd p.1)) hd4, ?_⟩
      refine ⟨a2, _, rfl, sqT ha2, rfl, u2, _, rfl, _, _, rfl, rfl, ?_⟩
      refine ⟨v, rfl, u2, rfl, nmV (some n2), rfl, v, u2, rs, rs2, ts2, some n2, rfl, hv, hu2, hT2, by omega, by omega, by rw [NmOk, hT2.len]; exact get_lt ht2, fun v' H5 s5 hpair => ?_⟩
      obtain ⟨a5, u5, rfl, ha5, hu5⟩ := hpair
      refine ⟨a5, _, rfl, sqT ha5, rfl, u5, _, rfl, _, _, rfl, rfl, ?_⟩
      have hl5 := s5 _ _ hl
      refine ⟨.ref l, rfl, .inl ⟨rfl, _, sqL hl5⟩, ?_⟩
      refine ⟨.str (wd p.1), rfl, .int ((rs.length + n2 : Nat) : Int), rfl, by show 2 ≤ sizeLine; decide, fun b nb => ?_⟩
      have sb := same_new (o := HO.tup [.str (wd p.1), .int ((rs.length + n2 : Nat) : Int)]) nb
      have hl6 := sb _ _ hl5
      have hlu : us.length = i := by
        rw [Paired.length hP, List.length_take]
        omega
      have hb6 : (upd H5 b (.tup [.str (wd p.1), .int ((rs.length + n2 : Nat) : Int)])) b = some (.tup [.str (wd p.1), .int ((rs.length + n2 : Nat) : Int)]) := upd_same
      have s6 := s5.trans sb
      have hu6 := hu5.mono sb
      generalize upd H5 b (.tup [.str (wd p.1), .int ((rs.length + n2 : Nat) : Int)]) = H6 at sb hl6 hb6 s6 hu6
      have hT6 := hT.bring hT2
      have st : SameT H6 (upd H6 l (.lst (us ++ [.ref b]))) := SameT.upd hl6 (fun xs z => by cases z)
      refine ⟨l, us, .ref b, rfl, rfl, hl6, szt (by omega), ?_⟩
      refine ⟨u5, _, _, _, _, ts ++ ts2, us ++ [.ref b], rfl, Same.mut (sH.trans s6) nl0, fun c o hc h => ?_, hu6.tups st, hT6, ?_, fun t ht => ?_, upd_same, ?_⟩
      · rw [upd_ne hc]
        exact s6 _ _ (bH c o hc h)
      · rw [List.length_append, List.length_map]
        omega
      · rcases List.mem_append.mp ht with h | h
        · exact hle t h
        · exact hB.pool.le t (hmem t h)
      · rw [take_snoc hpi]
        refine P_app (Paired.mapP hP fun _ _ z => ?_) (P_one ⟨b, rs.length + n2, t2, rfl, st _ _ hb6, ?_, htx⟩)
        · exact z.tups fun c xs h => st _ _ (s6 _ _ h)
        · rw [hT.len, List.getElem?_append_right (Nat.le_add_right ..), Nat.add_sub_cancel_left]
          exact ht2
    · rintro σ H4 ⟨v, y4, y5, y6, rs, ts, us, rfl, sH, bH, hv, hT, hlen, hle, hl, hP⟩
      have hO2 := hO.len
      rw [hxl] at hlen hP
      rw [List.take_length] at hP
      refine ⟨v, rfl, .ref l, rfl, by show 2 ≤ sizeLine; decide, fun a na => ?_⟩
      have sa := same_new (o := HO.tup [v, .ref l]) na
      exact q a l v rs ts us _ (sH.trans sa) upd_same (hv.mono sa) hT (by omega) hle (sa _ _ hl) (Paired.mapP hP fun _ _ z => by have := z.tups (us := []) (Same.tups sa); rwa [List.append_nil] at this)
end
end Sb
set_option Elab.async false
set_option linter.all false
set_option maxRecDepth 100000
set_option maxHeartbeats 4000000
set_option pp.maxSteps 300
/-! Books: what is answered. -/
namespace Sb
open PySem PySem.Spec PyProof.Rows L2
/-- a method of the class C keeps the promise sp -/
def OwnM (P : Program) (w : World) (K : PySem.W.Frag) (mg : Str → Option Value) (base : Heap) (C : Addr) (m : Str) (ps : List Str) (k : Nat) (sp : Sp) : Prop :=
  ∃ f fd, FnOk P w K mg base CX0 k f fd ps sp ∧ Meth K C m f ∧ Binds K fd ps []
def OwnI (P : Program) (w : World) (K : PySem.W.Frag) (mg : Str → Option Value) (base : Heap) (C : Addr) (ps : List Str) (k : Nat) (sp : Sp) : Prop :=
  ∃ f fd, FnOk P w K mg base CX0 k f fd ps sp ∧ Mk K C f ∧ Binds K fd ps []
section
variable {P : Program} {w : World} {K : PySem.W.Frag} {mg : Str → Option Value} {base : Heap}
theorem pe_ownm {X : Cx} {C : Addr} {m : Str} {ps : List Str} {k : Nat} {sp : Sp} {apos pos : Pos} {o e : Expr} {es : List Expr} {ta : TE} {t : TA} {pl : Sem Bool} (c : OwnM X.prog X.w X.K X.mg X.base C m ps k sp) (cl : Cls X.K C) (hr : Room k X.A) (he : PE X o ta) (ha : PA X (e :: es) t)
    (hst : starEach (e :: es) X.env = (false, eval e X.env) :: starEach es X.env := by rfl) (hpl : (backTo pos (starEach es X.env)).any (·.1) = false := by rfl)
    (ht : eval (.Call (.Attribute o m apos) (e :: es) [] pos) X.env = (do
      let ov ← eval o X.env
      standAt apos.atName
      let (f, first) ← holding [ov] (getMethod ov m pl)
      callWith pos f first (backTo pos (starEach (e :: es) X.env)) (backToKw pos (keywordEach [] X.env))) := by rfl) :
    PE X (.Call (.Attribute o m apos) (e :: es) [] pos) (tMeth C m sp [] E0 ta t) := by
  obtain ⟨f, fd, G, hm, b⟩ := c
  exact pe_meth he cl hm G hr b .nil pass0 ha hst hpl ht
theorem pe_owni {X : Cx} {C : Addr} {x : Str} {ps : List Str} {k : Nat} {sp : Sp} {p pos : Pos} (c : OwnI X.prog X.w X.K X.mg X.base C ps k sp) (hm : X.mg x = some (.ref C)) (hr : Room (k + 1) X.A) (hg : Gl X x) (hdb : (x == ("__debug__" : Str)) = false := by decide) :
    PE X (.Call (.Name x p) [] [] pos) (tMake C sp [] E0 tNil) := by
  obtain ⟨f, fd, G, M, b⟩ := c
  exact pe_make0 M G hr hg hm b .nil pass0 hdb
theorem ownm_mk {m nm qual : Str} {C : Addr} {st : Stmt} {N ps : List Str} {k : Nat} {sp : Sp} (d : ∃ f fd, Meth K C m f ∧ FunD K nm qual (defArgs st) (defBody st) (defScope st) [] [] f fd) (S : FnScope N ps (defScope st)) (len : ∀ vs H Q E, sp vs H Q E → vs.length = ps.length)
    (hb : ∀ (kV doc pm : Value) (an : Option Addr) (cdv ct : Value) (us : List Value), us.length = ps.length → bindArgs (PySem.W.fnOf nm qual (defArgs st) (defBody st) (defScope st) .none kV doc pm an cdv ct) ⟨us, []⟩ = pure (ps.zip us))
    (hbody : ∀ (f : Addr) (cdv : Value) (A : Around) (outer : List PySem.Env) (s : Shared) (H : Hp) (vs : List V) (Q : VK) (E : XK), Room k (A.deeper (envOfC qual (defScope st) s.heap.objs.size f cdv)) → sp vs H Q E →
      ∃ t, PSs (cxOf CX0 P w K mg base N qual (defScope st) f cdv A outer s H E).nox (defBody st) t ∧ t { nx := fun _ H' => Q .non H', rt := Q } (start N vs) H) : OwnM P w K mg base C m ps (k + 1) sp := by
  obtain ⟨f, fd, g, F⟩ := d
  refine ⟨f, fd, F.ok S len fun cdv A outer s H vs Q E hr h => ?_, g, F.bindsN hb⟩
  obtain ⟨t, h1, h2⟩ := hbody f cdv A outer s H vs Q E hr h
  exact ⟨t, h1.nox, h2⟩
theorem owni_mk {nm qual : Str} {C : Addr} {st : Stmt} {N ps : List Str} {k : Nat} {sp : Sp} (d : ∃ f fd, Mk K C f ∧ FunD K nm qual (defArgs st) (defBody st) (defScope st) [] [] f fd) (S : FnScope N ps (defScope st)) (len : ∀ vs H Q E, sp vs H Q E → vs.length = ps.length)
    (hb : ∀ (kV doc pm : Value) (an : Option Addr) (cdv ct : Value) (us : List Value), us.length = ps.length → bindArgs (PySem.W.fnOf nm qual (defArgs st) (defBody st) (defScope st) .none kV doc pm an cdv ct) ⟨us, []⟩ = pure (ps.zip us))
    (hbody : ∀ (f : Addr) (cdv : Value) (A : Around) (outer : List PySem.Env) (s : Shared) (H : Hp) (vs : List V) (Q : VK) (E : XK), Room k (A.deeper (envOfC qual (defScope st) s.heap.objs.size f cdv)) → sp vs H Q E →
      ∃ t, PSs (cxOf CX0 P w K mg base N qual (defScope st) f cdv A outer s H E).nox (defBody st) t ∧ t { nx := fun _ H' => Q .non H', rt := Q } (start N vs) H) : OwnI P w K mg base C ps (k + 1) sp := by
  obtain ⟨f, fd, g, F⟩ := d
  refine ⟨f, fd, F.ok S len fun cdv A outer s H vs Q E hr h => ?_, g, F.bindsN hb⟩
  obtain ⟨t, h1, h2⟩ := hbody f cdv A outer s H vs Q E hr h
  exact ⟨t, h1.nox, h2⟩
theorem log_ok {n : Nat} (h : n ≤ 2 ^ 62) : ((n : Nat) : Int).natAbs.log2 < 1920 := by
  show n.log2 < 1920
  by_cases e : n = 0
  · rw [e]
    decide
  · exact Nat.lt_of_lt_of_le ((Nat.log2_lt e).mpr (Nat.lt_of_le_of_lt h (by decide : (2 : Nat) ^ 62 < 2 ^ 63))) (by decide)
def sp_about_one : Sp := fun vs H Q _ => ∃ (v : V) (rs : List Rl) (ts : List Tr) (n : Nat) (t : Tr), vs = [.str "length", v, .int (n : Int)] ∧ RsU H v rs ts ∧ ts[n]? = some t ∧ t.len ≤ 2 ^ 62 ∧ ∀ H', Same H H' → Q (.str (numS t.len)) H'
theorem ok_about_one (T : Hd K mg) : Own P w K mg base "about_one" ["verb", "rules", "name"] 4 sp_about_one := by
  refine own_mk T.d_about_one sc_about_one (fun vs H Q E h => ?_) (fun _ _ _ _ _ _ us hl => match us, hl with | [_, _, _], _ => rfl) (fun fa cdv A outer s H vs Q E hr h => ⟨_, (pss_cons (ps_if (pt_cmpR op_eq (pv 0) pe_str (nomark _)) (pss_one (ps_ret (pe_callTy call_str_int (by rfl) T.z_str (by decide +kernel) (pa_cons (pe_own (ok_length T) (hr.mono (by decide)) (by rfl) (pa_cons (pv 1) (pa_cons (pv 2) pa_nil))) pa_nil)))) pss_nil)
      (pss_cons (ps_if (pt_cmpR op_eq (pv 0) pe_str (nomark _)) (pss_one ps_never) pss_nil)
      (pss_cons (ps_if (pt_cmpR op_eq (pv 0) pe_str (nomark _)) (pss_one ps_never) pss_nil)
      (pss_cons ps_never
      (pss_one ps_never))))), ?_⟩)
  · obtain ⟨v, rs, ts, n, t, rfl, _⟩ := h
    rfl
  · obtain ⟨v, rs, ts, n, t, rfl, hR, ht, hz, q⟩ := h
    refine s_yes (a_eq (vx 0) vc rfl (by decide +kernel)) ?_
    refine ⟨v, rfl, .int (n : Int), rfl, v, rs, ts, some n, t.len, rfl, hR, ⟨t, ht, rfl⟩, fun H' s => ⟨_, rfl, log_ok hz, q H' s⟩⟩
/-- what is asked behind the word, with what is answered of the text t -/
def MoreOf (a : Ak) (x : List Nat) (v : V) (z : Str) : Prop := match a with
  | .length _ => False
  | .sign _ p => v = .int (p : Int) ∧ ∃ c, x[p]? = some c ∧ z = ch c
  | .count _ c => v = .str (ch c) ∧ z = numS (x.count c)
def sp_about_more : Sp := fun vs H Q _ => ∃ (a : Ak) (v y : V) (rs : List Rl) (ts : List Tr) (n : Nat) (t : Tr) (z : Str), vs = [.str a.verb, v, .int (n : Int), y] ∧ RsU H v rs ts ∧ ts[n]? = some t ∧ t.len ≤ 2 ^ 62 ∧ MoreOf a t.txt y z ∧ ∀ H', Same H H' → Q (.str z) H'
theorem ok_about_more (T : Hd K mg) : Own P w K mg base "about_more" ["verb", "rules", "name", "thing"] 5 sp_about_more := by
  refine own_mk T.d_about_more sc_about_more (fun vs H Q E h => ?_) (fun _ _ _ _ _ _ us hl => match us, hl with | [_, _, _, _], _ => rfl) (fun fa cdv A outer s H vs Q E hr h => ⟨_, (pss_cons (ps_if (pt_cmpR op_eq (pv 0) pe_str (nomark _)) (pss_one (ps_ret (pe_callTy call_str_int (by rfl) T.z_str (by decide +kernel) (pa_cons (pe_own (ok_count T) (hr.mono (by decide)) (by rfl) (pa_cons (pv 1) (pa_cons (pv 2) (pa_cons (pv 3) pa_nil)))) pa_nil)))) pss_nil)
      (pss_cons (ps_if (pt_cmpR op_eq (pv 0) pe_str (nomark _)) (pss_one (ps_ret (pe_own (ok_sign_at T) (hr.mono (by decide)) (by rfl) (pa_cons (pv 1) (pa_cons (pv 2) (pa_cons (pv 3) pa_nil)))))) pss_nil)
      (pss_cons (ps_if (pt_cmpR op_eq (pv 0) pe_str (nomark _)) (pss_one ps_never) pss_nil)
      (pss_one ps_never)))), ?_⟩)
  · obtain ⟨a, v, y, rs, ts, n, t, z, rfl, _⟩ := h
    rfl
  · obtain ⟨a, v, y, rs, ts, n, t, z, rfl, hR, ht, hz, hm, q⟩ := h
    cases a with
    | length w => exact hm.elim
    | sign w p =>
      obtain ⟨rfl, c, hc, rfl⟩ := hm
      have x0 : Val (tVar 0) (start ["verb", "rules", "name", "thing"] [V.str (Ak.sign w p).verb, v, .int (n : Int), .int (p : Int)]) H (V.str "sign") := vx 0
      refine s_no (a_eq x0 vc rfl (by decide +kernel)) ?_
      refine s_yes (a_eq x0 vc rfl (by decide +kernel)) ?_
      exact ⟨v, rfl, .int (n : Int), rfl, .int (p : Int), rfl, v, rs, ts, n, p, c, t, rfl, hR, ht, hc, q⟩
    | count w c =>
      obtain ⟨rfl, rfl⟩ := hm
      have x0 : Val (tVar 0) (start ["verb", "rules", "name", "thing"] [V.str (Ak.count w c).verb, v, .int (n : Int), .str (ch c)]) H (V.str "count") := vx 0
      refine s_yes (a_eq x0 vc rfl (by decide +kernel)) ?_
      refine ⟨v, rfl, .int (n : Int), rfl, .str (ch c), rfl, v, rs, ts, n, c, t, rfl, hR, ht, fun H' s => ⟨_, rfl, log_ok (Nat.le_trans List.count_le_length hz), q H' s⟩⟩
def sp_Binit (C : Addr) : Sp := fun vs H Q _ => ∃ (p dx : Addr), vs = [.ref p] ∧ H p = some (.ins C dx []) ∧ ∀ d H', But p H H' → H d = none → H' p = some (.ins C dx [("texts", .ref d)]) → H' d = some (.dK []) → Q .non H'
theorem ok_Binit (T : Hd K mg) {C : Addr} (B : Bk K mg C) : OwnI P w K mg base C ["self"] 1 (sp_Binit C) := by
  refine owni_mk B.ini sc_Binit (fun vs H Q E h => ?_) (fun _ _ _ _ _ _ us hl => match us, hl with | [_], _ => rfl) (fun fa cdv A outer s H vs Q E hr h => ⟨_, (pss_one (ps_fld (pv 0) pe_dnewK rfl)), ?_⟩)
  · obtain ⟨p, dx, rfl, _⟩ := h
    rfl
  · obtain ⟨p, dx, rfl, hp, q⟩ := h
    refine fun d nd => ?_
    have sd := same_new (o := HO.dK []) nd
    refine ⟨.ref p, rfl, p, C, dx, [], rfl, sd _ _ hp, B.cl, B.nt, by decide, ?_⟩
    refine q d _ (fun b o hb h => ?_) nd upd_same ?_
    · rw [upd_ne hb]
      exact sd _ _ h
    · rw [upd_ne (ne_of_none hp nd).symm]
      exact upd_same
theorem fld1 (v : V) : List.lookup ("texts" : Str) [(("texts" : Str), v)] = some v := by
  have h : (("texts" : Str) == ("texts" : Str)) = true := by decide +kernel
  unfold List.lookup
  rw [h]
theorem fld0 (v : V) : List.lookup ("answer" : Str) [(("texts" : Str), v)] = none := by
  have h : (("answer" : Str) == ("texts" : Str)) = false := by decide +kernel
  unfold List.lookup
  rw [h]
  rfl
theorem Ak.no_verb {z : Str} (h1 : z ≠ "length") (h2 : z ≠ "sign") (h3 : z ≠ "count") : ∀ a : Ak, ¬ V.str a.verb = V.str z
  | .length _ => fun e => h1 (V.str.inj e).symm
  | .sign _ _ => fun e => h2 (V.str.inj e).symm
  | .count _ _ => fun e => h3 (V.str.inj e).symm
theorem Ak.not_two : ∀ a : Ak, inV (.str a.verb) [.str "parts", .str "order", .str "ring"] = false
  | .length _ => (by decide +kernel : inV (.str "length") [.str "parts", .str "order", .str "ring"] = false)
  | .sign _ _ => (by decide +kernel : inV (.str "sign") [.str "parts", .str "order", .str "ring"] = false)
  | .count _ _ => (by decide +kernel : inV (.str "count") [.str "parts", .str "order", .str "ring"] = false)
def AnsOf (a : Ak) (x : List Nat) (z : Str) : Prop := match a with
  | .length _ => z = numS x.length
  | .sign _ p => ∃ c, x[p]? = some c ∧ z = ch c
  | .count _ c => z = numS (x.count c)
def sp_Banswer (C : Addr) : Sp := fun vs H Q _ => ∃ (p dx d l : Addr) (E : Env (List Nat)) (U : List Tr) (i : Nat) (a : Ak) (x : List Nat) (z : Str), vs = [.ref p, .str a.verb, .ref l] ∧ H p = some (.ins C dx [("texts", .ref d)]) ∧ BkS H d E U i ∧ i ≤ 60 ∧
  H l = some (.lst (a.tr.map fun q => q.2.2)) ∧ getE E a.word = some x ∧ AnsOf a x z ∧ ∀ H', Same H H' → Q (.str z) H'
theorem ok_Banswer (T : Hd K mg) {C : Addr} (B : Bk K mg C) : OwnM P w K mg base C "answer" ["self", "verb", "values"] 6 (sp_Banswer C) := by
  refine ownm_mk B.ans sc_Banswer (fun vs H Q E h => ?_) (fun _ _ _ _ _ _ us hl => match us, hl with | [_, _, _], _ => rfl) (fun fa cdv A outer s H vs Q E hr h => ⟨_, (pss_cons (ps_if (pt_cmpR op_eq (pv 1) pe_str (nomark _)) (pss_cons (ps_if (pt_cmpR op_eq (pe_callB call_len_seq (by rfl) T.z_len (by decide +kernel) (pa_cons (pe_fld (pv 0) rfl) pa_nil)) pe_int (nomark _)) (pss_one ps_never) pss_nil)
      (pss_one ps_never)) pss_nil)
      (pss_cons (ps_asg (pe_dget (hu_of hr) (pe_fld (pv 0) rfl) (pe_ix ix_list (pv 2) pe_int (fun _ _ => rfl)) (fun _ _ => rfl)) (pg_tup rfl (pgs_cons (pg_name (i := 3) sc_Banswer.nd rfl (Or.inl rfl)) (pgs_cons (pg_name (i := 4) sc_Banswer.nd rfl (Or.inl rfl)) pgs_nil))))
      (pss_cons (ps_if (pt_cmpR op_in_seq (pv 1) (pe_tup (pa_cons pe_str (pa_cons pe_str (pa_cons pe_str pa_nil)))) (by rfl)) (pss_one ps_never) pss_nil)
      (pss_cons (ps_if (pt_cmpR op_eq (pe_callB call_len_seq (by rfl) T.z_len (by decide +kernel) (pa_cons (pv 2) pa_nil)) pe_int (nomark _)) (pss_one (ps_ret (pe_own (ok_about_one T) (hr.mono (by decide)) (by rfl) (pa_cons (pv 1) (pa_cons (pv 3) (pa_cons (pv 4) pa_nil)))))) pss_nil)
      (pss_one (ps_ret (pe_own (ok_about_more T) (hr.mono (by decide)) (by rfl) (pa_cons (pv 1) (pa_cons (pv 3) (pa_cons (pv 4) (pa_cons (pe_ix ix_list (pv 2) pe_int (fun _ _ => rfl)) pa_nil))))))))))), ?_⟩)
  · obtain ⟨p, dx, d, l, E, U, i, a, x, z, rfl, _⟩ := h
    rfl
  · obtain ⟨p, dx, d, l, E, U, i, a, x, z, rfl, hp, hB, hi, hl, hg, hz, q⟩ := h
    obtain ⟨kvs, hd, hE⟩ := hB.at_
    obtain ⟨v, hv, rs, ts, n, t, ⟨⟨a2, u, rfl, ha2, hu⟩, hT, h10, ht, hmem⟩, _, rfl⟩ := hE.get hg
    have hle : t.len ≤ 2 ^ 62 := Nat.le_trans (hB.pool.le t (hmem t (List.mem_of_getElem? ht))) (Nat.pow_le_pow_right (by decide) (by omega))
    have hR : RsU H u rs ts := ⟨hu, hT, by omega⟩
    have hw : ¬ V.str a.verb = V.str "words" := Ak.no_verb (by decide +kernel) (by decide +kernel) (by decide +kernel) a
    refine s_no (a_eq (vx 1) vc rfl (intn hw)) ?_
    refine ⟨.ref p, rfl, p, C, dx, _, .ref d, rfl, hp, B.cl, B.nt, fld1 _, ?_⟩
    refine v_ixL (vx 2) vc (sqL hl) (show atI (a.tr.map fun q => q.2.2) ((0 : Nat) : Int) = some (.str (wd a.word)) from atI_nat rfl) _ ?_
    refine ⟨d, .ref a2, rfl, by rw [← hv]; exact DGet.k (k := Sum.inr (wd a.word)) hd, ?_⟩
    refine ⟨a2, _, rfl, sqT ha2, rfl, u, _, rfl, _, _, rfl, rfl, ?_⟩
    refine ⟨.str a.verb, rfl, by show 3 ≤ sizeLine; decide, fun c nc => ?_⟩
    have s1 := same_new (o := HO.tup [V.str "parts", .str "order", .str "ring"]) nc
    refine ⟨c, _, rfl, .inr (sqT upd_same), rfl, rfl, false, congrArg V.bl a.not_two, iteF ?_⟩
    have hl1 := s1 _ _ hl
    refine ⟨.ref l, rfl, l, _, rfl, .inl (sqL hl1), rfl, _, rfl, ?_⟩
    cases a with
    | length w =>
      refine iteT ?_
      exact ⟨.str "length", rfl, u, rfl, .int (n : Int), rfl, u, rs, ts, n, t, rfl, hR.mono s1, ht, hle, fun H' s => by rw [show numS t.len = z from hz.symm]; exact q H' (s1.trans s)⟩
    | sign w p =>
      refine iteF ?_
      refine ⟨.str "sign", rfl, u, rfl, .int (n : Int), rfl, ?_⟩
      refine v_ixL (vx 2) vc (sqL hl1) (atI_nat (j := 1) rfl) _ ?_
      exact ⟨.sign w p, u, _, rs, ts, n, t, z, rfl, hR.mono s1, ht, hle, ⟨rfl, hz⟩, fun H' s => q H' (s1.trans s)⟩
    | count w c =>
      refine iteF ?_
      refine ⟨.str "count", rfl, u, rfl, .int (n : Int), rfl, ?_⟩
      refine v_ixL (vx 2) vc (sqL hl1) (atI_nat (j := 1) rfl) _ ?_
      exact ⟨.count w c, u, _, rs, ts, n, t, z, rfl, hR.mono s1, ht, hle, ⟨rfl, hz⟩, fun H' s => q H' (s1.trans s)⟩
def sp_Bsay (C : Addr) : Sp := fun vs H Q _ => ∃ (p dx d : Addr) (E : Env (List Nat)) (U : List Tr) (i : Nat) (y : List Nat), vs = [.ref p, .str (tx y)] ∧ H p = some (.ins C dx [("texts", .ref d)]) ∧ BkS H d E U i ∧ i ≤ 56 ∧
  ((∃ (r : Rw) (x : List Nat), r.fine ∧ y = r.text ∧ r.txt E x ∧ ∀ H' U', But d H H' → BkS H' d (putE E r.new x) U' (i + 1) → Q (.str "ok") H') ∨
   (∃ (a : Ak) (x : List Nat) (z : Str), a.fine ∧ y = a.text ∧ getE E a.word = some x ∧ AnsOf a x z ∧ ∀ H', Same H H' → Q (.str z) H'))
theorem ok_Bsay (T : Hd K mg) {C : Addr} (B : Bk K mg C) : OwnM P w K mg base C "say" ["self", "row"] 9 (sp_Bsay C) := by
  refine ownm_mk B.say sc_Bsay (fun vs H Q E h => ?_) (fun _ _ _ _ _ _ us hl => match us, hl with | [_, _], _ => rfl) (fun fa cdv A outer s H vs Q E hr h => ⟨_, (pss_cons (ps_set (i := 2) sc_Bsay.nd rfl (Or.inl rfl) (pe_own (ok_statement_of T) (hr.mono (by decide)) (by rfl) (pa_cons (pv 1) pa_nil)))
      (pss_cons (ps_if (pt_cmpR op_notN (pv 2) pe_non (nomark _)) (pss_cons (ps_dput (hu_of hr) (pe_fld (pv 0) rfl) (pe_ix ix_tup (pv 2) pe_int (fun _ _ => rfl)) (pe_own (ok_made_text T) (hr.mono (by decide)) (by rfl) (pa_cons (pe_fld (pv 0) rfl) (pa_cons (pv 2) pa_nil))) rfl)
      (pss_one (ps_ret pe_str))) pss_nil)
      (pss_cons (ps_set (i := 3) sc_Bsay.nd rfl (Or.inl rfl) (pe_own (ok_asking_of T) (hr.mono (by decide)) (by rfl) (pa_cons (pv 1) pa_nil)))
      (pss_cons (ps_if (pt_cmpR op_isN (pv 3) pe_non (nomark _)) (pss_one ps_never) pss_nil)
      (pss_cons (ps_asg (pv 3) (pg_tup rfl (pgs_cons (pg_name (i := 4) sc_Bsay.nd rfl (Or.inl rfl)) (pgs_cons (pg_name (i := 5) sc_Bsay.nd rfl (Or.inl rfl)) pgs_nil))))
      (pss_cons (ps_expr (pe_own (ok_ask_standing T) (hr.mono (by decide)) (by rfl) (pa_cons (pe_fld (pv 0) rfl) (pa_cons (pe_own (ok_asked_kinds T) (hr.mono (by decide)) (by rfl) (pa_cons (pv 4) pa_nil)) (pa_cons (pv 5) pa_nil)))))
      (pss_cons (ps_if (pt_cmpR op_eq (pv 4) pe_str (nomark _)) (pss_cons ps_never
      (pss_one (ps_ret pe_str))) pss_nil)
      (pss_cons (ps_if (pt_cmpR op_eq (pv 4) pe_str (nomark _)) (pss_one ps_never) pss_nil)
      (pss_one (ps_ret (pe_ownm (ok_Banswer T B) B.cl (hr.mono (by decide)) (pv 0) (pa_cons (pv 4) (pa_cons (pv 5) pa_nil))))))))))))), ?_⟩)
  · obtain ⟨p, dx, d, E, U, i, y, rfl, _⟩ := h
    rfl
  · obtain ⟨p, dx, d, E, U, i, y, rfl, hp, hB, hi, h⟩ := h
    rcases h with ⟨r, x, hf, rfl, hx, q⟩ | ⟨a, x, z, hf, rfl, hg, hz, q⟩
    · refine ⟨.str (tx r.text), rfl, r.text, rfl, .inl ⟨r, hf, rfl, fun v' H3 s3 hdeed => ?_⟩⟩
      have hB3 := hB.mono s3
      obtain ⟨kvs, hd3, hE3⟩ := hB3.at_
      have hdeed2 := hdeed
      obtain ⟨a, l2, rfl, ha, hl2⟩ := hdeed
      refine ⟨.ref a, rfl, rfl, _, rfl, iteT ?_⟩
      have hfew := hB.few
      have hp3 := s3 _ _ hp
      refine ⟨.ref p, rfl, p, C, dx, _, .ref d, rfl, hp3, B.cl, B.nt, fld1 _, .ref a, rfl, ?_⟩
      refine ⟨d, .ref a, r, kvs, E, U, 2 ^ (i + 1 + 2), x, rfl, hdeed2, hd3, hE3, hB.pool.more (by rw [pow_up]; omega), Nat.pow_le_pow_right (by decide) (by omega), hx, txt_short hB.short hx, by omega, fun v4 H4 U4 s4 hT4 hU4 hl4 hP4 => ?_⟩
      have hd4 := s4 _ _ hd3
      have hE4 : DE (TxAt H4 U) kvs E := hE3.mono fun _ _ z => z.mono s4
      refine ⟨.ref p, rfl, p, C, dx, _, .ref d, rfl, s4 _ _ hp3, B.cl, B.nt, fld1 _, ?_⟩
      refine v_ixT (vx 2) vc (sqT (s4 _ _ ha)) (atI_nat (j := 1) rfl) _ ?_
      have hk2 : kvs.length ≤ 2 := by
        rw [Paired.length hE3]
        exact envs_le hB.nd
      refine ⟨d, _, rfl, DPut.k (k := Sum.inr (wd r.new)) hd4 (szt (by omega)), ?_⟩
      refine q _ U4 (fun b o hb h => ?_) (BkS.put hd4 hE4 (hB3.mono s4) hx hT4 hU4 hl4 hP4)
      rw [upd_ne hb]
      exact s4 _ _ (s3 _ _ h)
    · refine ⟨.str (tx a.text), rfl, a.text, rfl, .inr ⟨a, hf, rfl, fun H1 s1 => ?_⟩⟩
      refine ⟨.non, rfl, rfl, _, rfl, iteF ?_⟩
      refine ⟨.str (tx a.text), rfl, a, rfl, hf, fun b l H2 s2 hb hl => ?_⟩
      refine ⟨.ref b, rfl, rfl, _, rfl, iteF ?_⟩
      refine ⟨.ref b, rfl, b, _, rfl, sqT hb, rfl, .str a.verb, _, rfl, .ref l, _, rfl, rfl, ?_⟩
      have s12 := s1.trans s2
      refine ⟨.ref p, rfl, p, C, dx, _, .ref d, rfl, s12 _ _ hp, B.cl, B.nt, fld1 _, .str a.verb, rfl, a, rfl, fun c H3 s3 hc => ?_⟩
      have s13 := s12.trans s3
      have hB3 := hB.mono s13
      obtain ⟨kvs, hd3, hE3⟩ := hB3.at_
      have hl3 := s3 _ _ hl
      obtain ⟨v1, hv1, hT1⟩ := hE3.get hg
      refine ⟨.ref l, rfl, d, c, l, kvs, a.tr.map (·.1), _, rfl, hd3, by rw [hc, Ak.kindsV, List.map_map]; rfl, hl3, ?_, fun H4 s4 => ?_⟩
      · refine .cons (fun _ => ⟨wd a.word, v1, rfl, hv1⟩) ?_
        cases a with
        | length w => exact .nil
        | sign w p => exact .cons (fun e => absurd e (by decide +kernel : ("place" : Str) ≠ "word")) .nil
        | count w c => exact .cons (fun e => absurd e (by decide +kernel : ("sign" : Str) ≠ "word")) .nil
      · refine s_no (a_eq (vx 4) vc rfl (intn (Ak.no_verb (by decide +kernel) (by decide +kernel) (by decide +kernel) a))) ?_
        refine s_no (a_eq (vx 4) vc rfl (intn (Ak.no_verb (by decide +kernel) (by decide +kernel) (by decide +kernel) a))) ?_
        have s14 := s13.trans s4
        refine ⟨.ref p, rfl, p, dx, _, rfl, s14 _ _ hp, fld0 _, .str a.verb, rfl, .ref l, rfl, ?_⟩
        exact ⟨p, dx, d, l, E, U, i, a, x, z, rfl, s14 _ _ hp, hB.mono s14, by omega, s4 _ _ hl3, hg, hz, fun H' s => q H' (s14.trans s)⟩
end
end Sb
set_option Elab.async false
set_option linter.all false
set_option maxRecDepth 100000
set_option maxHeartbeats 4000000
set_option pp.maxSteps 300
/-! The law's own numbers and signs. -/
namespace Sb
open PySem PySem.Spec PyProof.Rows L2
section
variable {K : PySem.W.Frag} {σ : L2.St} {H : Hp} {ta tb : TE} {i j : Int} {C : Int → Int → Prop} {g : Int → Int → V}
theorem v_i (ha : Val ta σ H (.int i)) (hb : Val tb σ H (.int j)) (hc : C i j) : Val (tOp (rI C g) ta tb) σ H (g i j) := v_op ha hb fun _ q => ⟨i, j, rfl, rfl, hc, q⟩
theorem v_i0 (ha : Val ta σ H (.int i)) (hb : Val tb σ H (.int j)) : Val (tOp (rI0 g) ta tb) σ H (g i j) := v_op ha hb fun _ q => ⟨i, j, rfl, rfl, q⟩
theorem v_p40 (ha : Val ta σ H (.int 10)) (hb : Val tb σ H (.int 40)) : Val (tOp (rI CPow fun i j => .int (i ^ j.toNat)) ta tb) σ H (.int (10 ^ 40)) := v_op ha hb fun _ q => ⟨10, 40, rfl, rfl, ⟨by decide, by decide, by decide⟩, q⟩
theorem v_mod (ha : Val ta σ H (.int i)) (hb : Val tb σ H (.int j)) (hc : 0 < j) : Val (tOp (rI (fun _ j => 0 < j) fun i j => .int (i % j)) ta tb) σ H (.int (i % j)) := v_i ha hb hc
theorem v_div (ha : Val ta σ H (.int i)) (hb : Val tb σ H (.int j)) (hc : CDivW i j) : Val (tOp (rI CDivW fun i j => .int (i / j)) ta tb) σ H (.int (i / j)) := v_i ha hb hc
theorem v_mul (ha : Val ta σ H (.int i)) (hb : Val tb σ H (.int j)) (hc : CMulW i j) : Val (tOp (rI CMulW fun i j => .int (i * j)) ta tb) σ H (.int (i * j)) := v_i ha hb hc
theorem v_add (ha : Val ta σ H (.int i)) (hb : Val tb σ H (.int j)) : Val (tOp (rI0 fun i j => .int (i + j)) ta tb) σ H (.int (i + j)) := v_i0 ha hb
theorem v_sub (ha : Val ta σ H (.int i)) (hb : Val tb σ H (.int j)) : Val (tOp (rI0 fun i j => .int (i - j)) ta tb) σ H (.int (i - j)) := v_i0 ha hb
theorem cd (i : Int) {j : Int} (h0 : 0 < j := by decide) (h : j.natAbs < 2 ^ 200 := by decide) : CDivW i j := wide_div (b := 200) h0 h (by decide) (by decide)
end
/-- a draw -/
def Dr (i : Int) : Prop := 0 ≤ i ∧ i < 10 ^ 40
theorem Dr.bits {i : Int} (h : Dr i) : i.natAbs < 2 ^ 133 := by
  obtain ⟨h1, h2⟩ := h
  have e1 : (10 : Int) ^ 40 = 10000000000000000000000000000000000000000 := by decide
  have e2 : (2 : Nat) ^ 133 = 10889035741470030830827987437816582766592 := by decide
  omega
theorem mod40 (i : Int) : Dr (i % 10 ^ 40) := ⟨Int.emod_nonneg _ (by decide), Int.emod_lt_of_pos _ (by decide)⟩
def signsL : List Nat := [48,49,50,51,52,53,54,55,56,57,65,66,67,68,69,70,71,72,73,74,75,76,77,78,79,80,81,82,83,84,85,86,87,88,89,90,97,98,99,100,101,102,103,104,105,106,107,108,109,110,111,112,113,114,115,116,117,118,119,120,121,122]
theorem signs_cps : ("0123456789ABCDEFGHIJKLMNOPQRSTUVWXYZabcdefghijklmnopqrstuvwxyz" : Str).cps.toList = signsL := by decide +kernel
theorem signs_ok : ∀ c ∈ signsL, OkC c := by
  unfold OkC signsL
  decide
section
variable {P : Program} {w : World} {K : PySem.W.Frag} {mg : Str → Option Value} {base : Heap}
def sp_Lsign_by : Sp := fun vs H Q _ => ∃ i : Int, vs = [.int i] ∧ ∀ c, OkC c → Q (.str (ch c)) H
theorem ok_Lsign_by (T : Hd K mg) : Own P w K mg base "_law_sign_by" ["_law_cell"] 1 sp_Lsign_by := by
  refine own_mk T.d_Lsign_by sc_Lsign_by (fun vs H Q E h => ?_) (fun _ _ _ _ _ _ us hl => match us, hl with | [_], _ => rfl) (fun fa cdv A outer s H vs Q E hr h => ⟨_, (pss_one (ps_ret (pe_ix ix_str pe_str (pe_op op_mod (pv 0) pe_int) (fun _ _ => rfl)))), ?_⟩)
  · obtain ⟨i, rfl, _⟩ := h
    rfl
  · obtain ⟨i, rfl, q⟩ := h
    have h0 : 0 ≤ i % 62 := Int.emod_nonneg _ (by decide)
    have h1 : i % 62 < 62 := Int.emod_lt_of_pos _ (by decide)
    obtain ⟨c, hc⟩ := get_at (l := signsL) (i := (i % 62).toNat) (by show _ < 62; omega)
    refine v_op vc (v_mod (vx 0) vc (by decide)) (fun _ q => ⟨_, i % 62, c, rfl, rfl, by decide, ?_, q⟩) _ (q c (signs_ok c (List.mem_of_getElem? hc)))
    rw [signs_cps, show i % 62 = ((i % 62).toNat : Int) by omega]
    exact atI_nat hc
def sp_Lplace : Sp := fun vs H Q _ => ∃ (i : Int) (n : Nat), vs = [.int i, .int (n : Int)] ∧ Dr i ∧ 0 < n ∧ ∀ p : Nat, p < n → Q (.int (p : Int)) H
theorem ok_Lplace (T : Hd K mg) : Own P w K mg base "_law_place" ["_law_cell", "_law_size"] 1 sp_Lplace := by
  refine own_mk T.d_Lplace sc_Lplace (fun vs H Q E h => ?_) (fun _ _ _ _ _ _ us hl => match us, hl with | [_, _], _ => rfl) (fun fa cdv A outer s H vs Q E hr h => ⟨_, (pss_cons (ps_if (pt_cmpR op_eq (pe_op op_mod (pv 0) pe_int) pe_int (nomark _)) (pss_one (ps_ret (pe_op op_mod (pe_op op_fdivW (pv 0) pe_int) (pe_callB (call_min2 rfl) (by rfl) T.z_min (by decide +kernel) (pa_cons (pv 1) (pa_cons pe_int pa_nil)))))) pss_nil)
      (pss_cons (ps_if (pt_cmpR op_eq (pe_op op_mod (pv 0) pe_int) pe_int (nomark _)) (pss_one (ps_ret (pe_op op_sub (pe_op op_sub (pv 1) pe_int) (pe_op op_mod (pe_op op_fdivW (pv 0) pe_int) (pe_callB (call_min2 rfl) (by rfl) T.z_min (by decide +kernel) (pa_cons (pv 1) (pa_cons pe_int pa_nil))))))) pss_nil)
      (pss_one (ps_ret (pe_op op_mod (pe_op op_mulW (pe_op op_fdivW (pv 0) pe_int) pe_int) (pv 1)))))), ?_⟩)
  · obtain ⟨i, n, rfl, _⟩ := h
    rfl
  · obtain ⟨i, n, rfl, hi, hn, q⟩ := h
    have hb := hi.bits
    have hpos : 0 < (if (3 : Int) < (n : Int) then 3 else (n : Int)) := by split <;> omega
    have hle : (if (3 : Int) < (n : Int) then 3 else (n : Int)) ≤ n := by split <;> omega
    have hr0 := Int.emod_nonneg (i / 4) (Int.ne_of_gt hpos)
    have hr1 := Int.emod_lt_of_pos (i / 4) hpos
    have hmin : ∀ H, Val (fun σ H Q => (tCons (tVar 1) (tCons (tC (.int 3)) tNil)) σ H fun xs H1 => ∃ i j, xs = [.int i, .int j] ∧ Q (.int (if j < i then j else i)) H1) (start ["_law_cell", "_law_size"] [V.int i, V.int (n : Int)]) H (.int (if (3 : Int) < (n : Int) then 3 else (n : Int))) := fun H Q q => ⟨.int (n : Int), rfl, _, _, rfl, q⟩
    have v4 : Val (tOp (rI CDivW fun i j => .int (i / j)) (tVar 0) (tC (.int 4))) (start ["_law_cell", "_law_size"] [V.int i, V.int (n : Int)]) H (.int (i / 4)) := v_div (vx 0) vc (cd i)
    have m4 : Val (tOp (rI (fun _ j => 0 < j) fun i j => .int (i % j)) (tVar 0) (tC (.int 4))) (start ["_law_cell", "_law_size"] [V.int i, V.int (n : Int)]) H (.int (i % 4)) := v_mod (vx 0) vc (by decide)
    have rest : Val (tOp (rI (fun _ j => 0 < j) fun i j => .int (i % j)) (tOp (rI CDivW fun i j => .int (i / j)) (tVar 0) (tC (.int 4))) (fun σ H Q => (tCons (tVar 1) (tCons (tC (.int 3)) tNil)) σ H fun xs H1 => ∃ i j, xs = [.int i, .int j] ∧ Q (.int (if j < i then j else i)) H1)) (start ["_law_cell", "_law_size"] [V.int i, V.int (n : Int)]) H (.int (i / 4 % (if (3 : Int) < (n : Int) then 3 else (n : Int)))) := v_mod v4 (hmin H) hpos
    by_cases h0 : i % 4 = 0
    · refine s_yes (a_eq m4 vc rfl (intd (by rw [h0]))) ?_
      refine rest _ ?_
      have := q ((i / 4 % (if (3 : Int) < (n : Int) then 3 else (n : Int))).toNat) (by omega)
      rwa [Int.toNat_of_nonneg hr0] at this
    · refine s_no (a_eq m4 vc rfl (intn fun e => h0 (V.int.inj e))) ?_
      by_cases h1 : i % 4 = 1
      · refine s_yes (a_eq m4 vc rfl (intd (by rw [h1]))) ?_
        refine v_sub (v_sub (vx 1) vc) rest _ ?_
        have := q (((n : Int) - 1 - i / 4 % (if (3 : Int) < (n : Int) then 3 else (n : Int))).toNat) (by omega)
        rwa [Int.toNat_of_nonneg (by omega)] at this
      · refine s_no (a_eq m4 vc rfl (intn fun e => h1 (V.int.inj e))) ?_
        have hw : CMulW (i / 4) 1152921504606846883 := wide_mul (a := 133) (b := 61) (Nat.lt_of_le_of_lt (by have := hi.1; omega) hb) (by decide) (by decide) (by decide) (by decide)
        refine v_mod (v_mul v4 vc hw) (vx 1) (by omega) _ ?_
        have h2 := Int.emod_nonneg (i / 4 * 1152921504606846883) (show (n : Int) ≠ 0 by omega)
        have h3 := Int.emod_lt_of_pos (i / 4 * 1152921504606846883) (show (0 : Int) < (n : Int) by omega)
        have := q ((i / 4 * 1152921504606846883 % (n : Int)).toNat) (by omega)
        rwa [Int.toNat_of_nonneg h2] at this
theorem pow2_150 : (2 : Int) ^ 150 = 1427247692705959881058285969449495136382746624 := by decide
theorem pow2_61 : (2 : Int) ^ 62 = 4611686018427387904 := by decide
theorem bits_of {i : Int} {b : Nat} (h0 : 0 ≤ i) (h : i < 2 ^ b) : i.natAbs < 2 ^ b := by
  have e : ((2 ^ b : Nat) : Int) = 2 ^ b := by simp
  omega
def sp_Lmixed (K : PySem.W.Frag) : Sp := fun vs H Q _ => ∃ (a : Addr) (ns : List Int) (k : Nat), vs = [.ref a, .int (k : Int)] ∧ SqL K H a (ns.map V.int) ∧ ns.length ≤ 63 ∧ k ≤ 50 ∧ ∀ m, Dr m → Q (.int m) H
theorem ok_Lmixed (T : Hd K mg) : Own P w K mg base "_law_mixed" ["_law_cells", "_law_k"] 1 (sp_Lmixed K) := by
  refine own_mk T.d_Lmixed sc_Lmixed (fun vs H Q E h => ?_) (fun _ _ _ _ _ _ us hl => match us, hl with | [_, _], _ => rfl) (fun fa cdv A outer s H vs Q E hr h => ⟨_, (pss_cons (ps_if (pt_cmpR op_lt (pv 1) (pe_callB call_len_seq (by rfl) T.z_len (by decide +kernel) (pa_cons (pv 0) pa_nil)) (nomark _)) (pss_one (ps_ret (pe_op op_mod (pe_op op_mulW (pe_op op_mod (pe_ix ix_list (pv 0) (pv 1) (fun _ _ => rfl)) (pe_op op_pow pe_int pe_int)) pe_int) (pe_op op_pow pe_int pe_int)))) pss_nil)
      (pss_cons (ps_set (i := 2) sc_Lmixed.nd rfl (Or.inl rfl) (pe_op op_add (pe_op op_mulW (pe_op op_mulW (pv 1) (pv 1)) pe_int) pe_int))
      (C8.pss_cut (ps_if (pt_cmpR op_gt (pe_callB call_len_seq (by rfl) T.z_len (by decide +kernel) (pa_cons (pv 0) pa_nil)) pe_int (nomark _)) (pss_one (ps_set (i := 2) sc_Lmixed.nd rfl (Or.inl rfl) (pe_op op_add (pv 2) (pe_op op_mulW (pe_op op_mod (pe_ix ix_list (pv 0) (pe_op op_mod (pe_op op_mulW (pv 1) pe_int) (pe_callB call_len_seq (by rfl) T.z_len (by decide +kernel) (pa_cons (pv 0) pa_nil))) (fun _ _ => rfl)) (pe_op op_pow pe_int pe_int)) (pe_op op_add pe_int (pe_op op_mulW pe_int (pv 1))))))) pss_nil)
      (pss_cons (ps_set (i := 2) sc_Lmixed.nd rfl (Or.inl rfl) (pe_op op_mod (pe_op op_mulW (pv 2) (pv 2)) pe_int))
      (pss_cons (ps_set (i := 2) sc_Lmixed.nd rfl (Or.inl rfl) (pe_op op_mod (pe_op op_mulW (pe_op op_add (pe_op op_add (pv 2) (pe_op op_mulW (pe_op op_mulW (pv 1) (pv 1)) (pv 1))) pe_int) (pe_op op_add (pv 2) pe_int)) pe_int))
      (pss_one (ps_ret (pe_op op_mod (pe_op op_mulW (pv 2) pe_int) (pe_op op_pow pe_int pe_int))))))))), ?_⟩)
  · obtain ⟨a, ns, k, rfl, _⟩ := h
    rfl
  · obtain ⟨a, ns, k, rfl, hs, h63, hk, q⟩ := h
    have hl : (ns.map V.int).length = ns.length := List.length_map _
    have last : ∀ (ta : TE) (σ : L2.St) (i : Int), Val ta σ H (.int i) → 0 ≤ i → i < 2 ^ 150 → Val (tOp (rI (fun _ j => 0 < j) fun i j => .int (i % j)) (tOp (rI CMulW fun i j => .int (i * j)) ta (tC (.int 2718281828459045235360287471352662497757))) (tOp (rI CPow fun i j => .int (i ^ j.toNat)) (tC (.int 10)) (tC (.int 40)))) σ H (.int (i * 2718281828459045235360287471352662497757 % 10 ^ 40)) := fun ta σ i h h0 h1 =>
      v_mod (v_mul h vc (wide_mul (a := 150) (b := 132) (bits_of h0 h1) (by decide) (by decide) (by decide) (by decide))) (v_p40 vc vc) (by decide)
    refine ⟨.int (k : Int), rfl, .ref a, rfl, a, _, rfl, .inl hs, _, _, rfl, rfl, _, rfl, ?_⟩
    by_cases hlt : k < ns.length
    · rw [intd (show (k : Int) < ((ns.map V.int).length : Int) by omega)]
      refine iteT ?_
      obtain ⟨x, hx⟩ := get_at hlt
      have hx2 : (ns.map V.int)[k]? = some (.int x) := by rw [List.getElem?_map, hx]; rfl
      obtain ⟨g1, g2⟩ := mod40 x
      refine last _ _ (x % 10 ^ 40) (v_mod (v_ixL (vx 0) (vx 1) hs (atI_nat hx2)) (v_p40 vc vc) (by decide)) g1 (Int.lt_of_lt_of_le g2 (by decide)) _ (q _ (mod40 _))
    · rw [intn (show ¬ (k : Int) < ((ns.map V.int).length : Int) by omega)]
      refine iteF ?_
      have kk : (k : Int) * k ≤ 2500 := by
        have := Nat.mul_le_mul hk hk
        have e : ((k * k : Nat) : Int) = (k : Int) * k := by simp
        omega
      have kk0 : 0 ≤ (k : Int) * k := Int.mul_nonneg (by omega) (by omega)
      have w1 : CMulW (k : Int) k := wide_mul (a := 13) (b := 13) (by omega) (by omega) (by decide) (by decide) (by decide)
      have w2 : CMulW ((k : Int) * k) 7919 := wide_mul (a := 13) (b := 13) (by omega) (by decide) (by decide) (by decide) (by decide)
      refine v_add (v_mul (v_mul (vx 1) (vx 1) w1) vc w2) vc _ ?_
      refine ⟨fun σ' H' => H' = H ∧ ∃ m : Int, 0 ≤ m ∧ m < 2 ^ 150 ∧ σ' = [some (.ref a), some (.int (k : Int)), some (.int m)], ?_, ?_⟩
      · refine ⟨.ref a, rfl, a, _, rfl, .inl hs, _, _, rfl, rfl, _, rfl, ?_⟩
        by_cases hp : 0 < ns.length
        · rw [intd (show (0 : Int) < ((ns.map V.int).length : Int) by omega)]
          refine iteT ?_
          have w3 : CMulW (k : Int) 7 := wide_mul (a := 13) (b := 13) (by omega) (by decide) (by decide) (by decide) (by decide)
          have g0 := Int.emod_nonneg ((k : Int) * 7) (show ((ns.map V.int).length : Int) ≠ 0 by omega)
          have g1 := Int.emod_lt_of_pos ((k : Int) * 7) (show (0 : Int) < ((ns.map V.int).length : Int) by omega)
          obtain ⟨x, hx⟩ := get_at (l := ns) (i := ((k : Int) * 7 % ((ns.map V.int).length : Int)).toNat) (by omega)
          have hx2 : atI (ns.map V.int) ((k : Int) * 7 % ((ns.map V.int).length : Int)) = some (.int x) := by
            rw [← Int.toNat_of_nonneg g0]
            exact atI_nat (by rw [List.getElem?_map, hx]; rfl)
          have hln : Val (fun σ H Q => (tCons (tVar 0) tNil) σ H fun xs H1 => ∃ (p : Addr) (ys : List V), xs = [.ref p] ∧ (SqL K H1 p ys ∨ SqT K H1 p ys) ∧ Q (.int (ys.length : Int)) H1) [some (.ref a), some (.int (k : Int)), some (.int ((k : Int) * k * 7919 + 5))] H (.int ((ns.map V.int).length : Int)) := fun Q q => ⟨.ref a, rfl, a, _, rfl, .inl hs, q⟩
          obtain ⟨d0, d1⟩ := mod40 x
          have f1 : CMulW 2 (k : Int) := wide_mul (a := 13) (b := 13) (by decide) (by omega) (by decide) (by decide) (by decide)
          have f2 : CMulW (x % 10 ^ 40) (48271 + 2 * (k : Int)) := wide_mul (a := 133) (b := 17) (Dr.bits (mod40 x)) (by omega) (by decide) (by decide) (by decide)
          refine v_add (vx 2) (v_mul (v_mod (v_ixL (vx 0) (v_mod (v_mul (vx 1) vc w3) hln (by omega)) hs hx2) (v_p40 vc vc) (by decide)) (v_add vc (v_mul vc (vx 1) f1)) f2) _ ?_
          have b1 : x % 10 ^ 40 * (48271 + 2 * (k : Int)) ≤ 10 ^ 40 * 50000 := Int.mul_le_mul (Int.le_of_lt d1) (by omega) (by omega) (by decide)
          have b0 : 0 ≤ x % 10 ^ 40 * (48271 + 2 * (k : Int)) := Int.mul_nonneg d0 (by omega)
          refine ⟨rfl, _, by omega, ?_, rfl⟩
          rw [pow2_150]
          omega
        · rw [intn (show ¬ (0 : Int) < ((ns.map V.int).length : Int) by omega)]
          refine iteF ⟨rfl, _, by omega, ?_, rfl⟩
          rw [pow2_150]
          omega
      · rintro σ' H' ⟨rfl, m, hm0, hm1, rfl⟩
        refine v_mod (v_mul (vx 2) (vx 2) (wide_mul (a := 150) (b := 150) (bits_of hm0 hm1) (bits_of hm0 hm1) (by decide) (by decide) (by decide))) vc (by decide) _ ?_
        have e0 := Int.emod_nonneg (m * m) (show (2147483629 : Int) ≠ 0 by decide)
        have e1 := Int.emod_lt_of_pos (m * m) (show (0 : Int) < 2147483629 by decide)
        generalize m * m % 2147483629 = r at e0 e1
        have kkk : (k : Int) * k * k ≤ 125000 := by
          have := Int.mul_le_mul kk (show (k : Int) ≤ 50 by omega) (by omega) (by decide)
          omega
        have kkk0 : 0 ≤ (k : Int) * k * k := Int.mul_nonneg kk0 (by omega)
        have w4 : CMulW ((k : Int) * k) k := wide_mul (a := 13) (b := 13) (by omega) (by omega) (by decide) (by decide) (by decide)
        have w5 : CMulW (r + (k : Int) * k * k + 16807) (r + 69621) := wide_mul (a := 40) (b := 40) (by omega) (by omega) (by decide) (by decide) (by decide)
        refine v_mod (v_mul (v_add (v_add (vx 2) (v_mul (v_mul (vx 1) (vx 1) w1) (vx 1) w4)) vc) (v_add (vx 2) vc) w5) vc (by decide) _ ?_
        have t0 := Int.emod_nonneg ((r + (k : Int) * k * k + 16807) * (r + 69621)) (show (4611686018427387847 : Int) ≠ 0 by decide)
        have t1 := Int.emod_lt_of_pos ((r + (k : Int) * k * k + 16807) * (r + 69621)) (show (0 : Int) < 4611686018427387847 by decide)
        refine last _ _ _ (vx 2) t0 (by rw [pow2_150]; omega) _ (q _ (mod40 _))
def sp_Ldraws (K : PySem.W.Frag) : Sp := fun vs H Q _ => ∃ (a : Addr) (ns : List Int), vs = [.ref a, .int 4, .int 42] ∧ SqL K H a (ns.map V.int) ∧ ns.length ≤ 63 ∧
  ∀ (l : Addr) (ds : List Int) (H' : Hp), Same H H' → H' l = some (.lst (ds.map V.int)) → 4 ≤ ds.length → ds.length ≤ 42 → (∀ d ∈ ds, Dr d) → Q (.ref l) H'
theorem ok_Ldraws (T : Hd K mg) : Own P w K mg base "_law_draws" ["_law_script", "_law_ahead_of", "_law_most"] 2 (sp_Ldraws K) := by
  refine own_mk T.d_Ldraws sc_Ldraws (fun vs H Q E h => ?_) (fun _ _ _ _ _ _ us hl => match us, hl with | [_, _, _], _ => rfl) (fun fa cdv A outer s H vs Q E hr h => ⟨_, (pss_cons (ps_set (i := 3) sc_Ldraws.nd rfl (Or.inl rfl) (pe_callTy call_list_of (by rfl) T.z_list (by decide +kernel) (pa_cons (pv 0) pa_nil)))
      (C8.pss_cut (ps_if (pt_cmpR op_gt (pe_callB call_len_seq (by rfl) T.z_len (by decide +kernel) (pa_cons (pv 3) pa_nil)) pe_int (nomark _)) (pss_cons (ps_set (i := 4) sc_Ldraws.nd rfl (Or.inl rfl) (pe_op op_add (pv 1) (pe_op op_mod (pe_ix ix_list (pv 3) pe_int (fun _ _ => rfl)) (pe_op op_add (pe_op op_sub (pv 2) (pv 1)) pe_int))))
      (pss_cons (ps_asg (pe_op op_fdivW (pe_ix ix_list (pv 3) pe_int (fun _ _ => rfl)) (pe_op op_add (pe_op op_sub (pv 2) (pv 1)) pe_int)) (pg_sub (pv 3) pe_int set_list))
      (pss_cons (ps_set (i := 5) sc_Ldraws.nd rfl (Or.inl rfl) (pe_lst pa_nil))
      (pss_cons (ps_for PassesOwn.never rfl (pi_range1 (by rfl) T.z_range (pa_cons (pv 4) pa_nil)) (pg_name (i := 6) sc_Ldraws.nd rfl (Or.inl rfl)) (pss_cons (ps_expr (pe_bm PySem.F.plainAttrs_list PySem.F.slot_list_append PySem.F.type_list_append mt_append (pv 5) (pa_cons (pe_op op_mod (pe_ix ix_list (pv 3) (pe_op op_mod (pv 6) (pe_callB call_len_seq (by rfl) T.z_len (by decide +kernel) (pa_cons (pv 3) pa_nil))) (fun _ _ => rfl)) (pe_op op_pow pe_int pe_int)) pa_nil)))
      (pss_one (ps_asg (pe_op op_fdivW (pe_ix ix_list (pv 3) (pe_op op_mod (pv 6) (pe_callB call_len_seq (by rfl) T.z_len (by decide +kernel) (pa_cons (pv 3) pa_nil))) (fun _ _ => rfl)) (pe_op op_pow pe_int pe_int)) (pg_sub (pv 3) (pe_op op_mod (pv 6) (pe_callB call_len_seq (by rfl) T.z_len (by decide +kernel) (pa_cons (pv 3) pa_nil))) set_list)))))
      (pss_one (ps_if (pt_cmpR op_gt (pe_callB (cr_min rfl) (by rfl) T.z_min (by decide +kernel) (pa_cons (pv 3) pa_nil)) pe_int (nomark _)) (pss_one (ps_ret (pv 5))) pss_nil)))))) pss_nil)
      (pss_one (ps_ret (pe_lc (own := [("_law_k", 6)]) (g := gName 6) (tt := tYes) rfl sc_Ldraws.nd (pi_range1 (by rfl) T.z_range (pa_cons (pe_callB (call_max2 rfl) (by rfl) T.z_max (by decide +kernel) (pa_cons (pv 1) (pa_cons (pe_callB (call_min2 rfl) (by rfl) T.z_min (by decide +kernel) (pa_cons (pv 2) (pa_cons (pe_callB call_len_seq (by rfl) T.z_len (by decide +kernel) (pa_cons (pv 0) pa_nil)) pa_nil))) pa_nil))) pa_nil)) (blkOk_by (own := [("_law_k", 6)]) (N := ["_law_script", "_law_ahead_of", "_law_most", "_law_cells", "_law_many", "_law_draws_here", "_law_k"]) (sc := defScope s_Ldraws) (by decide +kernel)) (fun _ _ _ _ _ => pg_name (i := 6) sc_Ldraws.nd rfl (Or.inl rfl)) (fun _ _ _ _ _ => pts_nil) (fun _ _ _ _ _ => (pe_own (ok_Lmixed T) (hr.mono (by decide)) (by rfl) (pa_cons (pv 0) (pa_cons (pv 6) pa_nil))))))))), ?_⟩)
  · obtain ⟨a, ns, rfl, _⟩ := h
    rfl
  · obtain ⟨a, ns, rfl, hs, h63, q⟩ := h
    have hl : (ns.map V.int).length = ns.length := List.length_map _
    refine ⟨.ref a, rfl, a, _, rfl, .inl hs, fun c nc => ?_⟩
    have sc := same_new (o := HO.lst (ns.map V.int)) nc
    have hc0 : (upd H c (.lst (ns.map V.int))) c = some (.lst (ns.map V.int)) := upd_same
    refine ⟨fun σ' H' => Same H H' ∧ ∃ y3 y4 y5 y6, σ' = [some (.ref a), some (.int 4), some (.int 42), y3, y4, y5, y6], ?_, ?_⟩
    · refine ⟨.ref c, rfl, c, _, rfl, .inl (sqL hc0), _, _, rfl, rfl, _, rfl, ?_⟩
      by_cases hp : 0 < ns.length
      · rw [intd (show (0 : Int) < ((ns.map V.int).length : Int) by omega)]
        refine iteT ?_
        obtain ⟨x, hx⟩ := get_at hp
        have hx2 : atI (ns.map V.int) ((0 : Nat) : Int) = some (.int x) := atI_nat (by rw [List.getElem?_map, hx]; rfl)
        have g0 := Int.emod_nonneg x (show (42 - 4 + 1 : Int) ≠ 0 by decide)
        have g1 := Int.emod_lt_of_pos x (show (0 : Int) < 42 - 4 + 1 by decide)
        refine v_add (vx 1) (v_mod (v_ixL (vx 3) vc (sqL hc0) hx2) (v_add (v_sub (vx 2) (vx 1)) vc) (by decide)) _ ?_
        refine v_div (v_ixL (vx 3) vc (sqL hc0) hx2) (v_add (v_sub (vx 2) (vx 1)) vc) (cd _) _ ?_
        refine ⟨.ref c, rfl, c, _, 0, 0, rfl, rfl, hc0, by unfold ixN; rw [hl, if_pos (by omega), if_pos (by omega)]; rfl, ?_⟩
        have hcu : (ns.map V.int).set 0 (.int (x / (42 - 4 + 1))) = (ns.set 0 (x / (42 - 4 + 1))).map V.int := by rw [List.map_set]
        rw [hcu]
        have s1 := Same.mut sc nc (o := .lst ((ns.set 0 (x / (42 - 4 + 1))).map V.int))
        have hc1 : (upd (upd H c (.lst (ns.map V.int))) c (.lst ((ns.set 0 (x / (42 - 4 + 1))).map V.int))) c = some (.lst ((ns.set 0 (x / (42 - 4 + 1))).map V.int)) := upd_same
        generalize upd (upd H c (.lst (ns.map V.int))) c (.lst ((ns.set 0 (x / (42 - 4 + 1))).map V.int)) = H1 at s1 hc1
        have hcl : (ns.set 0 (x / (42 - 4 + 1))).length = ns.length := List.length_set
        generalize ns.set 0 (x / (42 - 4 + 1)) = cs at hc1 hcl
        refine ⟨by show 0 ≤ sizeLine; decide, fun l nl => ?_⟩
        have sl := same_new (o := HO.lst []) nl
        have hlc : l ≠ c := (ne_of_none hc1 nl).symm
        have nl0 := s1.free nl
        refine ⟨.int (4 + x % (42 - 4 + 1)), rfl, 4 + x % (42 - 4 + 1), rfl, by omega, by omega, ?_⟩
        refine for_range (lo := 0) (n := (4 + x % (42 - 4 + 1)).toNat) (fun i σ' H' => ∃ y6 cs ds, σ' = [some (.ref a), some (.int 4), some (.int 42), some (.ref c), some (.int (4 + x % (42 - 4 + 1))), some (.ref l), y6] ∧ Same H H' ∧ H' c = some (.lst (cs.map V.int)) ∧ cs.length = ns.length ∧ H' l = some (.lst (ds.map V.int)) ∧ ds.length = i ∧ (∀ d ∈ ds, Dr d))
          ⟨none, cs, [], rfl, s1.trans sl, sl _ _ hc1, hcl, upd_same, rfl, fun d h => absurd h List.not_mem_nil⟩ ?_ ?_
        · rintro i σ' H' hi ⟨y6, cs, ds, rfl, sH, hc, hcl, hl5, hdl, hD⟩
          have hcl2 : (cs.map V.int).length = cs.length := List.length_map _
          have e0 := Int.emod_nonneg (0 + (i : Int)) (show ((cs.map V.int).length : Int) ≠ 0 by omega)
          have e1 := Int.emod_lt_of_pos (0 + (i : Int)) (show (0 : Int) < ((cs.map V.int).length : Int) by omega)
          obtain ⟨z, hz⟩ := get_at (l := cs) (i := ((0 + (i : Int)) % ((cs.map V.int).length : Int)).toNat) (by omega)
          have hz2 : atI (cs.map V.int) ((0 + (i : Int)) % ((cs.map V.int).length : Int)) = some (.int z) := by
            rw [← Int.toNat_of_nonneg e0]
            exact atI_nat (by rw [List.getElem?_map, hz]; rfl)
          have hln : ∀ (H2 : Hp) (y : Option V) , H2 c = some (.lst (cs.map V.int)) → Val (fun σ H Q => (tCons (tVar 3) tNil) σ H fun xs H1 => ∃ (p : Addr) (ys : List V), xs = [.ref p] ∧ (SqL K H1 p ys ∨ SqT K H1 p ys) ∧ Q (.int (ys.length : Int)) H1) [some (.ref a), some (.int 4), some (.int 42), some (.ref c), some (.int (4 + x % (42 - 4 + 1))), some (.ref l), y] H2 (.int ((cs.map V.int).length : Int)) := fun H2 y h Q q => ⟨.ref c, rfl, c, _, rfl, .inl (sqL h), q⟩
          refine ⟨.ref l, rfl, .inl ⟨rfl, _, sqL hl5⟩, ?_⟩
          refine v_mod (v_ixL (vx 3) (v_mod (vx 6) (hln _ _ hc) (by omega)) (sqL hc) hz2) (v_p40 vc vc) (by decide) _ ?_
          refine ⟨l, _, _, rfl, rfl, hl5, szt (by rw [List.length_map]; omega), ?_⟩
          have hc2 : (upd H' l (.lst (ds.map V.int ++ [.int (z % 10 ^ 40)]))) c = some (.lst (cs.map V.int)) := by
            rw [upd_ne hlc.symm]
            exact hc
          have hl2 : (upd H' l (.lst (ds.map V.int ++ [.int (z % 10 ^ 40)]))) l = some (.lst ((ds ++ [z % 10 ^ 40]).map V.int)) := by
            rw [upd_same, List.map_append]
            rfl
          have s2 := Same.mut sH nl0 (o := .lst (ds.map V.int ++ [.int (z % 10 ^ 40)]))
          generalize upd H' l (.lst (ds.map V.int ++ [.int (z % 10 ^ 40)])) = H2 at hc2 hl2 s2
          refine v_div (v_ixL (vx 3) (v_mod (vx 6) (hln _ _ hc2) (by omega)) (sqL hc2) hz2) (v_p40 vc vc) (cd _) _ ?_
          refine ⟨.ref c, rfl, ?_⟩
          refine v_mod (vx 6) (hln _ _ hc2) (by omega) _ ?_
          refine ⟨c, _, _, _, rfl, rfl, hc2, by unfold ixN; rw [if_pos e0, if_pos e1], ?_⟩
          refine ⟨_, cs.set ((0 + (i : Int)) % ((cs.map V.int).length : Int)).toNat (z / 10 ^ 40), ds ++ [z % 10 ^ 40], rfl, Same.mut s2 nc, ?_, ?_, ?_, ?_, ?_⟩
          · rw [upd_same, List.map_set]
          · rw [List.length_set]
            exact hcl
          · rw [upd_ne hlc]
            exact hl2
          · rw [List.length_append, hdl]
            rfl
          · intro d hd
            rcases List.mem_append.mp hd with h | h
            · exact hD d h
            · rw [List.mem_singleton.mp h]
              exact mod40 _
        · rintro σ' H' ⟨y6, cs, ds, rfl, sH, hc, hcl, hl5, hdl, hD⟩
          refine ⟨.ref c, rfl, c, cs, rfl, sqL hc, by omega, fun m _ _ => ⟨_, _, rfl, rfl, _, rfl, ?_⟩⟩
          by_cases hm : (0 : Int) < m
          · rw [intd hm]
            exact iteT ⟨.ref l, rfl, q l ds H' sH hl5 (by omega) (by omega) hD⟩
          · rw [intn hm]
            exact iteF ⟨sH, _, _, _, _, rfl⟩
      · rw [intn (show ¬ (0 : Int) < ((ns.map V.int).length : Int) by omega)]
        exact iteF ⟨sc, _, _, _, _, rfl⟩
    · rintro σ' H' ⟨sH, y3, y4, y5, y6, rfl⟩
      have hs' := Same.seq sH hs
      refine ⟨.int 4, rfl, .int 42, rfl, .ref a, rfl, a, _, rfl, .inl hs', 42, _, rfl, 4, _, rfl, ?_⟩
      have hb : (if (if ((ns.map V.int).length : Int) < 42 then ((ns.map V.int).length : Int) else 42) > 4 then (if ((ns.map V.int).length : Int) < 42 then ((ns.map V.int).length : Int) else 42) else 4) ≤ 42 ∧ 4 ≤ (if (if ((ns.map V.int).length : Int) < 42 then ((ns.map V.int).length : Int) else 42) > 4 then (if ((ns.map V.int).length : Int) < 42 then ((ns.map V.int).length : Int) else 42) else 4) := by
        split <;> split <;> omega
      generalize (if (if ((ns.map V.int).length : Int) < 42 then ((ns.map V.int).length : Int) else 42) > 4 then (if ((ns.map V.int).length : Int) < 42 then ((ns.map V.int).length : Int) else 42) else 4) = n at hb
      refine ⟨n, rfl, by omega, by omega, fun D nD => ?_⟩
      have sD := same_new (o := HO.lst []) nD
      refine lc_range (lo := 0) (n := n.toNat) (fun i H2 => Same H' H2 ∧ ∃ ds : List Int, H2 D = some (.lst (ds.map V.int)) ∧ ds.length = i ∧ ∀ d ∈ ds, Dr d) ⟨sD, [], upd_same, rfl, fun d h => absurd h List.not_mem_nil⟩ (fun i H2 hi ⟨s2, ds, hD, hdl, hd⟩ => ⟨rfl, ?_⟩) (fun H2 ⟨s2, ds, hD, hdl, hd⟩ => q D ds H2 (sH.trans s2) hD (by omega) (by omega) hd)
      refine ⟨.ref a, rfl, .int (0 + (i : Int)), rfl, a, ns, i, by rw [Int.zero_add]; rfl, Same.seq (sH.trans s2) hs, h63, by omega, fun m hm => ?_⟩
      refine ⟨_, hD, szt (by rw [List.length_map]; omega), Same.mut s2 nD, ds ++ [m], ?_, ?_, ?_⟩
      · rw [upd_same, List.map_append]
        rfl
      · rw [List.length_append, hdl]
        rfl
      · intro d h
        rcases List.mem_append.mp h with h | h
        · exact hd d h
        · rw [List.mem_singleton.mp h]
          exact hm
/-- one to four signs -/
def sp_Lsigns : Sp := fun vs H Q _ => ∃ i : Int, vs = [.int i] ∧ ∀ (s : List Nat) (H' : Hp), Same H H' → s ≠ [] → s.length ≤ 4 → (∀ c ∈ s, OkC c) → Q (.str (tx s)) H'
theorem ok_Lsigns (T : Hd K mg) : Own P w K mg base "_law_signs" ["_law_cell"] 2 sp_Lsigns := by
  refine own_mk T.d_Lsigns sc_Lsigns (fun vs H Q E h => ?_) (fun _ _ _ _ _ _ us hl => match us, hl with | [_], _ => rfl) (fun fa cdv A outer s H vs Q E hr h => ⟨_, (pss_cons (ps_set (i := 1) sc_Lsigns.nd rfl (Or.inl rfl) pe_str)
      (pss_cons (ps_for PassesOwn.never rfl (pi_range1 (by rfl) T.z_range (pa_cons (pe_op op_add pe_int (pe_op op_mod (pv 0) pe_int)) pa_nil)) (pg_name (i := 2) sc_Lsigns.nd rfl (Or.inl rfl)) (pss_one (ps_set (i := 1) sc_Lsigns.nd rfl (Or.inl rfl) (pe_op op_add_str (pv 1) (pe_own (ok_Lsign_by T) (hr.mono (by decide)) (by rfl) (pa_cons (pe_op op_fdivW (pv 0) (pe_ix ix_list (pe_lst (pa_cons pe_int (pa_cons pe_int (pa_cons pe_int (pa_cons pe_int pa_nil))))) (pv 2) (fun _ _ => rfl))) pa_nil))))))
      (pss_one (ps_ret (pv 1))))), ?_⟩)
  · obtain ⟨i, rfl, _⟩ := h
    rfl
  · obtain ⟨i, rfl, q⟩ := h
    have e0 := Int.emod_nonneg i (show (4 : Int) ≠ 0 by decide)
    have e1 := Int.emod_lt_of_pos i (show (0 : Int) < 4 by decide)
    refine v_add vc (v_mod (vx 0) vc (by decide)) _ ?_
    refine ⟨1 + i % 4, rfl, by omega, by omega, ?_⟩
    refine for_range (lo := 0) (n := (1 + i % 4).toNat) (fun j σ' H' => ∃ (s : List Nat) (y2 : Option V), σ' = [some (.int i), some (.str (tx s)), y2] ∧ Same H H' ∧ s.length = j ∧ ∀ c ∈ s, OkC c)
      ⟨[], none, rfl, Same.refl H, rfl, fun c h => absurd h List.not_mem_nil⟩ ?_ ?_
    · rintro j σ' H' hj ⟨s, y2, rfl, sH, hsl, hs⟩
      refine ⟨.str (tx s), rfl, ?_⟩
      obtain ⟨d, hd, hd0, hd1⟩ : ∃ d : Int, atI [V.int 4, .int 248, .int 15376, .int 953312] (j : Int) = some (.int d) ∧ 0 < d ∧ d.natAbs < 2 ^ 200 := by
        have : j = 0 ∨ j = 1 ∨ j = 2 ∨ j = 3 := by omega
        rcases this with rfl | rfl | rfl | rfl
        · exact ⟨4, atI_nat rfl, by decide, by decide⟩
        · exact ⟨248, atI_nat rfl, by decide, by decide⟩
        · exact ⟨15376, atI_nat rfl, by decide, by decide⟩
        · exact ⟨953312, atI_nat rfl, by decide, by decide⟩
      refine ⟨.int i, rfl, by show 4 ≤ sizeLine; decide, fun p np => ⟨.int (0 + (j : Int)), rfl, p, _, _, .int d, rfl, rfl, sqL upd_same, by rw [Int.zero_add]; exact hd, i, d, rfl, rfl, cd i hd0 hd1, ?_⟩⟩
      refine ⟨i / d, rfl, fun c hc => ⟨tx s, ch c, rfl, rfl, szl (by rw [tx_len]; show s.length + 1 ≤ _; omega), ?_⟩⟩
      refine ⟨s ++ [c], _, by rw [show tx (s ++ [c]) = tx s ++ ch c from (SX.S_cat s [c]).symm]; rfl, sH.trans (same_new np), by rw [List.length_append, hsl]; rfl, fun e he => ?_⟩
      rcases List.mem_append.mp he with h | h
      · exact hs e h
      · rw [List.mem_singleton.mp h]
        exact hc
    · rintro σ' H' ⟨s, y2, rfl, sH, hsl, hs⟩
      exact ⟨.str (tx s), rfl, q s H' sH (fun e => by rw [e] at hsl; have : (0 : Nat) = _ := hsl; omega) (by omega) hs⟩
end
end Sb
set_option Elab.async false
set_option linter.all false
set_option maxRecDepth 100000
set_option maxHeartbeats 4000000
set_option pp.maxSteps 300
/-! The law's own kinds of texts. -/
namespace Sb
open PySem PySem.Spec PyProof.Rows L2
inductive Kd where
  | signs (s : List Nat)
  | turn (i : Nat)
  | join (i j : Nat)
  | insert (i j p : Nat)
def kdV : Kd → List V
  | .signs s => [.str "signs", .str (tx s)]
  | .turn i => [.str "turn", .int (i : Int)]
  | .join i j => [.str "join", .int (i : Int), .int (j : Int)]
  | .insert i j p => [.str "insert", .int (i : Int), .int (j : Int), .int (p : Int)]
/-- the kind, behind the texts xs, is of the text x -/
def KFits (xs : List (List Nat)) (x : List Nat) : Kd → Prop
  | .signs s => x = s ∧ s ≠ [] ∧ s.length ≤ 4 ∧ ∀ c ∈ s, OkC c
  | .turn i => ∃ u, xs[i]? = some u ∧ x = u.reverse
  | .join i j => ∃ u v, xs[i]? = some u ∧ xs[j]? = some v ∧ x = u ++ v
  | .insert i j p => ∃ u v, xs[i]? = some u ∧ xs[j]? = some v ∧ ((p = 0 ∧ x = v ++ u) ∨ (p = u.length ∧ x = u ++ v))
inductive KT : List Kd → List (List Nat) → Prop
  | nil : KT [] []
  | snoc {ks : List Kd} {xs : List (List Nat)} {k : Kd} {x : List Nat} : KT ks xs → KFits xs x k → KT (ks ++ [k]) (xs ++ [x])
theorem KT.len {ks : List Kd} {xs : List (List Nat)} (h : KT ks xs) : ks.length = xs.length := by
  induction h with
  | nil => rfl
  | snoc _ _ ih => rw [List.length_append, List.length_append, ih, List.length_singleton, List.length_singleton]
theorem KT.get {ks : List Kd} {xs : List (List Nat)} (h : KT ks xs) {i : Nat} {k : Kd} (e : ks[i]? = some k) : ∃ x, xs[i]? = some x ∧ KFits (xs.take i) x k := by
  induction h with
  | nil => cases e
  | snoc h f ih =>
    rename_i ks xs k' x'
    by_cases hi : i < ks.length
    · rw [List.getElem?_append_left hi] at e
      obtain ⟨x, h1, h2⟩ := ih e
      refine ⟨x, get_app h1, ?_⟩
      rw [List.take_append_of_le_length (by have := h.len; omega)]
      exact h2
    · have hlt := get_lt e
      rw [List.length_append, List.length_singleton] at hlt
      have hie : i = ks.length := by omega
      subst hie
      rw [get_snoc] at e
      cases e
      refine ⟨x', by rw [h.len]; exact get_snoc, ?_⟩
      rw [h.len, List.take_left]
      exact f
theorem KT.at {ks : List Kd} {xs : List (List Nat)} (h : KT ks xs) {i : Nat} {x : List Nat} (e : xs[i]? = some x) : ∃ k, ks[i]? = some k ∧ KFits (xs.take i) x k := by
  obtain ⟨k, hk⟩ := get_at (l := ks) (i := i) (by rw [h.len]; exact get_lt e)
  obtain ⟨y, h1, h2⟩ := h.get hk
  rw [e] at h1
  cases h1
  exact ⟨k, hk, h2⟩
theorem take_get {α : Type} {l : List α} {n i : Nat} {a : α} (h : (l.take n)[i]? = some a) : i < n ∧ l[i]? = some a := by
  have h1 := get_lt h
  rw [List.length_take] at h1
  rw [List.getElem?_take, if_pos (by omega)] at h
  exact ⟨by omega, h⟩
theorem KFits.up {xs : List (List Nat)} {n : Nat} {x : List Nat} {k : Kd} (h : KFits (xs.take n) x k) : KFits xs x k := by
  cases k with
  | signs s => exact h
  | turn i =>
    obtain ⟨u, h1, h2⟩ := h
    exact ⟨u, (take_get h1).2, h2⟩
  | join i j =>
    obtain ⟨u, v, h1, h2, h3⟩ := h
    exact ⟨u, v, (take_get h1).2, (take_get h2).2, h3⟩
  | insert i j p =>
    obtain ⟨u, v, h1, h2, h3⟩ := h
    exact ⟨u, v, (take_get h1).2, (take_get h2).2, h3⟩
theorem KT.pos {ks : List Kd} {xs : List (List Nat)} (h : KT ks xs) : ∀ x ∈ xs, 0 < x.length := by
  induction h with
  | nil => exact fun x h => absurd h List.not_mem_nil
  | snoc h f ih =>
    rename_i ks xs k x
    intro y hy
    rcases List.mem_append.mp hy with h | h
    · exact ih y h
    · rw [List.mem_singleton.mp h]
      cases k with
      | signs s =>
        obtain ⟨rfl, h1, _⟩ := f
        exact List.length_pos_iff.mpr h1
      | turn i =>
        obtain ⟨u, h1, rfl⟩ := f
        rw [List.length_reverse]
        exact ih u (List.mem_of_getElem? h1)
      | join i j =>
        obtain ⟨u, v, h1, h2, rfl⟩ := f
        rw [List.length_append]
        have := ih u (List.mem_of_getElem? h1)
        omega
      | insert i j p =>
        obtain ⟨u, v, h1, h2, h3⟩ := f
        have := ih u (List.mem_of_getElem? h1)
        rcases h3 with ⟨_, rfl⟩ | ⟨_, rfl⟩ <;> (rw [List.length_append]; omega)
theorem KT.short {ks : List Kd} {xs : List (List Nat)} (h : KT ks xs) : ∀ x ∈ xs, x.length ≤ 2 ^ (xs.length + 1) := by
  induction h with
  | nil => exact fun x h => absurd h List.not_mem_nil
  | snoc h f ih =>
    rename_i ks xs k x
    have e : 2 ^ ((xs ++ [x]).length + 1) = 2 * 2 ^ (xs.length + 1) := by
      rw [List.length_append, List.length_singleton, Nat.pow_succ]
      omega
    intro y hy
    rw [e]
    rcases List.mem_append.mp hy with h | h
    · have := ih y h
      omega
    · rw [List.mem_singleton.mp h]
      cases k with
      | signs s =>
        obtain ⟨rfl, _, h4, _⟩ := f
        have p2 : 2 ^ 1 ≤ 2 ^ (xs.length + 1) := Nat.pow_le_pow_right (by decide) (by omega)
        omega
      | turn i =>
        obtain ⟨u, h1, rfl⟩ := f
        rw [List.length_reverse]
        have := ih u (List.mem_of_getElem? h1)
        omega
      | join i j =>
        obtain ⟨u, v, h1, h2, rfl⟩ := f
        rw [List.length_append]
        have := ih u (List.mem_of_getElem? h1)
        have := ih v (List.mem_of_getElem? h2)
        omega
      | insert i j p =>
        obtain ⟨u, v, h1, h2, h3⟩ := f
        have := ih u (List.mem_of_getElem? h1)
        have := ih v (List.mem_of_getElem? h2)
        rcases h3 with ⟨_, rfl⟩ | ⟨_, rfl⟩ <;> (rw [List.length_append]; omega)
theorem KT.okc {ks : List Kd} {xs : List (List Nat)} (h : KT ks xs) : ∀ x ∈ xs, ∀ c ∈ x, OkC c := by
  induction h with
  | nil => exact fun x h => absurd h List.not_mem_nil
  | snoc h f ih =>
    rename_i ks xs k x
    intro y hy c hc
    rcases List.mem_append.mp hy with h | h
    · exact ih y h c hc
    · rw [List.mem_singleton.mp h] at hc
      cases k with
      | signs s =>
        obtain ⟨rfl, _, _, h4⟩ := f
        exact h4 c hc
      | turn i =>
        obtain ⟨u, h1, rfl⟩ := f
        exact ih u (List.mem_of_getElem? h1) c (List.mem_reverse.mp hc)
      | join i j =>
        obtain ⟨u, v, h1, h2, rfl⟩ := f
        rcases List.mem_append.mp hc with h | h
        · exact ih u (List.mem_of_getElem? h1) c h
        · exact ih v (List.mem_of_getElem? h2) c h
      | insert i j p =>
        obtain ⟨u, v, h1, h2, h3⟩ := f
        have hc' : c ∈ u ∨ c ∈ v := by
          rcases h3 with ⟨_, rfl⟩ | ⟨_, rfl⟩ <;> rcases List.mem_append.mp hc with h | h <;> simp [h]
        rcases hc' with h | h
        · exact ih u (List.mem_of_getElem? h1) c h
        · exact ih v (List.mem_of_getElem? h2) c h
/-! ### kinds in the heap -/
def KdA (H : Hp) (v : V) (k : Kd) : Prop := ∃ a, v = .ref a ∧ H a = some (.tup (kdV k))
theorem KdA.tups {H H' : Hp} {v : V} {k : Kd} (s : SameT H H') (h : KdA H v k) : KdA H' v k := let ⟨a, e, q⟩ := h; ⟨a, e, s _ _ q⟩
theorem KdA.mono {H H' : Hp} {v : V} {k : Kd} (s : Same H H') (h : KdA H v k) : KdA H' v k := let ⟨a, e, q⟩ := h; ⟨a, e, s _ _ q⟩
/-- the lengths of texts -/
def lenN (xs : List (List Nat)) : List Nat := xs.map List.length
theorem lenN_get {xs : List (List Nat)} {i : Nat} {x : List Nat} (h : xs[i]? = some x) : (lenN xs)[i]? = some x.length := by
  unfold lenN
  rw [List.getElem?_map, h]
  rfl
theorem cnt_count (c : Nat) : ∀ s : List Nat, cnt c s = (s.count c : Int)
  | [] => rfl
  | d :: s => by
    rw [cnt_cons, cnt_count c s, List.count_cons]
    by_cases h : d = c
    · subst h
      rw [if_pos rfl, beq_self_eq_true, if_pos rfl]
      omega
    · rw [if_neg h, if_neg (by simpa using h)]
      omega
theorem txt_count (s : List Nat) (c : Nat) : Txt.count (tx s) (ch c) = (s.count c : Int) := by
  show Txt.count (tx s) ⟨#[c]⟩ = _
  rw [count_cnt, show (tx s).cps.toList = s from rfl, cnt_count]
section
variable {P : Program} {w : World} {K : PySem.W.Frag} {mg : Str → Option Value} {base : Heap}
/-- where the kind joins, or puts one into the other -/
def sp_Lback : Sp := fun vs H Q _ => ∃ (a l : Addr) (k : Kd) (xs : List (List Nat)) (x : List Nat) (m c : Nat), vs = [.ref a, .ref l, .int (m : Int)] ∧ H a = some (.tup (kdV k)) ∧ H l = some (.lst (nV (lenN xs))) ∧ KFits xs x k ∧ x[m]? = some c ∧ (∀ s, k ≠ .signs s) ∧ (∀ i, k ≠ .turn i) ∧
  ∀ (b : Addr) (H' : Hp) (i n : Nat) (y : List Nat), Same H H' → H' b = some (.tup [.int (i : Int), .int (n : Int)]) → xs[i]? = some y → y[n]? = some c → (∀ t, KFits (xs.take t) x k → i < t) → Q (.ref b) H'
theorem ok_Lback (T : Hd K mg) : Own P w K mg base "_law_back" ["_law_kind", "_law_sizes", "_law_place_here"] 1 sp_Lback := by
  refine own_mk T.d_Lback sc_Lback (fun vs H Q E h => ?_) (fun _ _ _ _ _ _ us hl => match us, hl with | [_, _, _], _ => rfl) (fun fa cdv A outer s H vs Q E hr h => ⟨_, (pss_cons (ps_set (i := 3) sc_Lback.nd rfl (Or.inl rfl) (pe_ix ix_list (pv 1) (pe_ix ix_tup (pv 0) pe_int (fun _ _ => rfl)) (fun _ _ => rfl)))
      (pss_cons (ps_if (pt_cmpR op_eq (pe_ix ix_tup (pv 0) pe_int (fun _ _ => rfl)) pe_str (nomark _)) (pss_one (ps_set (i := 3) sc_Lback.nd rfl (Or.inl rfl) (pe_ix ix_tup (pv 0) pe_int (fun _ _ => rfl)))) pss_nil)
      (pss_cons (ps_if (pt_cmpR op_lt (pv 2) (pv 3) (nomark _)) (pss_one (ps_ret (pe_tup (pa_cons (pe_ix ix_tup (pv 0) pe_int (fun _ _ => rfl)) (pa_cons (pv 2) pa_nil))))) pss_nil)
      (pss_cons (ps_if (pt_cmpR op_lt (pv 2) (pe_op op_add (pv 3) (pe_ix ix_list (pv 1) (pe_ix ix_tup (pv 0) pe_int (fun _ _ => rfl)) (fun _ _ => rfl))) (nomark _)) (pss_one (ps_ret (pe_tup (pa_cons (pe_ix ix_tup (pv 0) pe_int (fun _ _ => rfl)) (pa_cons (pe_op op_sub (pv 2) (pv 3)) pa_nil))))) pss_nil)
      (pss_one (ps_ret (pe_tup (pa_cons (pe_ix ix_tup (pv 0) pe_int (fun _ _ => rfl)) (pa_cons (pe_op op_sub (pv 2) (pe_ix ix_list (pv 1) (pe_ix ix_tup (pv 0) pe_int (fun _ _ => rfl)) (fun _ _ => rfl))) pa_nil))))))))), ?_⟩)
  · obtain ⟨a, l, k, xs, x, m, c, rfl, _⟩ := h
    rfl
  · obtain ⟨a, l, k, xs, x, m, c, rfl, ha, hl, hf, hc, n1, n2, q⟩ := h
    cases k with
    | signs s => exact absurd rfl (n1 s)
    | turn i => exact absurd rfl (n2 i)
    | join i j =>
      obtain ⟨u, v, hu, hv, rfl⟩ := hf
      have x1 : ∀ (σ : L2.St), σ[0]? = some (some (.ref a)) → Val (tOp (rIxT K) (tVar 0) (tC (.int 1))) σ H (.int (i : Int)) := fun σ h => v_ixT (vx 0 h) vc (sqT ha) (atI_nat (j := 1) rfl)
      have x2 : ∀ (σ : L2.St), σ[0]? = some (some (.ref a)) → Val (tOp (rIxT K) (tVar 0) (tC (.int 2))) σ H (.int (j : Int)) := fun σ h => v_ixT (vx 0 h) vc (sqT ha) (atI_nat (j := 2) rfl)
      have x0 : ∀ (σ : L2.St), σ[0]? = some (some (.ref a)) → Val (tOp (rIxT K) (tVar 0) (tC (.int 0))) σ H (.str "join") := fun σ h => v_ixT (vx 0 h) vc (sqT ha) (atI_nat (j := 0) rfl)
      refine v_ixL (vx 1) (x1 _ rfl) (sqL hl) (at_nV (lenN_get hu)) _ ?_
      refine s_no (a_eq (x0 _ rfl) vc rfl (by decide +kernel)) ?_
      refine ⟨.int (m : Int), rfl, .int (u.length : Int), rfl, _, _, rfl, rfl, _, rfl, ?_⟩
      by_cases h1 : m < u.length
      · rw [intd (show (m : Int) < (u.length : Int) by omega)]
        refine iteT (x1 _ rfl _ ⟨.int (m : Int), rfl, by show 2 ≤ sizeLine; decide, fun b nb => ?_⟩)
        refine q b _ i m u (same_new nb) upd_same hu (by rw [List.getElem?_append_left h1] at hc; exact hc) fun t ⟨u2, v2, k1, k2, _⟩ => (take_get k1).1
      · rw [intn (show ¬ (m : Int) < (u.length : Int) by omega)]
        have hm : m < u.length + v.length := by
          have := get_lt hc
          rw [List.length_append] at this
          exact this
        refine iteF ⟨.int (m : Int), rfl, .int (u.length : Int), rfl, ?_⟩
        refine v_ixL (vx 1) (x2 _ rfl) (sqL hl) (at_nV (lenN_get hv)) _ ?_
        refine ⟨_, _, rfl, rfl, _, _, rfl, rfl, _, rfl, ?_⟩
        rw [intd (show (m : Int) < (u.length : Int) + (v.length : Int) by omega)]
        refine iteT (x2 _ rfl _ ?_)
        refine v_sub (vx 2) (vx 3) _ ⟨by show 2 ≤ sizeLine; decide, fun b nb => ?_⟩
        refine q b _ j (m - u.length) v (same_new nb) ?_ hv (by rw [List.getElem?_append_right (by omega)] at hc; exact hc) fun t ⟨u2, v2, k1, k2, _⟩ => (take_get k2).1
        rw [upd_same, show (((m - u.length : Nat) : Nat) : Int) = (m : Int) - (u.length : Int) by omega]
    | insert i j p =>
      obtain ⟨u, v, hu, hv, hp⟩ := hf
      have x1 : ∀ (σ : L2.St), σ[0]? = some (some (.ref a)) → Val (tOp (rIxT K) (tVar 0) (tC (.int 1))) σ H (.int (i : Int)) := fun σ h => v_ixT (vx 0 h) vc (sqT ha) (atI_nat (j := 1) rfl)
      have x2 : ∀ (σ : L2.St), σ[0]? = some (some (.ref a)) → Val (tOp (rIxT K) (tVar 0) (tC (.int 2))) σ H (.int (j : Int)) := fun σ h => v_ixT (vx 0 h) vc (sqT ha) (atI_nat (j := 2) rfl)
      have x3 : ∀ (σ : L2.St), σ[0]? = some (some (.ref a)) → Val (tOp (rIxT K) (tVar 0) (tC (.int 3))) σ H (.int (p : Int)) := fun σ h => v_ixT (vx 0 h) vc (sqT ha) (atI_nat (j := 3) rfl)
      have x0 : ∀ (σ : L2.St), σ[0]? = some (some (.ref a)) → Val (tOp (rIxT K) (tVar 0) (tC (.int 0))) σ H (.str "insert") := fun σ h => v_ixT (vx 0 h) vc (sqT ha) (atI_nat (j := 0) rfl)
      have f1 : ∀ t, KFits (xs.take t) x (.insert i j p) → i < t ∧ j < t := fun t ⟨u2, v2, k1, k2, _⟩ => ⟨(take_get k1).1, (take_get k2).1⟩
      refine v_ixL (vx 1) (x1 _ rfl) (sqL hl) (at_nV (lenN_get hu)) _ ?_
      refine s_yes (a_eq (x0 _ rfl) vc rfl (by decide +kernel)) ?_
      refine x3 _ rfl _ ?_
      refine ⟨.int (m : Int), rfl, .int (p : Int), rfl, _, _, rfl, rfl, _, rfl, ?_⟩
      by_cases h1 : m < p
      · rw [intd (show (m : Int) < (p : Int) by omega)]
        refine iteT (x1 _ rfl _ ⟨.int (m : Int), rfl, by show 2 ≤ sizeLine; decide, fun b nb => ?_⟩)
        refine q b _ i m u (same_new nb) upd_same hu ?_ fun t z => (f1 t z).1
        rcases hp with ⟨rfl, _⟩ | ⟨rfl, rfl⟩
        · omega
        · rw [List.getElem?_append_left h1] at hc
          exact hc
      · rw [intn (show ¬ (m : Int) < (p : Int) by omega)]
        refine iteF ⟨.int (m : Int), rfl, .int (p : Int), rfl, ?_⟩
        refine v_ixL (vx 1) (x2 _ rfl) (sqL hl) (at_nV (lenN_get hv)) _ ?_
        refine ⟨_, _, rfl, rfl, _, _, rfl, rfl, _, rfl, ?_⟩
        by_cases h2 : m < p + v.length
        · rw [intd (show (m : Int) < (p : Int) + (v.length : Int) by omega)]
          refine iteT (x2 _ rfl _ ?_)
          refine v_sub (vx 2) (vx 3) _ ⟨by show 2 ≤ sizeLine; decide, fun b nb => ?_⟩
          refine q b _ j (m - p) v (same_new nb) ?_ hv ?_ fun t z => (f1 t z).2
          · rw [upd_same, show (((m - p : Nat) : Nat) : Int) = (m : Int) - (p : Int) by omega]
          · rcases hp with ⟨rfl, rfl⟩ | ⟨rfl, rfl⟩
            · rw [List.getElem?_append_left (by omega)] at hc
              exact hc
            · rw [List.getElem?_append_right (by omega)] at hc
              exact hc
        · rw [intn (show ¬ (m : Int) < (p : Int) + (v.length : Int) by omega)]
          refine iteF (x1 _ rfl _ ?_)
          refine v_sub (vx 2) (v_ixL (vx 1) (x2 _ rfl) (sqL hl) (at_nV (lenN_get hv))) _ ⟨by show 2 ≤ sizeLine; decide, fun b nb => ?_⟩
          refine q b _ i (m - v.length) u (same_new nb) ?_ hu ?_ fun t z => (f1 t z).1
          · rw [upd_same, show (((m - v.length : Nat) : Nat) : Int) = (m : Int) - (v.length : Int) by omega]
          · rcases hp with ⟨rfl, rfl⟩ | ⟨rfl, rfl⟩
            · rw [List.getElem?_append_right (by omega)] at hc
              exact hc
            · have := get_lt hc
              rw [List.length_append] at this
              omega
end
end Sb
set_option Elab.async false
set_option linter.all false
set_option maxRecDepth 100000
set_option maxHeartbeats 4000000
set_option pp.maxSteps 300
/-! The law's signs and counts, by the kinds. -/
namespace Sb
open PySem PySem.Spec PyProof.Rows L2
section
variable {P : Program} {w : World} {K : PySem.W.Frag} {mg : Str → Option Value} {base : Heap}
def sp_Lsign_of : Sp := fun vs H Q _ => ∃ (lk l : Addr) (us : List V) (ks : List Kd) (xs : List (List Nat)) (n m c : Nat) (x : List Nat), vs = [.ref lk, .ref l, .int (n : Int), .int (m : Int)] ∧ H lk = some (.lst us) ∧ Paired (KdA H) us ks ∧ KT ks xs ∧ H l = some (.lst (nV (lenN xs))) ∧ xs[n]? = some x ∧ x[m]? = some c ∧
  ∀ H', Same H H' → Q (.str (ch c)) H'
theorem ok_Lsign_of (T : Hd K mg) : Own P w K mg base "_law_sign_of" ["_law_kinds", "_law_sizes", "_law_at", "_law_place_here"] 2 sp_Lsign_of := by
  refine own_mk T.d_Lsign_of sc_Lsign_of (fun vs H Q E h => ?_) (fun _ _ _ _ _ _ us hl => match us, hl with | [_, _, _, _], _ => rfl) (fun fa cdv A outer s H vs Q E hr h => ⟨_, (pss_cons (ps_while PassesOwn.never (pt_cmpR op_ne (pe_ix ix_tup (pe_ix ix_list (pv 0) (pv 2) (fun _ _ => rfl)) pe_int (fun _ _ => rfl)) pe_str (nomark _)) (pss_cons (ps_set (i := 4) sc_Lsign_of.nd rfl (Or.inl rfl) (pe_ix ix_list (pv 0) (pv 2) (fun _ _ => rfl)))
      (pss_one (ps_if (pt_cmpR op_eq (pe_ix ix_tup (pv 4) pe_int (fun _ _ => rfl)) pe_str (nomark _)) (pss_cons (ps_set (i := 3) sc_Lsign_of.nd rfl (Or.inl rfl) (pe_op op_sub (pe_op op_sub (pe_ix ix_list (pv 1) (pv 2) (fun _ _ => rfl)) pe_int) (pv 3)))
      (pss_one (ps_set (i := 2) sc_Lsign_of.nd rfl (Or.inl rfl) (pe_ix ix_tup (pv 4) pe_int (fun _ _ => rfl))))) (pss_one (ps_asg (pe_own (ok_Lback T) (hr.mono (by decide)) (by rfl) (pa_cons (pv 4) (pa_cons (pv 1) (pa_cons (pv 3) pa_nil)))) (pg_tup rfl (pgs_cons (pg_name (i := 2) sc_Lsign_of.nd rfl (Or.inl rfl)) (pgs_cons (pg_name (i := 3) sc_Lsign_of.nd rfl (Or.inl rfl)) pgs_nil)))))))))
      (pss_one (ps_ret (pe_ix ix_str (pe_ix ix_tup (pe_ix ix_list (pv 0) (pv 2) (fun _ _ => rfl)) pe_int (fun _ _ => rfl)) (pv 3) (fun _ _ => rfl))))), ?_⟩)
  · obtain ⟨lk, l, us, ks, xs, n, m, c, x, rfl, _⟩ := h
    rfl
  · obtain ⟨lk, l, us, ks, xs, n, m, c, x, rfl, hk, hP, hT, hl, hn, hm, q⟩ := h
    refine ⟨fun z σ H' => Same H H' ∧ ∃ (m' k : Nat) (x' : List Nat) (y4 : Option V), σ = [some (.ref lk), some (.ref l), some (.int (k : Int)), some (.int (m' : Int)), y4] ∧ z = k ∧ xs[k]? = some x' ∧ x'[m']? = some c, ⟨n, Same.refl H, m, n, x, none, rfl, rfl, hn, hm⟩, ?_⟩
    rintro z σ H' ⟨sH, m', k, x', y4, rfl, rfl, hx', hc'⟩
    obtain ⟨kd, hkd, hf⟩ := hT.at hx'
    obtain ⟨v, hv, a, rfl, ha⟩ := P_get hP hkd
    have hkH := sH _ _ hk
    have hlH := sH _ _ hl
    have haH := sH _ _ ha
    have xk : ∀ (σ : L2.St), σ[0]? = some (some (.ref lk)) → σ[2]? = some (some (.int (z : Int))) → Val (tOp (rIxL K) (tVar 0) (tVar 2)) σ H' (.ref a) := fun σ h1 h2 => v_ixL (vx 0 h1) (vx 2 h2) (sqL hkH) (atI_nat hv)
    cases kd with
    | signs s =>
      obtain ⟨rfl, _, h4, _⟩ := hf
      refine a_ne (b := false) (v_ixT (xk _ rfl rfl) vc (sqT haH) (atI_nat (j := 0) rfl)) vc rfl (by decide) _ ?_
      refine iteF ?_
      refine v_op (v_ixT (xk _ rfl rfl) vc (sqT haH) (atI_nat (j := 1) rfl)) (vx 3) (fun _ q => ⟨tx x', (m' : Int), c, rfl, rfl, ?_, atI_nat hc', q⟩) _ (q _ sH)
      rw [tx_len]
      exact szl (by omega)
    | turn i =>
      obtain ⟨u, hu, rfl⟩ := hf
      obtain ⟨hlt, hu⟩ := take_get hu
      refine a_ne (b := true) (v_ixT (xk _ rfl rfl) vc (sqT haH) (atI_nat (j := 0) rfl)) vc rfl (by decide) _ ?_
      refine iteT ⟨fun σ' H'' => ∃ z', z' < z ∧ (Same H H'' ∧ ∃ (m' k : Nat) (x' : List Nat) (y4 : Option V), σ' = [some (.ref lk), some (.ref l), some (.int (k : Int)), some (.int (m' : Int)), y4] ∧ z' = k ∧ xs[k]? = some x' ∧ x'[m']? = some c), fun _ _ z => z, ?_⟩
      refine xk _ rfl rfl _ ?_
      refine s_yes (a_eq (v_ixT (vx 4) vc (sqT haH) (atI_nat (j := 0) rfl)) vc rfl (by decide +kernel)) ?_
      refine v_sub (v_sub (v_ixL (vx 1) (vx 2) (sqL hlH) (at_nV (lenN_get hx'))) vc) (vx 3) _ ?_
      refine v_ixT (vx 4) vc (sqT haH) (atI_nat (j := 1) rfl) _ ?_
      have hml := get_lt hc'
      rw [List.length_reverse] at hml
      refine ⟨i, hlt, sH, u.length - 1 - m', i, u, some (.ref a), ?_, rfl, hu, ?_⟩
      · show [some (V.ref lk), some (V.ref l), some (V.int (i : Int)), some (V.int ((u.reverse.length : Int) - 1 - (m' : Int))), some (V.ref a)] = [some (V.ref lk), some (V.ref l), some (V.int (i : Int)), some (V.int ((u.length - 1 - m' : Nat) : Int)), some (V.ref a)]
        rw [List.length_reverse, show ((u.length - 1 - m' : Nat) : Int) = (u.length : Int) - 1 - (m' : Int) by omega]
      · rw [List.getElem?_reverse hml] at hc'
        exact hc'
    | join i j =>
      refine a_ne (b := true) (v_ixT (xk _ rfl rfl) vc (sqT haH) (atI_nat (j := 0) rfl)) vc rfl (by decide) _ ?_
      refine iteT ⟨fun σ' H'' => ∃ z', z' < z ∧ (Same H H'' ∧ ∃ (m' k : Nat) (x' : List Nat) (y4 : Option V), σ' = [some (.ref lk), some (.ref l), some (.int (k : Int)), some (.int (m' : Int)), y4] ∧ z' = k ∧ xs[k]? = some x' ∧ x'[m']? = some c), fun _ _ z => z, ?_⟩
      refine xk _ rfl rfl _ ?_
      refine s_no (a_eq (v_ixT (vx 4) vc (sqT haH) (atI_nat (j := 0) rfl)) vc rfl (by decide +kernel)) ?_
      refine ⟨.ref a, rfl, .ref l, rfl, .int (m' : Int), rfl, a, l, _, xs, x', m', c, rfl, haH, hlH, hf.up, hc', (fun s e => by cases e), (fun i e => by cases e), fun b H2 i2 n2 y s2 hb hy hyc hlt => ?_⟩
      exact ⟨b, _, rfl, sqT hb, rfl, _, _, rfl, _, _, rfl, rfl, i2, hlt _ hf, sH.trans s2, n2, i2, y, _, rfl, rfl, hy, hyc⟩
    | insert i j p =>
      refine a_ne (b := true) (v_ixT (xk _ rfl rfl) vc (sqT haH) (atI_nat (j := 0) rfl)) vc rfl (by decide) _ ?_
      refine iteT ⟨fun σ' H'' => ∃ z', z' < z ∧ (Same H H'' ∧ ∃ (m' k : Nat) (x' : List Nat) (y4 : Option V), σ' = [some (.ref lk), some (.ref l), some (.int (k : Int)), some (.int (m' : Int)), y4] ∧ z' = k ∧ xs[k]? = some x' ∧ x'[m']? = some c), fun _ _ z => z, ?_⟩
      refine xk _ rfl rfl _ ?_
      refine s_no (a_eq (v_ixT (vx 4) vc (sqT haH) (atI_nat (j := 0) rfl)) vc rfl (by decide +kernel)) ?_
      refine ⟨.ref a, rfl, .ref l, rfl, .int (m' : Int), rfl, a, l, _, xs, x', m', c, rfl, haH, hlH, hf.up, hc', (fun s e => by cases e), (fun i e => by cases e), fun b H2 i2 n2 y s2 hb hy hyc hlt => ?_⟩
      exact ⟨b, _, rfl, sqT hb, rfl, _, _, rfl, _, _, rfl, rfl, i2, hlt _ hf, sH.trans s2, n2, i2, y, _, rfl, rfl, hy, hyc⟩
def cntN (c : Nat) (xs : List (List Nat)) : List Nat := xs.map (List.count c)
theorem cntN_get {c : Nat} {xs : List (List Nat)} {i : Nat} {x : List Nat} (h : xs[i]? = some x) : (cntN c xs)[i]? = some (x.count c) := by
  unfold cntN
  rw [List.getElem?_map, h]
  rfl
def sp_Lcounts : Sp := fun vs H Q _ => ∃ (lk : Addr) (us : List V) (ks : List Kd) (xs : List (List Nat)) (c : Nat), vs = [.ref lk, .str (ch c)] ∧ H lk = some (.lst us) ∧ Paired (KdA H) us ks ∧ KT ks xs ∧ ks.length ≤ 1000 ∧
  ∀ (l : Addr) (H' : Hp), Same H H' → H' l = some (.lst (nV (cntN c xs))) → Q (.ref l) H'
theorem ok_Lcounts (T : Hd K mg) : Own P w K mg base "_law_counts" ["_law_kinds", "_law_sign"] 1 sp_Lcounts := by
  refine own_mk T.d_Lcounts sc_Lcounts (fun vs H Q E h => ?_) (fun _ _ _ _ _ _ us hl => match us, hl with | [_, _], _ => rfl) (fun fa cdv A outer s H vs Q E hr h => ⟨_, (pss_cons (ps_set (i := 2) sc_Lcounts.nd rfl (Or.inl rfl) (pe_lst pa_nil))
      (pss_cons (ps_for PassesOwn.never rfl (pi_list (pv 0)) (pg_name (i := 3) sc_Lcounts.nd rfl (Or.inl rfl)) (pss_one (ps_if (pt_cmpR op_eq (pe_ix ix_tup (pv 3) pe_int (fun _ _ => rfl)) pe_str (nomark _)) (pss_one (ps_expr (pe_bm PySem.F.plainAttrs_list PySem.F.slot_list_append PySem.F.type_list_append mt_append (pv 2) (pa_cons (pe_m1 PySem.F.slot_str_count PySem.F.type_str_count mt_count (pe_ix ix_tup (pv 3) pe_int (fun _ _ => rfl)) (pv 1)) pa_nil)))) (pss_one (ps_if (pt_cmpR op_eq (pe_ix ix_tup (pv 3) pe_int (fun _ _ => rfl)) pe_str (nomark _)) (pss_one (ps_expr (pe_bm PySem.F.plainAttrs_list PySem.F.slot_list_append PySem.F.type_list_append mt_append (pv 2) (pa_cons (pe_ix ix_list (pv 2) (pe_ix ix_tup (pv 3) pe_int (fun _ _ => rfl)) (fun _ _ => rfl)) pa_nil)))) (pss_one (ps_expr (pe_bm PySem.F.plainAttrs_list PySem.F.slot_list_append PySem.F.type_list_append mt_append (pv 2) (pa_cons (pe_op op_add (pe_ix ix_list (pv 2) (pe_ix ix_tup (pv 3) pe_int (fun _ _ => rfl)) (fun _ _ => rfl)) (pe_ix ix_list (pv 2) (pe_ix ix_tup (pv 3) pe_int (fun _ _ => rfl)) (fun _ _ => rfl))) pa_nil)))))))))
      (pss_one (ps_ret (pv 2))))), ?_⟩)
  · obtain ⟨lk, us, ks, xs, c, rfl, _⟩ := h
    rfl
  · obtain ⟨lk, us, ks, xs, c, rfl, hk, hP, hT, hz, q⟩ := h
    have hul : us.length = ks.length := Paired.length hP
    have hxl := hT.len
    refine ⟨by show 0 ≤ sizeLine; decide, fun l nl => ?_⟩
    have sl := same_new (o := HO.lst []) nl
    refine ⟨.ref lk, rfl, lk, rfl, ⟨us, sqL (sl _ _ hk)⟩, for_list (K := K) (a := lk) (xs := us) (fun i σ H' => ∃ y3, σ = [some (.ref lk), some (.str (ch c)), some (.ref l), y3] ∧ Same H H' ∧ H' l = some (.lst (nV (cntN c (xs.take i)))))
      ⟨none, rfl, sl, upd_same⟩ (fun i σ H' _ ⟨_, _, s, _⟩ => sqL (s _ _ hk)) ?_ ?_⟩
    · rintro i x σ H' hi ⟨y3, rfl, sH, hl⟩
      have hilt : i < us.length := get_lt hi
      obtain ⟨kd, hkd⟩ := get_at (l := ks) (i := i) (by omega)
      obtain ⟨v, hv, a, rfl, ha⟩ := P_get hP hkd
      rw [hi] at hv
      cases hv
      obtain ⟨x, hx, hf⟩ := hT.get hkd
      have haH := sH _ _ ha
      have hln : (nV (cntN c (xs.take i))).length = i := by
        rw [nV_len]
        unfold cntN
        rw [List.length_map, List.length_take]
        omega
      have done : ∀ z : Int, z = ((x.count c : Nat) : Int) → ∃ y3', ([some (V.ref lk), some (V.str (ch c)), some (V.ref l), some (V.ref a)] : L2.St) = [some (.ref lk), some (.str (ch c)), some (.ref l), y3'] ∧ Same H (upd H' l (.lst (nV (cntN c (xs.take i)) ++ [.int z]))) ∧ (upd H' l (.lst (nV (cntN c (xs.take i)) ++ [.int z]))) l = some (.lst (nV (cntN c (xs.take (i + 1))))) := fun z hz => by
        refine ⟨_, rfl, Same.mut sH nl, ?_⟩
        rw [upd_same, hz, take_snoc hx]
        unfold cntN
        rw [List.map_append, nV_app]
        rfl
      have at_ : ∀ {j : Nat} {u : List Nat}, (xs.take i)[j]? = some u → atI (nV (cntN c (xs.take i))) (j : Int) = some (.int ((u.count c : Nat) : Int)) := fun h => at_nV (cntN_get h)
      cases kd with
      | signs s =>
        obtain ⟨rfl, _⟩ := hf
        refine s_yes (a_eq (v_ixT (vx 3) vc (sqT haH) (atI_nat (j := 0) rfl)) vc rfl (by decide +kernel)) ?_
        refine ⟨.ref l, rfl, .inl ⟨rfl, _, sqL hl⟩, ?_⟩
        refine v_ixT (vx 3) vc (sqT haH) (atI_nat (j := 1) rfl) _ ?_
        refine ⟨⟨_, rfl⟩, .str (ch c), rfl, tx x, ch c, rfl, rfl, ?_⟩
        refine ⟨l, _, _, rfl, rfl, hl, szt (by omega), ?_⟩
        exact done _ (txt_count x c)
      | turn j =>
        obtain ⟨u, hu, rfl⟩ := hf
        refine s_no (a_eq (v_ixT (vx 3) vc (sqT haH) (atI_nat (j := 0) rfl)) vc rfl (by decide +kernel)) ?_
        refine s_yes (a_eq (v_ixT (vx 3) vc (sqT haH) (atI_nat (j := 0) rfl)) vc rfl (by decide +kernel)) ?_
        refine ⟨.ref l, rfl, .inl ⟨rfl, _, sqL hl⟩, ?_⟩
        refine v_ixL (vx 2) (v_ixT (vx 3) vc (sqT haH) (atI_nat (j := 1) rfl)) (sqL hl) (at_ hu) _ ?_
        refine ⟨l, _, _, rfl, rfl, hl, szt (by omega), ?_⟩
        exact done _ (by rw [List.count_reverse])
      | join j k =>
        obtain ⟨u, v, hu, hv, rfl⟩ := hf
        refine s_no (a_eq (v_ixT (vx 3) vc (sqT haH) (atI_nat (j := 0) rfl)) vc rfl (by decide +kernel)) ?_
        refine s_no (a_eq (v_ixT (vx 3) vc (sqT haH) (atI_nat (j := 0) rfl)) vc rfl (by decide +kernel)) ?_
        refine ⟨.ref l, rfl, .inl ⟨rfl, _, sqL hl⟩, ?_⟩
        refine v_add (v_ixL (vx 2) (v_ixT (vx 3) vc (sqT haH) (atI_nat (j := 1) rfl)) (sqL hl) (at_ hu)) (v_ixL (vx 2) (v_ixT (vx 3) vc (sqT haH) (atI_nat (j := 2) rfl)) (sqL hl) (at_ hv)) _ ?_
        refine ⟨l, _, _, rfl, rfl, hl, szt (by omega), ?_⟩
        exact done _ (by rw [List.count_append]; omega)
      | insert j k p =>
        obtain ⟨u, v, hu, hv, hp⟩ := hf
        refine s_no (a_eq (v_ixT (vx 3) vc (sqT haH) (atI_nat (j := 0) rfl)) vc rfl (by decide +kernel)) ?_
        refine s_no (a_eq (v_ixT (vx 3) vc (sqT haH) (atI_nat (j := 0) rfl)) vc rfl (by decide +kernel)) ?_
        refine ⟨.ref l, rfl, .inl ⟨rfl, _, sqL hl⟩, ?_⟩
        refine v_add (v_ixL (vx 2) (v_ixT (vx 3) vc (sqT haH) (atI_nat (j := 1) rfl)) (sqL hl) (at_ hu)) (v_ixL (vx 2) (v_ixT (vx 3) vc (sqT haH) (atI_nat (j := 2) rfl)) (sqL hl) (at_ hv)) _ ?_
        refine ⟨l, _, _, rfl, rfl, hl, szt (by omega), ?_⟩
        refine done _ ?_
        rcases hp with ⟨_, rfl⟩ | ⟨_, rfl⟩ <;> (rw [List.count_append]; omega)
    · rintro σ H' ⟨y3, rfl, sH, hl⟩
      rw [hul, hxl, List.take_length] at hl
      exact ⟨.ref l, rfl, q l H' sH hl⟩
end
end Sb
set_option Elab.async false
set_option linter.all false
set_option maxRecDepth 100000
set_option maxHeartbeats 4000000
set_option pp.maxSteps 300
/-! The law's own rows. -/
namespace Sb
open PySem PySem.Spec PyProof.Rows L2
section
variable {K : PySem.W.Frag} {σ : L2.St} {H : Hp} {ta tb : TE} {i j : Int} {b : Bool} {t u : TT}
theorem a_lt (ha : Val ta σ H (.int i)) (hb : Val tb σ H (.int j)) (hd : decide (i < j) = b) : Ans (tTest (tOp (rI0 fun i j => .bl (decide (i < j))) ta tb)) σ H b := fun Q q => v_i0 ha hb _ ⟨_, rfl, by rw [hd]; exact q⟩
theorem a_and (h1 : Ans t σ H true) (h2 : Ans u σ H b) : Ans (tAnd t u) σ H b := fun Q q => h1 _ (iteT (h2 _ q))
theorem a_andF (h1 : Ans t σ H false) : Ans (tAnd t u) σ H false := fun Q q => h1 _ (iteF q)
theorem a_orT (h1 : Ans t σ H true) : Ans (tOr t u) σ H true := fun Q q => h1 _ (iteT q)
theorem a_or (h1 : Ans t σ H false) (h2 : Ans u σ H b) : Ans (tOr t u) σ H b := fun Q q => h1 _ (iteF (h2 _ q))
theorem vcS {z : Str} {a : List Nat} (h : z = tx a) : Val (tC (.str z)) σ H (.str (tx a)) := by
  subst h
  exact vc
theorem v_tx {a c : List Nat} (ha : Val ta σ H (.str (tx a))) (hb : Val tb σ H (.str (tx c))) (hz : a.length + c.length ≤ 200000) : Val (tOp (fun x y H Q => ∃ i j, x = .str i ∧ y = .str j ∧ i.length + j.length ≤ sizeLine ∧ Q (.str (i ++ j)) H) ta tb) σ H (.str (tx (a ++ c))) :=
  v_op ha hb fun Q q => ⟨tx a, tx c, rfl, rfl, szl (by rw [tx_len, tx_len]; exact hz), by rw [show tx a ++ tx c = tx (a ++ c) from SX.S_cat a c]; exact q⟩
end
section
variable {σ : L2.St} {H : Hp} {D : Ends} {t1 : TE} {u : TA} {v1 : V}
theorem r_tup (h1 : Val t1 σ H v1) (h : u σ H fun us H1 => (v1 :: us).length ≤ sizeLine ∧ ∀ p, H1 p = none → D.rt (.ref p) (upd H1 p (.tup (v1 :: us)))) : tRet (tTup (tCons t1 u)) D σ H := h1 _ h
theorem ix_two {K : PySem.W.Frag} {ti : TE} {k : Int} {v : V} {R : VK} (h : Val t1 σ H v1) (hi : ∀ H, Val ti σ H (.int k)) (e : atI [V.int 0, v1] k = some v) (g : ∀ p, H p = none → R v (upd H p (.lst [.int 0, v1]))) : tOp (rIxL K) (tLst (tCons (tC (.int 0)) (tCons t1 tNil))) ti σ H R :=
  h _ ⟨by show 2 ≤ sizeLine; decide, fun p np => hi _ _ ⟨p, _, _, _, rfl, rfl, sqL upd_same, e, g p np⟩⟩
end
theorem wL_len (b : Bool) : (wL b).length = 1 := by cases b <;> rfl
theorem insert_text (w o : Bool) (p : Nat) : (((((wL w ++ [32, 105, 110, 115, 101, 114, 116, 32]) ++ wL w) ++ [32]) ++ numL p) ++ [32]) ++ wL o = (Rw.insert w p o).text := by
  show _ = wL w ++ ([32] ++ ([105, 110, 115, 101, 114, 116] ++ ([32] ++ (wL w ++ ([32] ++ (numL p ++ ([32] ++ wL o)))))))
  simp [List.append_assoc]
section
variable {P : Program} {w : World} {K : PySem.W.Frag} {mg : Str → Option Value} {base : Heap}
abbrev NmR : V → Nat → Prop := fun v n => v = .int (n : Int)
def sp_Lstep : Sp := fun vs H Q _ => ∃ (i : Int) (w o : Bool) (d l : Addr) (kvs : List (Key × V)) (names : Env Nat) (xs : List (List Nat)) (n1 n2 : Nat) (x1 x2 : List Nat), vs = [.int i, .str (tx (wL w)), .str (tx (wL o)), .ref d, .ref l] ∧ Dr i ∧ H d = some (.dK kvs) ∧ DE NmR kvs names ∧ H l = some (.lst (nV (lenN xs))) ∧
  getE names w = some n1 ∧ xs[n1]? = some x1 ∧ getE names o = some n2 ∧ xs[n2]? = some x2 ∧ x1.length ≤ 2 ^ 60 ∧ x2.length ≤ 2 ^ 60 ∧
  ∀ (a b : Addr) (H' : Hp) (r : Rw) (k : Kd) (x : List Nat), Same H H' → H' a = some (.tup [.str (tx r.text), .ref b, .int (x.length : Int)]) → H' b = some (.tup (kdV k)) → r.new = w → r.fine → KFits xs x k → (∀ E, getE E w = some x1 → getE E o = some x2 → r.txt E x) → Q (.ref a) H'
theorem ok_Lstep (T : Hd K mg) : Own P w K mg base "_law_step" ["_law_cell", "_law_word", "_law_other", "_law_names", "_law_sizes"] 1 sp_Lstep := by
  refine own_mk T.d_Lstep sc_Lstep (fun vs H Q E h => ?_) (fun _ _ _ _ _ _ us hl => match us, hl with | [_, _, _, _, _], _ => rfl) (fun fa cdv A outer s H vs Q E hr h => ⟨_, (pss_cons (ps_set (i := 5) sc_Lstep.nd rfl (Or.inl rfl) (pe_dget (hu_of hr) (pv 3) (pv 1) (fun _ _ => rfl)))
      (pss_cons (ps_set (i := 6) sc_Lstep.nd rfl (Or.inl rfl) (pe_dget (hu_of hr) (pv 3) (pv 2) (fun _ _ => rfl)))
      (pss_cons (ps_set (i := 7) sc_Lstep.nd rfl (Or.inl rfl) (pe_op op_add (pe_ix ix_list (pv 4) (pv 5) (fun _ _ => rfl)) (pe_ix ix_list (pv 4) (pv 6) (fun _ _ => rfl))))
      (pss_cons (ps_if (pt_cmpR op_eq (pe_op op_mod (pv 0) pe_int) pe_int (nomark _)) (pss_one (ps_ret (pe_tup (pa_cons (pe_op op_add_str (pe_op op_add_str (pv 1) pe_str) (pv 1)) (pa_cons (pe_tup (pa_cons pe_str (pa_cons (pv 5) pa_nil))) (pa_cons (pe_ix ix_list (pv 4) (pv 5) (fun _ _ => rfl)) pa_nil)))))) pss_nil)
      (pss_cons (ps_if (PW.pt (pw_and (pt_cmpR op_lt (pe_op op_mod (pv 0) pe_int) pe_int (nomark _)) (pw_and1 (pt_cmpR op_eq (pe_op op_mod (pe_op op_fdivW (pv 0) pe_int) pe_int) pe_int (nomark _))))) (pss_one (ps_ret (pe_tup (pa_cons (pe_op op_add_str (pe_op op_add_str (pe_op op_add_str (pe_op op_add_str (pv 1) pe_str) (pv 1)) pe_str) (pv 2)) (pa_cons (pe_tup (pa_cons pe_str (pa_cons (pv 5) (pa_cons (pv 6) pa_nil)))) (pa_cons (pv 7) pa_nil)))))) pss_nil)
      (pss_cons (ps_if (pt_cmpR op_lt (pe_op op_mod (pv 0) pe_int) pe_int (nomark _)) (pss_one (ps_ret (pe_tup (pa_cons (pe_op op_add_str (pe_op op_add_str (pe_op op_add_str (pe_op op_add_str (pv 1) pe_str) (pv 2)) pe_str) (pv 1)) (pa_cons (pe_tup (pa_cons pe_str (pa_cons (pv 6) (pa_cons (pv 5) pa_nil)))) (pa_cons (pv 7) pa_nil)))))) pss_nil)
      (pss_cons (ps_if (pt_cmpR op_lt (pe_op op_mod (pv 0) pe_int) pe_int (nomark _)) (pss_one (ps_ret (pe_tup (pa_cons (pe_op op_add_str (pe_op op_add_str (pe_op op_add_str (pv 1) pe_str) (pv 1)) pe_str) (pa_cons (pe_tup (pa_cons pe_str (pa_cons (pv 5) (pa_cons (pv 5) pa_nil)))) (pa_cons (pe_op op_mulW pe_int (pe_ix ix_list (pv 4) (pv 5) (fun _ _ => rfl))) pa_nil)))))) pss_nil)
      (pss_cons (ps_set (i := 8) sc_Lstep.nd rfl (Or.inl rfl) (pe_ix ix_list (pe_lst (pa_cons pe_int (pa_cons (pe_ix ix_list (pv 4) (pv 5) (fun _ _ => rfl)) pa_nil))) (pe_op op_mod (pe_op op_fdivW (pv 0) pe_int) pe_int) (fun _ _ => rfl)))
      (pss_one (ps_ret (pe_tup (pa_cons (pe_op op_add_str (pe_op op_add_str (pe_op op_add_str (pe_op op_add_str (pe_op op_add_str (pe_op op_add_str (pv 1) pe_str) (pv 1)) pe_str) (pe_callTy call_str_int (by rfl) T.z_str (by decide +kernel) (pa_cons (pv 8) pa_nil))) pe_str) (pv 2)) (pa_cons (pe_tup (pa_cons pe_str (pa_cons (pv 5) (pa_cons (pv 6) (pa_cons (pv 8) pa_nil))))) (pa_cons (pv 7) pa_nil)))))))))))))), ?_⟩)
  · obtain ⟨i, w, o, d, l, kvs, names, xs, n1, n2, x1, x2, rfl, _⟩ := h
    rfl
  · obtain ⟨i, w, o, d, l, kvs, names, xs, n1, n2, x1, x2, rfl, hi, hd, hE, hl, g1, h1, g2, h2, z1, z2, q⟩ := h
    obtain ⟨v1, hv1, rfl⟩ := hE.get g1
    obtain ⟨v2, hv2, rfl⟩ := hE.get g2
    have e60 : (2 : Nat) ^ 60 = 1152921504606846976 := by decide
    refine ⟨.ref d, rfl, .str (tx (wL w)), rfl, d, _, rfl, by rw [← wd_tx, ← hv1]; exact DGet.k (k := Sum.inr (wd w)) hd, ?_⟩
    refine ⟨.ref d, rfl, .str (tx (wL o)), rfl, d, _, rfl, by rw [← wd_tx, ← hv2]; exact DGet.k (k := Sum.inr (wd o)) hd, ?_⟩
    refine v_add (v_ixL (vx 4) (vx 5) (sqL hl) (at_nV (lenN_get h1))) (v_ixL (vx 4) (vx 6) (sqL hl) (at_nV (lenN_get h2))) _ ?_
    have lw := wL_len w
    have lo := wL_len o
    -- the tuple of a row, a kind, a length
    have fin : ∀ (r : Rw) (k : Kd) (x : List Nat) (y : Int) (H0 : Hp) (tk tz : TE) (σ : L2.St), Same H H0 → y = (x.length : Int) → r.new = w → r.fine → KFits xs x k → (∀ E, getE E w = some x1 → getE E o = some x2 → r.txt E x) →
        (∀ Q : VK, (∀ b, H0 b = none → Q (.ref b) (upd H0 b (.tup (kdV k)))) → tk σ H0 Q) → (∀ b, H0 b = none → Val tz σ (upd H0 b (.tup (kdV k))) (.int y)) → tCons tk (tCons tz tNil) σ H0 fun us H1 => (V.str (tx r.text) :: us).length ≤ sizeLine ∧ ∀ p, H1 p = none → Q (.ref p) (upd H1 p (.tup (V.str (tx r.text) :: us))) := by
      intro r k x y H0 tk tz σ s0 hy hr hf hk hx htk htz
      refine htk _ fun b nb => ?_
      refine htz b nb _ ⟨by show 3 ≤ sizeLine; decide, fun a na => ?_⟩
      refine q a b _ r k x (s0.trans ((same_new nb).trans (same_new na))) (by rw [upd_same, hy]) (same_new na _ _ upd_same) hr hf hk hx
    have m8 : ∀ (σ : L2.St) (H : Hp), σ[0]? = some (some (.int i)) → Val (tOp (rI (fun _ j => 0 < j) fun i j => .int (i % j)) (tVar 0) (tC (.int 8))) σ H (.int (i % 8)) := fun σ H h => v_mod (vx 0 h) vc (by decide)
    have e0 := Int.emod_nonneg i (show (8 : Int) ≠ 0 by decide)
    have lj : ∀ u v : Bool, ((((wL w ++ [32, 106, 111, 105, 110, 32]) ++ wL u) ++ [32]) ++ wL v) = (Rw.join w u v).text := fun u v => by cases w <;> cases u <;> cases v <;> rfl
    have lu : ∀ u : Bool, (wL u).length = 1 := wL_len
    have sJ : ∀ (u v : Bool) (σ : L2.St) (tu tv : TE), σ[1]? = some (some (.str (tx (wL w)))) → Val tu σ H (.str (tx (wL u))) → Val tv σ H (.str (tx (wL v))) → Val (tOp (fun x y H Q => ∃ i j, x = .str i ∧ y = .str j ∧ i.length + j.length ≤ sizeLine ∧ Q (.str (i ++ j)) H) (tOp (fun x y H Q => ∃ i j, x = .str i ∧ y = .str j ∧ i.length + j.length ≤ sizeLine ∧ Q (.str (i ++ j)) H) (tOp (fun x y H Q => ∃ i j, x = .str i ∧ y = .str j ∧ i.length + j.length ≤ sizeLine ∧ Q (.str (i ++ j)) H) (tOp (fun x y H Q => ∃ i j, x = .str i ∧ y = .str j ∧ i.length + j.length ≤ sizeLine ∧ Q (.str (i ++ j)) H) (tVar 1) (tC (.str " join "))) tu) (tC (.str " "))) tv) σ H (.str (tx (Rw.join w u v).text)) := fun u v σ tu tv h hu hv => by
      rw [← lj]
      refine v_tx (v_tx (v_tx (v_tx (vx 1 h) (vcS (a := [32, 106, 111, 105, 110, 32]) (by decide +kernel)) ?_) hu ?_) (vcS (a := [32]) (by decide +kernel)) ?_) hv ?_ <;> simp only [List.length_append, lu, List.length_cons, List.length_nil] <;> decide
    by_cases c0 : i % 8 = 0
    · refine s_yes (a_eq (m8 _ _ rfl) vc rfl (intd (by rw [c0]))) ?_
      have et : (wL w ++ [32, 116, 117, 114, 110, 32]) ++ wL w = (Rw.turn w).text := by cases w <;> rfl
      refine r_tup (v_tx (v_tx (vx 1) (vcS (a := [32, 116, 117, 114, 110, 32]) (by decide +kernel)) (by rw [lw]; decide)) (vx 1) (by rw [List.length_append, lw]; decide)) ?_
      rw [et]
      exact fin (.turn w) (.turn n1) x1.reverse _ _ _ _ _ (Same.refl H) (by rw [List.length_reverse]) rfl trivial ⟨x1, h1, rfl⟩ (fun E h _ => ⟨x1, h, rfl⟩) (fun Q q => ⟨.int (n1 : Int), rfl, by show 2 ≤ sizeLine; decide, fun b nb => q b nb⟩) (fun b nb => v_ixL (vx 4) (vx 5) (sqL (same_new nb _ _ hl)) (at_nV (lenN_get h1)))
    refine s_no (a_eq (m8 _ _ rfl) vc rfl (intn fun e => c0 (V.int.inj e))) ?_
    by_cases c4 : i % 8 < 4
    · by_cases c64 : i / 64 % 2 = 0
      · refine s_yes (a_and (a_lt (m8 _ _ rfl) vc (intd c4)) (a_eq (v_mod (v_div (vx 0) vc (cd _)) vc (by decide)) vc rfl (intd (by rw [c64])))) ?_
        refine r_tup (sJ w o _ _ _ rfl (vx 1) (vx 2)) ?_
        exact fin (.join w w o) (.join n1 n2) (x1 ++ x2) ((x1.length : Int) + (x2.length : Int)) _ _ _ _ (Same.refl H) (by rw [List.length_append]; omega) rfl trivial ⟨x1, x2, h1, h2, rfl⟩ (fun E h h' => ⟨x1, x2, h, h', rfl⟩) (fun Q q => ⟨.int (n1 : Int), rfl, .int (n2 : Int), rfl, by show 3 ≤ sizeLine; decide, fun b nb => q b nb⟩) (fun b nb => vx 7)
      · refine s_no (a_and (a_lt (m8 _ _ rfl) vc (intd c4)) (a_eq (v_mod (v_div (vx 0) vc (cd _)) vc (by decide)) vc rfl (intn fun e => c64 (V.int.inj e)))) ?_
        refine s_yes (a_lt (m8 _ _ rfl) vc (intd c4)) ?_
        refine r_tup (sJ o w _ _ _ rfl (vx 2) (vx 1)) ?_
        exact fin (.join w o w) (.join n2 n1) (x2 ++ x1) ((x1.length : Int) + (x2.length : Int)) _ _ _ _ (Same.refl H) (by rw [List.length_append]; omega) rfl trivial ⟨x2, x1, h2, h1, rfl⟩ (fun E h h' => ⟨x2, x1, h', h, rfl⟩) (fun Q q => ⟨.int (n2 : Int), rfl, .int (n1 : Int), rfl, by show 3 ≤ sizeLine; decide, fun b nb => q b nb⟩) (fun b nb => vx 7)
    refine s_no (a_andF (a_lt (m8 _ _ rfl) vc (intn c4))) ?_
    refine s_no (a_lt (m8 _ _ rfl) vc (intn c4)) ?_
    by_cases c6 : i % 8 < 6
    · refine s_yes (a_lt (m8 _ _ rfl) vc (intd c6)) ?_
      have et : ((wL w ++ [32, 116, 105, 109, 101, 115, 32]) ++ wL w) ++ [32, 50] = (Rw.times w).text := by cases w <;> rfl
      refine r_tup (v_tx (v_tx (v_tx (vx 1) (vcS (a := [32, 116, 105, 109, 101, 115, 32]) (by decide +kernel)) (by rw [lw]; decide)) (vx 1) (by rw [List.length_append, lw]; decide)) (vcS (a := [32, 50]) (by decide +kernel)) (by rw [List.length_append, List.length_append, lw]; decide)) ?_
      rw [et]
      exact fin (.times w) (.join n1 n1) (x1 ++ x1) _ _ _ _ _ (Same.refl H) (by rw [List.length_append]; omega) rfl trivial ⟨x1, x1, h1, h1, rfl⟩ (fun E h _ => ⟨x1, h, rfl⟩) (fun Q q => ⟨.int (n1 : Int), rfl, .int (n1 : Int), rfl, by show 3 ≤ sizeLine; decide, fun b nb => q b nb⟩) (fun b nb => v_mul vc (v_ixL (vx 4) (vx 5) (sqL (same_new nb _ _ hl)) (at_nV (lenN_get h1))) (wide_mul (a := 13) (b := 61) (by decide) (by omega) (by decide) (by decide) (by decide)))
    refine s_no (a_lt (m8 _ _ rfl) vc (intn c6)) ?_
    obtain ⟨p, hp, hat⟩ : ∃ p : Nat, (p = 0 ∨ p = x1.length) ∧ atI [V.int 0, .int (x1.length : Int)] (i / 8 % 2) = some (.int (p : Int)) := by
      have := Int.emod_nonneg (i / 8) (show (2 : Int) ≠ 0 by decide)
      have := Int.emod_lt_of_pos (i / 8) (show (0 : Int) < 2 by decide)
      by_cases hz : i / 8 % 2 = 0
      · rw [hz]
        exact ⟨0, .inl rfl, atI_nat (j := 0) rfl⟩
      · rw [show i / 8 % 2 = 1 by omega]
        exact ⟨x1.length, .inr rfl, atI_nat (j := 1) rfl⟩
    have hp60 : p ≤ 2 ^ 60 := by rcases hp with rfl | rfl <;> omega
    have hpL : (numL p).length ≤ 19 := TL.numL_len (by decide) (Nat.lt_of_le_of_lt hp60 (by decide))
    refine ix_two (v_ixL (vx 4) (vx 5) (sqL hl) (at_nV (lenN_get h1))) (fun _ => v_mod (v_div (vx 0) vc (cd _)) vc (by decide)) hat fun c nc => ?_
    have sc := same_new (o := HO.lst [V.int 0, .int (x1.length : Int)]) nc
    have vn : ∀ (σ : L2.St) (H : Hp), σ[8]? = some (some (.int (p : Int))) → Val (fun σ H Q => (tCons (tVar 8) tNil) σ H fun xs H1 => ∃ i, xs = [.int i] ∧ i.natAbs.log2 < 1920 ∧ Q (.str (toString i)) H1) σ H (.str (tx (numL p))) := fun σ H h Q q => ⟨.int (p : Int), h, (p : Int), rfl, log_ok (Nat.le_trans hp60 (by decide)), by show Q (.str (numS p)) H; rw [numS_tx]; exact q⟩
    refine r_tup (v_tx (v_tx (v_tx (v_tx (v_tx (v_tx (vx 1) (vcS (a := [32, 105, 110, 115, 101, 114, 116, 32]) (by decide +kernel)) (by rw [lw]; decide)) (vx 1) (by rw [List.length_append, lw]; decide)) (vcS (a := [32]) (by decide +kernel)) (by rw [List.length_append, List.length_append, lw]; decide)) (vn _ _ rfl) (by rw [List.length_append, List.length_append, List.length_append, lw]; show 1 + 8 + 1 + 1 + (numL p).length ≤ _; omega)) (vcS (a := [32]) (by decide +kernel)) (by rw [List.length_append, List.length_append, List.length_append, List.length_append, lw]; show 1 + 8 + 1 + 1 + (numL p).length + 1 ≤ _; omega)) (vx 2) (by rw [List.length_append, List.length_append, List.length_append, List.length_append, List.length_append, lw, lo]; show 1 + 8 + 1 + 1 + (numL p).length + 1 + 1 ≤ _; omega)) ?_
    rw [insert_text]
    have hfit : ∃ x : List Nat, x.length = x1.length + x2.length ∧ ((p = 0 ∧ x = x2 ++ x1) ∨ (p = x1.length ∧ x = x1 ++ x2)) := by
      rcases hp with rfl | rfl
      · exact ⟨x2 ++ x1, by rw [List.length_append]; omega, .inl ⟨rfl, rfl⟩⟩
      · exact ⟨x1 ++ x2, by rw [List.length_append], .inr ⟨rfl, rfl⟩⟩
    obtain ⟨x, hxl, hxp⟩ := hfit
    exact fin (.insert w p o) (.insert n1 n2 p) x ((x1.length : Int) + (x2.length : Int)) _ _ _ _ sc (by rw [hxl]; omega) rfl (Nat.lt_of_le_of_lt hp60 (by decide)) ⟨x1, x2, h1, h2, hxp⟩ (fun E h h' => ⟨x1, x2, h, h', hxp⟩) (fun Q q => ⟨.int (n1 : Int), rfl, .int (n2 : Int), rfl, .int (p : Int), rfl, by show 4 ≤ sizeLine; decide, fun b nb => q b nb⟩) (fun b nb => vx 7)
end
end Sb
set_option Elab.async false
set_option linter.all false
set_option maxRecDepth 100000
set_option maxHeartbeats 4000000
set_option pp.maxSteps 300
/-! What the law makes of its draws. -/
namespace Sb
open PySem PySem.Spec PyProof.Rows L2
theorem ix_tupK {X : Cx} {K : PySem.W.Frag} (h : X.K = K) : IxR X (rIxT K) := by
  subst h
  exact ix_tup
/-- rows and kinds that belong together -/
structure MdOf (rows : List Rw) (ks : List Kd) (xs : List (List Nat)) (names : Env Nat) (E : Env (List Nat)) : Prop where
  run : Runs rows [] E
  kt : KT ks xs
  len : rows.length = ks.length
  ord : Ordd names
  env : Paired (fun (p : Bool × Nat) (q : Bool × List Nat) => p.1 = q.1 ∧ xs[p.2]? = some q.2) names E
  fst : ∃ s, ks[0]? = some (.signs s)
theorem env_keys {xs : List (List Nat)} : ∀ {names : Env Nat} {E : Env (List Nat)}, Paired (fun (p : Bool × Nat) (q : Bool × List Nat) => p.1 = q.1 ∧ xs[p.2]? = some q.2) names E → E.map (·.1) = names.map (·.1)
  | _, _, .nil => rfl
  | p :: _, q :: _, .cons h t => by
    show q.1 :: _ = p.1 :: _
    rw [h.1]
    exact congrArg (List.cons _) (env_keys t)
theorem env_get {xs : List (List Nat)} {w : Bool} {n : Nat} : ∀ {names : Env Nat} {E : Env (List Nat)}, Paired (fun (p : Bool × Nat) (q : Bool × List Nat) => p.1 = q.1 ∧ xs[p.2]? = some q.2) names E → getE names w = some n → ∃ x, getE E w = some x ∧ xs[n]? = some x
  | _, _, .nil, h => by cases h
  | p :: _, q :: _, .cons h t, g => by
    unfold getE at g ⊢
    by_cases e : p.1 = w
    · rw [if_pos e] at g
      rw [if_pos (h.1.symm.trans e)]
      cases g
      exact ⟨_, rfl, h.2⟩
    · rw [if_neg e] at g
      rw [if_neg (fun z => e (h.1.trans z))]
      exact env_get t g
theorem env_put {xs : List (List Nat)} {w : Bool} {n : Nat} {x : List Nat} (hx : xs[n]? = some x) : ∀ {names : Env Nat} {E : Env (List Nat)}, Paired (fun (p : Bool × Nat) (q : Bool × List Nat) => p.1 = q.1 ∧ xs[p.2]? = some q.2) names E →
    Paired (fun (p : Bool × Nat) (q : Bool × List Nat) => p.1 = q.1 ∧ xs[p.2]? = some q.2) (putE names w n) (putE E w x)
  | _, _, .nil => .cons ⟨rfl, hx⟩ .nil
  | p :: _, q :: _, .cons h t => by
    unfold putE
    by_cases e : p.1 = w
    · rw [if_pos e, if_pos (h.1.symm.trans e)]
      exact .cons ⟨rfl, hx⟩ t
    · rw [if_neg e, if_neg (fun z => e (h.1.trans z))]
      exact .cons h (env_put hx t)
theorem env_more {xs ys : List (List Nat)} {names : Env Nat} {E : Env (List Nat)} (h : Paired (fun (p : Bool × Nat) (q : Bool × List Nat) => p.1 = q.1 ∧ xs[p.2]? = some q.2) names E) : Paired (fun (p : Bool × Nat) (q : Bool × List Nat) => p.1 = q.1 ∧ (xs ++ ys)[p.2]? = some q.2) names E :=
  Paired.mapP h fun _ _ z => ⟨z.1, get_app z.2⟩
theorem MdOf.put {rows : List Rw} {ks : List Kd} {xs : List (List Nat)} {names : Env Nat} {E : Env (List Nat)} {r : Rw} {k : Kd} {x : List Nat} (m : MdOf rows ks xs names E) (hf : r.fine) (hk : KFits xs x k) (ht : r.txt E x) (ho : Ordd (putE names r.new ks.length)) :
    MdOf (rows ++ [r]) (ks ++ [k]) (xs ++ [x]) (putE names r.new ks.length) (putE E r.new x) where
  run := m.run.app ⟨x, hf, ht, rfl⟩
  kt := m.kt.snoc hk
  len := by rw [List.length_append, List.length_append, m.len]; rfl
  ord := ho
  env := env_put (by rw [m.kt.len]; exact get_snoc) (env_more m.env)
  fst := let ⟨s, h⟩ := m.fst; ⟨s, get_app h⟩
theorem MdOf.ordE {rows : List Rw} {ks : List Kd} {xs : List (List Nat)} {names : Env Nat} {E : Env (List Nat)} (m : MdOf rows ks xs names E) : Ordd E := by
  unfold Ordd
  rw [env_keys m.env]
  exact m.ord
theorem MdOf.ne {rows : List Rw} {ks : List Kd} {xs : List (List Nat)} {names : Env Nat} {E : Env (List Nat)} (m : MdOf rows ks xs names E) : rows ≠ [] := fun e => by
  obtain ⟨s, h⟩ := m.fst
  have h1 := get_lt h
  have h2 := m.len
  rw [e] at h2
  have h3 : 0 = ks.length := h2
  omega
theorem MdOf.one {s : List Nat} (h1 : s ≠ []) (h4 : s.length ≤ 4) (hc : ∀ c ∈ s, OkC c) : MdOf [.is false s] [.signs s] [s] [(false, 0)] [(false, s)] where
  run := ⟨s, ⟨h1, h4, hc⟩, ⟨rfl, h1, h4, hc⟩, rfl⟩
  kt := KT.snoc .nil ⟨rfl, h1, h4, hc⟩
  len := rfl
  ord := .inl rfl
  env := .cons ⟨rfl, rfl⟩ .nil
  fst := ⟨s, rfl⟩
theorem MdOf.two {s t : List Nat} (h1 : s ≠ []) (h4 : s.length ≤ 4) (hc : ∀ c ∈ s, OkC c) (g1 : t ≠ []) (g4 : t.length ≤ 4) (gc : ∀ c ∈ t, OkC c) : MdOf [.is false s, .is true t] [.signs s, .signs t] [s, t] [(false, 0), (true, 1)] [(false, s), (true, t)] where
  run := ⟨s, ⟨h1, h4, hc⟩, ⟨rfl, h1, h4, hc⟩, t, ⟨g1, g4, gc⟩, ⟨rfl, g1, g4, gc⟩, rfl⟩
  kt := KT.snoc (KT.snoc .nil ⟨rfl, h1, h4, hc⟩) (xs := [s]) (ks := [.signs s]) (x := t) (k := .signs t) ⟨rfl, g1, g4, gc⟩
  len := rfl
  ord := .inr rfl
  env := .cons ⟨rfl, rfl⟩ (.cons ⟨rfl, rfl⟩ .nil)
  fst := ⟨s, rfl⟩
abbrev rowV (rows : List Rw) : List V := rows.map fun r => V.str (tx r.text)
structure MkS (H : Hp) (lk lr d : Addr) (rows : List Rw) (ks : List Kd) (xs : List (List Nat)) (names : Env Nat) (E : Env (List Nat)) : Prop where
  hk : ∃ us, H lk = some (.lst us) ∧ Paired (KdA H) us ks
  hr : H lr = some (.lst (rowV rows))
  hd : ∃ kvs, H d = some (.dK kvs) ∧ DE NmR kvs names
  m : MdOf rows ks xs names E
theorem MkS.mono {H H' : Hp} {lk lr d : Addr} {rows : List Rw} {ks : List Kd} {xs : List (List Nat)} {names : Env Nat} {E : Env (List Nat)} (s : Same H H') (h : MkS H lk lr d rows ks xs names E) : MkS H' lk lr d rows ks xs names E :=
  ⟨let ⟨us, a, b⟩ := h.hk; ⟨us, s _ _ a, Paired.mapP b fun _ _ z => z.mono s⟩, s _ _ h.hr, let ⟨kvs, a, b⟩ := h.hd; ⟨kvs, s _ _ a, b⟩, h.m⟩
theorem is_text (w : Bool) (s : List Nat) : (wL w ++ [32, 105, 115, 32]) ++ s = (Rw.is w s).text := by
  show _ = wL w ++ ([32] ++ ([105, 115] ++ ([32] ++ s)))
  simp [List.append_assoc]
theorem x_is (s : List Nat) : ("x is " : Str) ++ tx s = tx (Rw.is false s).text := by
  rw [show ("x is " : Str) = tx (wL false ++ [32, 105, 115, 32]) by decide +kernel, show tx (wL false ++ [32, 105, 115, 32]) ++ tx s = _ from SX.S_cat _ _, is_text]
theorem y_is (s : List Nat) : ("y is " : Str) ++ tx s = tx (Rw.is true s).text := by
  rw [show ("y is " : Str) = tx (wL true ++ [32, 105, 115, 32]) by decide +kernel, show tx (wL true ++ [32, 105, 115, 32]) ++ tx s = _ from SX.S_cat _ _, is_text]
theorem pick (bs : List Bool) (hp : 0 < bs.length) (z : Int) : ∃ w ∈ bs, atI ((bs.map wd).map V.str) (z % ((((bs.map wd).map V.str).length : Nat) : Int)) = some (.str (wd w)) := by
  have hl : ((bs.map wd).map V.str).length = bs.length := by rw [List.length_map, List.length_map]
  have e0 := Int.emod_nonneg z (show ((((bs.map wd).map V.str).length : Nat) : Int) ≠ 0 by omega)
  have e1 := Int.emod_lt_of_pos z (show (0 : Int) < ((((bs.map wd).map V.str).length : Nat) : Int) by omega)
  obtain ⟨w, hw⟩ := get_at (l := bs) (i := (z % ((((bs.map wd).map V.str).length : Nat) : Int)).toNat) (by omega)
  refine ⟨w, List.mem_of_getElem? hw, ?_⟩
  have h2 : ((bs.map wd).map V.str)[(z % ((((bs.map wd).map V.str).length : Nat) : Int)).toNat]? = some (.str (wd w)) := by
    rw [List.getElem?_map, List.getElem?_map, hw]
    rfl
  have h3 := atI_nat h2
  rwa [Int.toNat_of_nonneg e0] at h3
theorem mem_get {α : Type} {w : Bool} : ∀ {E : Env α}, w ∈ E.map (·.1) → ∃ a, getE E w = some a
  | [], h => by cases h
  | p :: r, h => by
    unfold getE
    by_cases e : p.1 = w
    · rw [if_pos e]
      exact ⟨_, rfl⟩
    · rw [if_neg e]
      rcases List.mem_cons.mp h with h | h
      · exact absurd h.symm e
      · exact mem_get h
section
variable {P : Program} {w : World} {K : PySem.W.Frag} {mg : Str → Option Value} {base : Heap}
def sp_Lmade : Sp := fun vs H Q _ => ∃ (l : Addr) (ds : List Int), vs = [.ref l] ∧ H l = some (.lst (ds.map V.int)) ∧ 4 ≤ ds.length ∧ ds.length ≤ 42 ∧ (∀ d ∈ ds, Dr d) ∧
  ∀ (a lr lk lz d : Addr) (H' : Hp) (rows : List Rw) (ks : List Kd) (xs : List (List Nat)) (names : Env Nat) (E : Env (List Nat)), Same H H' → H' a = some (.tup [.ref lr, .ref lk, .ref lz, .ref d]) → MkS H' lk lr d rows ks xs names E → H' lz = some (.lst (nV (lenN xs))) → rows.length ≤ 40 → Q (.ref a) H'
theorem ok_Lmade (T : Hd K mg) : Own P w K mg base "_law_made" ["_law_draws_here"] 3 sp_Lmade := by
  refine own_mk T.d_Lmade sc_Lmade (fun vs H Q E h => ?_) (fun _ _ _ _ _ _ us hl => match us, hl with | [_], _ => rfl) (fun fa cdv A outer s H vs Q E hr h => ⟨_, (pss_cons (ps_set (i := 1) sc_Lmade.nd rfl (Or.inl rfl) (pe_lst (pa_cons (pe_tup (pa_cons pe_str (pa_cons (pe_own (ok_Lsigns T) (hr.mono (by decide)) (by rfl) (pa_cons (pe_ix ix_list (pv 0) pe_int (fun _ _ => rfl)) pa_nil)) pa_nil))) pa_nil)))
      (pss_cons (ps_set (i := 2) sc_Lmade.nd rfl (Or.inl rfl) (pe_lst (pa_cons (pe_op op_add_str pe_str (pe_ix ix_tup (pe_ix ix_list (pv 1) pe_int (fun _ _ => rfl)) pe_int (fun _ _ => rfl))) pa_nil)))
      (pss_cons (ps_set (i := 3) sc_Lmade.nd rfl (Or.inl rfl) (pe_disp (pps_cons pe_str pe_int pps_nil) (by rfl) (by rfl) (fun z => by cases z) (by decide)))
      (C8.pss_cut (ps_if (pt_cmpR op_eq (pe_op op_mod (pe_op op_fdivW (pe_ix ix_list (pv 0) pe_int (fun _ _ => rfl)) pe_int) pe_int) pe_int (nomark _)) (pss_cons (ps_expr (pe_bm PySem.F.plainAttrs_list PySem.F.slot_list_append PySem.F.type_list_append mt_append (pv 1) (pa_cons (pe_tup (pa_cons pe_str (pa_cons (pe_own (ok_Lsigns T) (hr.mono (by decide)) (by rfl) (pa_cons (pe_op op_fdivW (pe_ix ix_list (pv 0) pe_int (fun _ _ => rfl)) pe_int) pa_nil)) pa_nil))) pa_nil)))
      (pss_cons (ps_expr (pe_bm PySem.F.plainAttrs_list PySem.F.slot_list_append PySem.F.type_list_append mt_append (pv 2) (pa_cons (pe_op op_add_str pe_str (pe_ix ix_tup (pe_ix ix_list (pv 1) pe_int (fun _ _ => rfl)) pe_int (fun _ _ => rfl))) pa_nil)))
      (pss_one (ps_dput (hu_of hr) (pv 3) pe_str pe_int rfl)))) pss_nil)
      (pss_cons (ps_setLc (i := 5) (own := [("_law_kind", 4)]) (g := gName 4) (tt := tYes) rfl sc_Lmade.nd rfl rfl (sw_true rfl rfl rfl (by decide +kernel)) (pi_list (pv 1)) (blkOk_by (own := [("_law_kind", 4)]) (N := ["_law_draws_here", "_law_kinds", "_law_rows", "_law_names", "_law_kind", "_law_sizes", "_law_some", "_law_cell", "_law_word", "_law_other", "_law_row", "_law_size"]) (sc := defScope s_Lmade) (by decide +kernel)) (fun _ _ _ _ _ => pg_name (i := 4) sc_Lmade.nd rfl (Or.inl rfl)) (fun _ _ _ _ _ => pts_nil) (fun _ _ _ _ _ => (pe_callB call_len_str (by rfl) T.z_len (by decide +kernel) (pa_cons (pe_ix (ix_tupK (K := K) rfl) (pv 4) pe_int (fun _ _ => rfl)) pa_nil))))
      (pss_cons (ps_set (i := 6) sc_Lmade.nd rfl (Or.inl rfl) (pe_callB (cr_sortKS rfl) (by rfl) T.z_sorted (by decide +kernel) (pa_cons (pe_bm0 PySem.F.plainAttrs_dict PySem.F.slot_dict_keys PySem.F.type_dict_keys mt_keys (pv 3)) pa_nil)))
      (pss_cons (ps_for PassesOwn.never rfl (pi_list (pe_slice sl_list (pv 0) (po_some pe_int) po_none)) (pg_name (i := 7) sc_Lmade.nd rfl (Or.inl rfl)) (pss_cons (ps_set (i := 8) sc_Lmade.nd rfl (Or.inl rfl) (pe_ix ix_list (pv 6) (pe_op op_mod (pe_op op_fdivW (pv 7) pe_int) (pe_callB call_len_seq (by rfl) T.z_len (by decide +kernel) (pa_cons (pv 6) pa_nil))) (fun _ _ => rfl)))
      (pss_cons (ps_set (i := 9) sc_Lmade.nd rfl (Or.inl rfl) (pe_ix ix_list (pv 6) (pe_op op_mod (pe_op op_add (pe_op op_fdivW (pv 7) pe_int) (pe_callB (call_min2 rfl) (by rfl) T.z_min (by decide +kernel) (pa_cons pe_int (pa_cons (pe_op op_mod (pe_op op_fdivW (pv 7) pe_int) pe_int) pa_nil)))) (pe_callB call_len_seq (by rfl) T.z_len (by decide +kernel) (pa_cons (pv 6) pa_nil))) (fun _ _ => rfl)))
      (pss_cons (ps_asg (pe_own (ok_Lstep T) (hr.mono (by decide)) (by rfl) (pa_cons (pv 7) (pa_cons (pv 8) (pa_cons (pv 9) (pa_cons (pv 3) (pa_cons (pv 5) pa_nil)))))) (pg_tup rfl (pgs_cons (pg_name (i := 10) sc_Lmade.nd rfl (Or.inl rfl)) (pgs_cons (pg_name (i := 4) sc_Lmade.nd rfl (Or.inl rfl)) (pgs_cons (pg_name (i := 11) sc_Lmade.nd rfl (Or.inl rfl)) pgs_nil)))))
      (pss_cons (ps_expr (pe_bm PySem.F.plainAttrs_list PySem.F.slot_list_append PySem.F.type_list_append mt_append (pv 2) (pa_cons (pv 10) pa_nil)))
      (pss_cons (ps_expr (pe_bm PySem.F.plainAttrs_list PySem.F.slot_list_append PySem.F.type_list_append mt_append (pv 1) (pa_cons (pv 4) pa_nil)))
      (pss_cons (ps_expr (pe_bm PySem.F.plainAttrs_list PySem.F.slot_list_append PySem.F.type_list_append mt_append (pv 5) (pa_cons (pv 11) pa_nil)))
      (pss_one (ps_dput (hu_of hr) (pv 3) (pv 8) (pe_op op_sub (pe_callB call_len_seq (by rfl) T.z_len (by decide +kernel) (pa_cons (pv 1) pa_nil)) pe_int) rfl)))))))))
      (pss_one (ps_ret (pe_tup (pa_cons (pv 2) (pa_cons (pv 1) (pa_cons (pv 5) (pa_cons (pv 3) pa_nil)))))))))))))), ?_⟩)
  · obtain ⟨l, ds, rfl, _⟩ := h
    rfl
  · obtain ⟨l, ds, rfl, hl, h4, h42, hD, q⟩ := h
    have draw : ∀ j : Nat, j < ds.length → ∃ z, ds[j]? = some z ∧ Dr z ∧ atI (ds.map V.int) (j : Int) = some (.int z) := fun j hj => by
      obtain ⟨z, hz⟩ := get_at hj
      exact ⟨z, hz, hD z (List.mem_of_getElem? hz), atI_nat (by rw [List.getElem?_map, hz]; rfl)⟩
    obtain ⟨d0, _, _, a0⟩ := draw 0 (by omega)
    obtain ⟨d1, _, _, a1⟩ := draw 1 (by omega)
    obtain ⟨d3, _, _, a3⟩ := draw 3 (by omega)
    refine ⟨.ref l, rfl, l, _, 0, .int d0, rfl, rfl, sqL hl, a0, d0, rfl, fun s1 H1 sa hne1 h41 hok1 => ⟨by show 2 ≤ sizeLine; decide, fun a na => ⟨by show 1 ≤ sizeLine; decide, fun lk nlk => ?_⟩⟩⟩
    have ha1 : (upd H1 a (.tup [.str "signs", .str (tx s1)])) a = some (.tup [.str "signs", .str (tx s1)]) := upd_same
    have ha2 := same_new (o := HO.lst [.ref a]) nlk _ _ ha1
    have hk2 : (upd (upd H1 a (.tup [.str "signs", .str (tx s1)])) lk (.lst [.ref a])) lk = some (.lst [.ref a]) := upd_same
    have sA := (sa.trans (same_new (o := HO.tup [.str "signs", .str (tx s1)]) na)).trans (same_new (o := HO.lst [.ref a]) nlk)
    have nlk0 := (sa.trans (same_new (o := HO.tup [.str "signs", .str (tx s1)]) na)).free nlk
    generalize upd (upd H1 a (.tup [.str "signs", .str (tx s1)])) lk (.lst [.ref a]) = H2 at ha2 hk2 sA
    refine ⟨.ref lk, rfl, lk, _, 0, .ref a, rfl, rfl, sqL hk2, atI_nat (j := 0) rfl, a, _, 1, .str (tx s1), rfl, rfl, sqT ha2, atI_nat (j := 1) rfl, "x is ", tx s1, rfl, rfl, szl (by rw [tx_len]; show 5 + s1.length ≤ _; omega), ⟨by show 1 ≤ sizeLine; decide, fun lr nlr => ?_⟩⟩
    rw [x_is]
    have sB := sA.trans (same_new (o := HO.lst [V.str (tx (Rw.is false s1).text)]) nlr)
    have hk3 := same_new (o := HO.lst [V.str (tx (Rw.is false s1).text)]) nlr _ _ hk2
    have ha3 := same_new (o := HO.lst [V.str (tx (Rw.is false s1).text)]) nlr _ _ ha2
    have hr3 : (upd H2 lr (.lst [V.str (tx (Rw.is false s1).text)])) lr = some (.lst (rowV [.is false s1])) := upd_same
    have nlr0 := sA.free nlr
    have n1 : lk ≠ lr := ne_of_none hk2 nlr
    generalize upd H2 lr (.lst [V.str (tx (Rw.is false s1).text)]) = H3 at sB hk3 ha3 hr3
    refine fun d nd => ⟨upd_same, [(.inr "x", .int 0)], rfl, by decide, ?_⟩
    have nd0 := sB.free nd
    have n2 : lk ≠ d := ne_of_none hk3 nd
    have n3 : lr ≠ d := ne_of_none hr3 nd
    have sD : Same H3 (upd (upd H3 d (.dK [])) d (.dK (mergeK [] [(.inr "x", .int 0)]))) := Same.mut (same_new nd) nd
    have hd4 : (upd (upd H3 d (.dK [])) d (.dK (mergeK [] [(.inr "x", .int 0)]))) d = some (.dK [(.inr "x", .int 0)]) := upd_same
    have sC := sB.trans sD
    have M1 : MkS (upd (upd H3 d (.dK [])) d (.dK (mergeK [] [(.inr "x", .int 0)]))) lk lr d [.is false s1] [.signs s1] [s1] [(false, 0)] [(false, s1)] := ⟨⟨_, sD _ _ hk3, .cons ⟨a, rfl, sD _ _ ha3⟩ .nil⟩, sD _ _ hr3, ⟨_, hd4, .cons ⟨rfl, rfl⟩ .nil⟩, MdOf.one hne1 h41 hok1⟩
    generalize upd (upd H3 d (.dK [])) d (.dK (mergeK [] [(.inr "x", .int 0)])) = H4 at sC M1
    have hl4 := sC _ _ hl
    refine ⟨fun σ' H' => σ' = [some (.ref l), some (.ref lk), some (.ref lr), some (.ref d), none, none, none, none, none, none, none, none] ∧ Same H H' ∧ ∃ rows ks xs names E, MkS H' lk lr d rows ks xs names E ∧ ks.length ≤ 2 ∧ ∀ k ∈ ks, ∃ s, k = .signs s, ?_, ?_⟩
    · refine ⟨.ref l, rfl, l, _, 3, .int d3, rfl, rfl, sqL hl4, a3, d3, 12, rfl, rfl, cd _, _, 2, rfl, rfl, (by show (0 : Int) < 2; decide), rfl, _, rfl, ?_⟩
      by_cases hy : d3 / 12 % 2 = 1
      · rw [intd (show V.int (d3 / 12 % 2) = V.int 1 by rw [hy])]
        obtain ⟨⟨us, hk5, hP5⟩, hr5, ⟨kvs, hd5, hE5⟩, hm⟩ := M1
        have hus : us.length = 1 := Paired.length hP5
        refine iteT ⟨.ref lk, rfl, .inl ⟨rfl, _, sqL hk5⟩, .ref l, rfl, l, _, 1, .int d1, rfl, rfl, sqL hl4, a1, d1, 124, rfl, rfl, cd _, d1 / 124, rfl, fun s2 H5 s5 hne2 h42' hok2 => ⟨by show 2 ≤ sizeLine; decide, fun b nb => ?_⟩⟩
        have s6 := s5.trans (same_new (o := HO.tup [.str "signs", .str (tx s2)]) nb)
        have hb6 : (upd H5 b (.tup [.str "signs", .str (tx s2)])) b = some (.tup [.str "signs", .str (tx s2)]) := upd_same
        generalize upd H5 b (.tup [.str "signs", .str (tx s2)]) = H6 at s6 hb6
        have hk6 := s6 _ _ hk5
        have hr6 := s6 _ _ hr5
        have hd6 := s6 _ _ hd5
        have hP6 : Paired (KdA H6) us [.signs s1] := Paired.mapP hP5 fun _ _ z => z.mono s6
        refine ⟨lk, us, .ref b, rfl, rfl, hk6, szt (by omega), ?_⟩
        have st7 : SameT H6 (upd H6 lk (.lst (us ++ [.ref b]))) := SameT.upd hk6 (fun xs z => by cases z)
        have hk7 : (upd H6 lk (.lst (us ++ [.ref b]))) lk = some (.lst (us ++ [.ref b])) := upd_same
        have hr7 : (upd H6 lk (.lst (us ++ [.ref b]))) lr = some (.lst (rowV [.is false s1])) := by rw [upd_ne n1.symm]; exact hr6
        have hd7 : (upd H6 lk (.lst (us ++ [.ref b]))) d = some (.dK kvs) := by rw [upd_ne n2.symm]; exact hd6
        have s7 : Same H (upd H6 lk (.lst (us ++ [.ref b]))) := Same.mut (sC.trans s6) nlk0
        generalize upd H6 lk (.lst (us ++ [.ref b])) = H7 at st7 hk7 hr7 hd7 s7
        refine ⟨.ref lr, rfl, .inl ⟨rfl, _, sqL hr7⟩, .ref lk, rfl, lk, _, 1, .ref b, rfl, rfl, sqL hk7, (by rw [show (1 : Int) = ((us.length : Nat) : Int) by rw [hus]; rfl]; exact atI_nat get_snoc), b, _, 1, .str (tx s2), rfl, rfl, sqT (st7 _ _ hb6), atI_nat (j := 1) rfl, "y is ", tx s2, rfl, rfl, szl (by rw [tx_len]; show 5 + s2.length ≤ _; omega), lr, _, _, rfl, rfl, hr7, (by show 1 < sizeLine; decide), ?_⟩
        rw [y_is]
        have st8 : SameT H7 (upd H7 lr (.lst (rowV [.is false s1] ++ [V.str (tx (Rw.is true s2).text)]))) := SameT.upd hr7 (fun xs z => by cases z)
        have hr8 : (upd H7 lr (.lst (rowV [.is false s1] ++ [V.str (tx (Rw.is true s2).text)]))) lr = some (.lst (rowV [.is false s1, .is true s2])) := upd_same
        have hk8 : (upd H7 lr (.lst (rowV [.is false s1] ++ [V.str (tx (Rw.is true s2).text)]))) lk = some (.lst (us ++ [.ref b])) := by rw [upd_ne n1]; exact hk7
        have hd8 : (upd H7 lr (.lst (rowV [.is false s1] ++ [V.str (tx (Rw.is true s2).text)]))) d = some (.dK kvs) := by rw [upd_ne n3.symm]; exact hd7
        have s8 : Same H (upd H7 lr (.lst (rowV [.is false s1] ++ [V.str (tx (Rw.is true s2).text)]))) := Same.mut s7 nlr0
        generalize upd H7 lr (.lst (rowV [.is false s1] ++ [V.str (tx (Rw.is true s2).text)])) = H8 at st8 hr8 hk8 hd8 s8
        have hkl : kvs.length = 1 := Paired.length hE5
        refine ⟨.ref d, rfl, d, _, rfl, DPut.k (k := Sum.inr "y") hd8 (szt (by omega)), ?_⟩
        have st9 : SameT H6 (upd H8 d (.dK (putK kvs (.inr "y") (.int 1)))) := fun c ys h => SameT.upd hd8 (fun xs z => by cases z) c ys (st8 _ _ (st7 _ _ h))
        refine ⟨rfl, Same.mut s8 nd0, [.is false s1, .is true s2], [.signs s1, .signs s2], [s1, s2], [(false, 0), (true, 1)], [(false, s1), (true, s2)], ⟨⟨us ++ [.ref b], ?_, ?_⟩, ?_, ⟨_, upd_same, ?_⟩, MdOf.two hne1 h41 hok1 hne2 h42' hok2⟩, (by show 2 ≤ 2; decide), fun k hk => ?_⟩
        · rw [upd_ne n2]
          exact hk8
        · have hp9 : Paired (KdA (upd H8 d (.dK (putK kvs (.inr "y") (.int 1))))) us [.signs s1] := Paired.mapP hP6 fun _ _ z => KdA.tups st9 z
          exact P_app hp9 (P_one ⟨b, rfl, st9 _ _ hb6⟩)
        · rw [upd_ne n3]
          exact hr8
        · exact DE.put (w := true) (a := 1) hE5 hm.ord.nd rfl
        · rcases List.mem_cons.mp hk with h | h
          · exact ⟨s1, h⟩
          · exact ⟨s2, List.mem_singleton.mp h⟩
      · rw [intn (show ¬ V.int (d3 / 12 % 2) = V.int 1 from fun e => hy (V.int.inj e))]
        exact iteF ⟨rfl, sC, _, _, _, _, _, M1, (by show 1 ≤ 2; decide), fun k hk => ⟨s1, List.mem_singleton.mp hk⟩⟩
    · rintro σ' H5 ⟨rfl, s5, rows0, ks0, xs0, names0, E0', M0, hk2, hsg⟩
      obtain ⟨⟨us0, hk5, hP5⟩, hr5, ⟨kvs0, hd5, hE5⟩, hm0⟩ := M0
      have hus0 : us0.length = ks0.length := Paired.length hP5
      have hxl0 := hm0.kt.len
      refine ⟨.ref lk, rfl, lk, rfl, ⟨us0, sqL hk5⟩, fun lz nlz => ?_⟩
      have sz := same_new (o := HO.lst []) nlz
      have nlz0 := s5.free nlz
      have p1 : lk ≠ lz := ne_of_none hk5 nlz
      have p2 : lr ≠ lz := ne_of_none hr5 nlz
      have p3 : d ≠ lz := ne_of_none hd5 nlz
      refine lc_list (K := K) (a := lk) (xs := us0) (fun i H' => Same H5 H' ∧ H' lz = some (.lst (nV ((lenN xs0).take i)))) ⟨sz, by rw [upd_same]; rfl⟩ (fun i H' _ ⟨s, _⟩ => sqL (s _ _ hk5)) (fun i x H' hi ⟨s6, hz6⟩ => ⟨rfl, ?_⟩) (fun H6 ⟨s6, hz6⟩ => ?_)
      · have hilt := get_lt hi
        obtain ⟨k, hki⟩ := get_at (l := ks0) (i := i) (by omega)
        obtain ⟨s, rfl⟩ := hsg k (List.mem_of_getElem? hki)
        obtain ⟨x', hx', hf⟩ := hm0.kt.get hki
        obtain ⟨rfl, _, h4s, _⟩ := hf
        obtain ⟨v, hv, b, rfl, hb⟩ := P_get hP5 hki
        rw [hi] at hv
        cases hv
        refine ⟨.ref b, rfl, b, _, 1, .str (tx x'), rfl, rfl, sqT (s6 _ _ hb), atI_nat (j := 1) rfl, tx x', rfl, szl (by rw [tx_len]; omega), _, hz6, szt (by rw [nV_len, List.length_take]; omega), Same.mut s6 nlz, ?_⟩
        rw [upd_same, take_snoc (lenN_get hx'), nV_app, tx_len]
        rfl
      · have hz6 : H6 lz = some (.lst (nV (lenN xs0))) := by
          rw [hz6]
          congr 2
          exact congrArg nV (List.take_of_length_le (by unfold lenN; rw [List.length_map]; omega))
        have hd6 := s6 _ _ hd5
        have hO2 := hm0.ord.len
        refine ⟨.ref d, rfl, .inr (.inr (.inl ⟨rfl, .inl ⟨_, hd6⟩⟩)), d, kvs0, rfl, rfl, hd6, fun v1 nv1 => ?_⟩
        have sv := same_new (o := keysO v1 d) nv1
        refine ⟨v1, d, kvs0, (names0.map (·.1)).map wd, rfl, upd_same, sv _ _ hd6, de_keys hE5, by rw [List.length_map, List.length_map]; omega, fun ys ls hperm hsort nls => ?_⟩
        have hys := ord_sorted hm0.ord hperm hsort
        subst hys
        have s7 := (s6.trans sv).trans (same_new (o := HO.lst (((names0.map (·.1)).map wd).map V.str)) nls)
        have hls7 : (upd (upd H6 v1 (keysO v1 d)) ls (.lst (((names0.map (·.1)).map wd).map V.str))) ls = some (.lst (((names0.map (·.1)).map wd).map V.str)) := upd_same
        have hz7 := (sv.trans (same_new (o := HO.lst (((names0.map (·.1)).map wd).map V.str)) nls)) _ _ hz6
        have p4 : lk ≠ ls := ne_of_none ((s6.trans sv) _ _ hk5) nls
        have p5 : lr ≠ ls := ne_of_none ((s6.trans sv) _ _ hr5) nls
        have p6 : d ≠ ls := ne_of_none ((s6.trans sv) _ _ hd5) nls
        have p7 : lz ≠ ls := ne_of_none (sv _ _ hz6) nls
        generalize upd (upd H6 v1 (keysO v1 d)) ls (.lst (((names0.map (·.1)).map wd).map V.str)) = H7 at s7 hls7 hz7
        have hl7 := s7 _ _ (s5 _ _ hl)
        refine ⟨.ref l, rfl, 4, rfl, l, _, rfl, sqL hl7, fun lc nlc => ?_⟩
        have ec : cutV (ds.map V.int) (some 4) none = (ds.map V.int).drop 4 := cut_from _ 4 (by rw [List.length_map]; omega)
        rw [ec, ← List.map_drop]
        have s8 := s7.trans (same_new (o := HO.lst ((ds.drop 4).map V.int)) nlc)
        have hlc8 : (upd H7 lc (.lst ((ds.drop 4).map V.int))) lc = some (.lst ((ds.drop 4).map V.int)) := upd_same
        have hls8 := same_new (o := HO.lst ((ds.drop 4).map V.int)) nlc _ _ hls7
        have hz8 := same_new (o := HO.lst ((ds.drop 4).map V.int)) nlc _ _ hz7
        have c1 : lk ≠ lc := ne_of_none (s7 _ _ hk5) nlc
        have c2 : lr ≠ lc := ne_of_none (s7 _ _ hr5) nlc
        have c3 : d ≠ lc := ne_of_none (s7 _ _ hd5) nlc
        have c4 : lz ≠ lc := ne_of_none hz7 nlc
        generalize upd H7 lc (.lst ((ds.drop 4).map V.int)) = H8 at s8 hlc8 hls8 hz8
        have M8 : MkS H8 lk lr d rows0 ks0 xs0 names0 E0' := MkS.mono s8 ⟨⟨us0, hk5, hP5⟩, hr5, ⟨kvs0, hd5, hE5⟩, hm0⟩
        have sH8 := s5.trans s8
        have hbs : 0 < (names0.map (·.1)).length := by
          rcases hm0.ord with h | h <;> (rw [h]; decide)
        refine ⟨lc, rfl, ⟨_, sqL hlc8⟩, for_list (K := K) (a := lc) (xs := (ds.drop 4).map V.int) (fun i σ' H' => ∃ (rows : List Rw) (ks : List Kd) (xs : List (List Nat)) (names : Env Nat) (E : Env (List Nat)) (y4 y7 y8 y9 y10 y11 : Option V), σ' = [some (.ref l), some (.ref lk), some (.ref lr), some (.ref d), y4, some (.ref lz), some (.ref ls), y7, y8, y9, y10, y11] ∧ Same H H' ∧ H' lc = some (.lst ((ds.drop 4).map V.int)) ∧ H' ls = some (.lst (((names0.map (·.1)).map wd).map V.str)) ∧ MkS H' lk lr d rows ks xs names E ∧ H' lz = some (.lst (nV (lenN xs))) ∧ ks.length ≤ 2 + i ∧ names.map (·.1) = names0.map (·.1))
          ⟨rows0, ks0, xs0, names0, E0', none, none, none, none, none, none, rfl, sH8, hlc8, hls8, M8, hz8, hk2, rfl⟩ (fun i σ' H' _ ⟨_, _, _, _, _, _, _, _, _, _, _, _, _, h, _⟩ => sqL h) ?_ ?_⟩
        · rintro i x σ' H' hi ⟨rows, ks, xs, names, E', y4, y7, y8, y9, y10, y11, rfl, sH, hlc, hls, M, hz, hkl, hnm⟩
          have hilt := get_lt hi
          rw [List.length_map, List.length_drop] at hilt
          obtain ⟨cell, hcell⟩ := get_at (l := ds.drop 4) (i := i) (by rw [List.length_drop]; exact hilt)
          rw [List.getElem?_map, hcell] at hi
          cases hi
          have hdr := hD cell (List.mem_of_mem_drop (List.mem_of_getElem? hcell))
          obtain ⟨wA, hwA, aA⟩ := pick (names0.map (·.1)) hbs (cell / 16)
          obtain ⟨wB, hwB, aB⟩ := pick (names0.map (·.1)) hbs (cell / 16 + (if cell / 128 % 4 < 1 then cell / 128 % 4 else 1))
          have hll : 0 < ((((names0.map (·.1)).map wd).map V.str).length : Int) := by
            rw [List.length_map, List.length_map]
            omega
          have vln : ∀ (σ : L2.St), σ[6]? = some (some (.ref ls)) → Val (fun σ H Q => (tCons (tVar 6) tNil) σ H fun xs H1 => ∃ (p : Addr) (ys : List V), xs = [.ref p] ∧ (SqL K H1 p ys ∨ SqT K H1 p ys) ∧ Q (.int (ys.length : Int)) H1) σ H' (.int ((((names0.map (·.1)).map wd).map V.str).length : Int)) := fun σ h Q q => ⟨.ref ls, h, ls, _, rfl, .inl (sqL hls), q⟩
          have vmn : ∀ (σ : L2.St), σ[7]? = some (some (.int cell)) → Val (fun σ H Q => (tCons (tC (.int 1)) (tCons (tOp (rI (fun _ j => 0 < j) fun i j => .int (i % j)) (tOp (rI CDivW fun i j => .int (i / j)) (tVar 7) (tC (.int 128))) (tC (.int 4))) tNil)) σ H fun xs H1 => ∃ i j, xs = [.int i, .int j] ∧ Q (.int (if j < i then j else i)) H1) σ H' (.int (if cell / 128 % 4 < 1 then cell / 128 % 4 else 1)) := fun σ h Q q => v_mod (v_div (vx 7 h) vc (cd _)) vc (by decide) _ ⟨_, _, rfl, q⟩
          refine v_ixL (vx 6) (v_mod (v_div (vx 7) vc (cd _)) (vln _ rfl) hll) (sqL hls) aA _ ?_
          refine v_ixL (vx 6) (v_mod (v_add (v_div (vx 7) vc (cd _)) (vmn _ rfl)) (vln _ rfl) hll) (sqL hls) aB _ ?_
          obtain ⟨⟨us, hk, hP⟩, hr, ⟨kvs, hd, hE⟩, hm⟩ := M
          have hxl := hm.kt.len
          have hul : us.length = ks.length := Paired.length hP
          have hkv : kvs.length ≤ 2 := by
            rw [Paired.length hE]
            exact hm.ord.len
          rw [← hnm] at hwA hwB
          obtain ⟨nA, gA⟩ := mem_get hwA
          obtain ⟨nB, gB⟩ := mem_get hwB
          obtain ⟨xA, eA, fA⟩ := env_get hm.env gA
          obtain ⟨xB, eB, fB⟩ := env_get hm.env gB
          have h60 : 2 ^ (xs.length + 1) ≤ 2 ^ 60 := Nat.pow_le_pow_right (by decide) (by omega)
          have lA := Nat.le_trans (hm.kt.short xA (List.mem_of_getElem? fA)) h60
          have lB := Nat.le_trans (hm.kt.short xB (List.mem_of_getElem? fB)) h60
          refine ⟨.int cell, rfl, .str (wd wA), rfl, .str (wd wB), rfl, .ref d, rfl, .ref lz, rfl, cell, wA, wB, d, lz, kvs, names, xs, nA, nB, xA, xB, ?_, hdr, hd, hE, hz, gA, fA, gB, fB, lA, lB, fun a b H2 r k x s2 ha hb hnew hfine hfit htxt => ?_⟩
          · show [V.int cell, .str (wd wA), .str (wd wB), .ref d, .ref lz] = _
            rw [wd_tx wA, wd_tx wB]
          refine ⟨a, _, rfl, sqT ha, rfl, _, _, rfl, _, _, rfl, _, _, rfl, rfl, ?_⟩
          have hr2 := s2 _ _ hr
          have hk2' := s2 _ _ hk
          have hz2 := s2 _ _ hz
          have hd2 := s2 _ _ hd
          have hrl : (rowV rows).length = ks.length := by rw [List.length_map, hm.len]
          refine ⟨.ref lr, rfl, .inl ⟨rfl, _, sqL hr2⟩, .str (tx r.text), rfl, lr, _, _, rfl, rfl, hr2, szt (by omega), ?_⟩
          have b3 : But lr H2 (upd H2 lr (.lst (rowV rows ++ [V.str (tx r.text)]))) := But.upd
          have st3 : SameT H2 (upd H2 lr (.lst (rowV rows ++ [V.str (tx r.text)]))) := SameT.upd hr2 (fun xs z => by cases z)
          have hr3' : (upd H2 lr (.lst (rowV rows ++ [V.str (tx r.text)]))) lr = some (.lst (rowV (rows ++ [r]))) := by
            rw [upd_same]
            unfold rowV
            rw [List.map_append]
            rfl
          have s3 : Same H (upd H2 lr (.lst (rowV rows ++ [V.str (tx r.text)]))) := Same.mut (sH.trans s2) nlr0
          generalize upd H2 lr (.lst (rowV rows ++ [V.str (tx r.text)])) = H3' at b3 st3 hr3' s3
          have hk3' := b3 _ _ n1 hk2'
          refine ⟨.ref lk, rfl, .inl ⟨rfl, _, sqL hk3'⟩, .ref b, rfl, lk, _, _, rfl, rfl, hk3', szt (by omega), ?_⟩
          have b4 : But lk H3' (upd H3' lk (.lst (us ++ [.ref b]))) := But.upd
          have st4 : SameT H3' (upd H3' lk (.lst (us ++ [.ref b]))) := SameT.upd hk3' (fun xs z => by cases z)
          have hk4' : (upd H3' lk (.lst (us ++ [.ref b]))) lk = some (.lst (us ++ [.ref b])) := upd_same
          have s4 : Same H (upd H3' lk (.lst (us ++ [.ref b]))) := Same.mut s3 nlk0
          generalize upd H3' lk (.lst (us ++ [.ref b])) = H4' at b4 st4 hk4' s4
          have hz4 := b4 _ _ p1.symm (b3 _ _ p2.symm hz2)
          refine ⟨.ref lz, rfl, .inl ⟨rfl, _, sqL hz4⟩, .int (x.length : Int), rfl, lz, _, _, rfl, rfl, hz4, szt (by rw [nV_len]; unfold lenN; rw [List.length_map]; omega), ?_⟩
          have b5 : But lz H4' (upd H4' lz (.lst (nV (lenN xs) ++ [.int (x.length : Int)]))) := But.upd
          have st5 : SameT H4' (upd H4' lz (.lst (nV (lenN xs) ++ [.int (x.length : Int)]))) := SameT.upd hz4 (fun xs z => by cases z)
          have hz5 : (upd H4' lz (.lst (nV (lenN xs) ++ [.int (x.length : Int)]))) lz = some (.lst (nV (lenN (xs ++ [x])))) := by
            rw [upd_same]
            unfold lenN
            rw [List.map_append, nV_app]
            rfl
          have s5' : Same H (upd H4' lz (.lst (nV (lenN xs) ++ [.int (x.length : Int)]))) := Same.mut s4 nlz0
          generalize upd H4' lz (.lst (nV (lenN xs) ++ [.int (x.length : Int)])) = H5' at b5 st5 hz5 s5'
          have hk5' := b5 _ _ p1 hk4'
          have hr5' := b5 _ _ p2 (b4 _ _ n1.symm hr3')
          have hd5' := b5 _ _ p3 (b4 _ _ n2.symm (b3 _ _ n3.symm hd2))
          have hul1 : ((us ++ [V.ref b]).length : Int) - 1 = (ks.length : Int) := by
            rw [List.length_append, hul, List.length_singleton]
            omega
          refine ⟨.ref lk, rfl, lk, _, rfl, .inl (sqL hk5'), _, _, rfl, rfl, .ref d, rfl, .str (wd wA), rfl, d, _, rfl, DPut.k (k := Sum.inr (wd wA)) hd5' (szt (by omega)), ?_⟩
          have b6 : But d H5' (upd H5' d (.dK (putK kvs (.inr (wd wA)) (.int (((us ++ [V.ref b]).length : Int) - 1))))) := But.upd
          have st6 : SameT H5' (upd H5' d (.dK (putK kvs (.inr (wd wA)) (.int (((us ++ [V.ref b]).length : Int) - 1))))) := SameT.upd hd5' (fun xs z => by cases z)
          have stA : SameT H2 (upd H5' d (.dK (putK kvs (.inr (wd wA)) (.int (((us ++ [V.ref b]).length : Int) - 1))))) := fun c ys h => st6 _ _ (st5 _ _ (st4 _ _ (st3 _ _ h)))
          have hoN : (putE names wA ks.length).map (·.1) = names.map (·.1) := by
            rw [putE_keys, if_pos hwA]
          subst hnew
          refine ⟨rows ++ [r], ks ++ [k], xs ++ [x], putE names r.new ks.length, putE E' r.new x, some (.ref b), _, _, _, _, _, rfl, Same.mut s5' nd0, ?_, ?_, ⟨⟨us ++ [.ref b], b6 _ _ n2 hk5', ?_⟩, b6 _ _ n3 hr5', ⟨_, upd_same, ?_⟩, hm.put hfine hfit (htxt E' eA eB) ?_⟩, b6 _ _ p3.symm hz5, by rw [List.length_append, List.length_singleton]; omega, by rw [hoN, hnm]⟩
          · exact b6 _ _ c3.symm (b5 _ _ c4.symm (b4 _ _ c1.symm (b3 _ _ c2.symm (s2 _ _ hlc))))
          · exact b6 _ _ p6.symm (b5 _ _ p7.symm (b4 _ _ p4.symm (b3 _ _ p5.symm (s2 _ _ hls))))
          · have hp9 : Paired (KdA (upd H5' d (.dK (putK kvs (.inr (wd r.new)) (.int (((us ++ [V.ref b]).length : Int) - 1)))))) us ks := Paired.mapP hP fun _ _ z => KdA.tups stA (z.mono s2)
            exact P_app hp9 (P_one ⟨b, rfl, stA _ _ hb⟩)
          · exact DE.put hE hm.ord.nd (congrArg V.int hul1)
          · unfold Ordd
            rw [hoN]
            exact hm.ord
        · rintro σ' H' ⟨rows, ks, xs, names, E', y4, y7, y8, y9, y10, y11, rfl, sH, hlc, hls, M, hz, hkl, hnm⟩
          rw [List.length_map, List.length_drop] at hkl
          refine ⟨.ref lr, rfl, .ref lk, rfl, .ref lz, rfl, .ref d, rfl, by show 4 ≤ sizeLine; decide, fun a9 na9 => ?_⟩
          have s9 := same_new (o := HO.tup [V.ref lr, .ref lk, .ref lz, .ref d]) na9
          exact q a9 lr lk lz d _ rows ks xs names E' (sH.trans s9) upd_same (M.mono s9) (s9 _ _ hz) (by have := M.m.len; omega)
end
end Sb
set_option Elab.async false
set_option linter.all false
set_option maxRecDepth 100000
set_option maxHeartbeats 4000000
set_option pp.maxSteps 300
/-! What the law asks of rules. -/
namespace Sb
open PySem PySem.Spec PyProof.Rows L2
section
variable {K : PySem.W.Frag} {σ : L2.St} {H : Hp} {ta tb tc te : TE} {i j k : Int} {b : Bool} {x : V}
theorem a_val (h : Val te σ H (.bl b)) : Ans (tB te) σ H b := fun _ q => h _ ⟨b, rfl, q⟩
theorem a_valT (h : Val te σ H (.bl b)) : Ans (tTest te) σ H b := fun _ q => h _ ⟨b, rfl, q⟩
theorem a_le (ha : Val ta σ H (.int i)) (hb : Val tb σ H (.int j)) (hd : decide (i ≤ j) = b) : Ans (tTest (tOp (rI0 fun i j => .bl (decide (i ≤ j))) ta tb)) σ H b := fun Q q => v_i0 ha hb _ ⟨_, rfl, by rw [hd]; exact q⟩
theorem v_lt (ha : Val ta σ H (.int i)) (hb : Val tb σ H (.int j)) (h : decide (i < j) = b) : Val (tOp (rI0 fun i j => .bl (decide (i < j))) ta tb) σ H (.bl b) := fun Q q => v_i0 ha hb _ (by rw [h]; exact q)
theorem v_le (ha : Val ta σ H (.int i)) (hb : Val tb σ H (.int j)) (h : decide (i ≤ j) = b) : Val (tOp (rI0 fun i j => .bl (decide (i ≤ j))) ta tb) σ H (.bl b) := fun Q q => v_i0 ha hb _ (by rw [h]; exact q)
theorem v_eq {y : V} (ha : Val ta σ H x) (hb : Val tb σ H y) (hs : scal x y = true) (hd : decide (x = y) = b) : Val (tOp rEq ta tb) σ H (.bl b) := v_op ha hb fun _ q => ⟨hs, by rw [hd]; exact q⟩
theorem v_chain {op : Int → Int → Prop} [∀ i j, Decidable (op i j)] {op' : Int → Int → Prop} [∀ i j, Decidable (op' i j)] (ha : Val ta σ H (.int i)) (hb : Val tb σ H (.int j)) (hc : Val tc σ H (.int k)) (h1 : op i j) (h2 : op' j k) :
    Val (tChain (rI0 fun i j => .bl (decide (op i j))) (rI0 fun i j => .bl (decide (op' i j))) ta tb tc) σ H (.bl true) := fun Q q =>
  ha _ (hb _ ⟨i, j, rfl, rfl, _, rfl, by rw [intd h1]; exact iteT (hc _ ⟨j, k, rfl, rfl, by show Q (.bl (decide (op' j k))) H; rw [intd h2]; exact q⟩)⟩)
theorem a_notT {c : TT} (h : Ans c σ H true) : Ans (tNot c) σ H false := fun _ q => h _ q
theorem a_notF {c : TT} (h : Ans c σ H false) : Ans (tNot c) σ H true := fun _ q => h _ q
theorem v_isi {n t : String} (ha : Val ta σ H x) (ty : TyX K H x (.type t)) (h : kitB t n = some b) : Val (tCB (rIsi K) (tCons ta (tCons (tC (.ty n)) tNil))) σ H (.bl b) :=
  fun Q q => ha _ ⟨x, .ty n, .type t, .type n, b, rfl, .ty _, ty, kit_ty h, q⟩
theorem v_len {a : Addr} {xs : List V} (ha : Val ta σ H (.ref a)) (h : SqL K H a xs ∨ SqT K H a xs) : Val (tCB (fun xs H Q => ∃ p ys, xs = [.ref p] ∧ (SqL K H p ys ∨ SqT K H p ys) ∧ Q (.int (ys.length : Int)) H) (tCons ta tNil)) σ H (.int (xs.length : Int)) := fun Q q => ha _ ⟨a, _, rfl, h, q⟩
theorem v_p60 (ha : Val ta σ H (.int 2)) (hb : Val tb σ H (.int 60)) : Val (tOp (rI CPow fun i j => .int (i ^ j.toNat)) ta tb) σ H (.int (2 ^ 60)) := v_op ha hb fun _ q => ⟨2, 60, rfl, rfl, ⟨by decide, by decide, by decide⟩, q⟩
theorem tyT {a : Addr} {xs : List V} (h : H a = some (.tup xs)) : TyX K H (.ref a) (.type "tuple") := .base (.tup h)
theorem tyL {a : Addr} {xs : List V} (h : H a = some (.lst xs)) : TyX K H (.ref a) (.type "list") := .base (.lst h)
end
section
variable {P : Program} {w : World} {K : PySem.W.Frag} {mg : Str → Option Value} {base : Heap}
def sp_Lwhole : Sp := fun vs H Q _ => ∃ i : Int, vs = [.int i] ∧ Q (.bl true) H
theorem ok_Lwhole (T : Hd K mg) : Own P w K mg base "_law_whole" ["_law_found"] 1 sp_Lwhole := by
  refine own_mk T.d_Lwhole sc_Lwhole (fun vs H Q E h => ?_) (fun _ _ _ _ _ _ us hl => match us, hl with | [_], _ => rfl) (fun fa cdv A outer s H vs Q E hr h => ⟨_, (pss_one (ps_ret (pe_and (pe_callB call_isi (by rfl) T.z_isinstance (by decide +kernel) (pa_cons (pv 0) (pa_cons (pe_bltn (v := .ty "int") (by rfl) T.z_int (by decide +kernel) rfl) pa_nil))) (pe_one (pe_not (pe_callB call_isi (by rfl) T.z_isinstance (by decide +kernel) (pa_cons (pv 0) (pa_cons (pe_bltn (v := .ty "bool") (by rfl) T.z_bool (by decide +kernel) rfl) pa_nil)))))))), ?_⟩)
  · obtain ⟨i, rfl, _⟩ := h
    rfl
  · obtain ⟨i, rfl, q⟩ := h
    exact v_isi (K := K) (vx 0) (.base (.int i)) (by decide +kernel) _ ⟨true, rfl, iteT (v_isi (K := K) (vx 0) (.base (.int i)) (by decide +kernel) _ ⟨false, rfl, q⟩)⟩
theorem v_whole {σ : L2.St} {H : Hp} {ta : TE} {i : Int} (h : Val ta σ H (.int i)) : Val (tCall sp_Lwhole [] E0 (tCons ta tNil)) σ H (.bl true) := fun _ q => h _ ⟨i, rfl, q⟩
def GoodR (n : Nat) : Rl → Prop
  | .sg c => OkC c
  | .jn i j => i < n ∧ j < n
  | .tm i m => i < n ∧ m = 2
theorem okc_low {c : Nat} (h : OkC c) : c < 128 := by
  unfold OkC at h
  omega
theorem okc_is : ∀ c, c < 128 → ((48 ≤ c ∧ c ≤ 57) ∨ (65 ≤ c ∧ c ≤ 90) ∨ (97 ≤ c ∧ c ≤ 122)) → (Txt.isalpha ⟨#[c]⟩ || Txt.isdigit ⟨#[c]⟩) = true := by decide +kernel
def sp_Lgood_rule : Sp := fun vs H Q _ => ∃ (v : V) (r : Rl) (n : Nat), vs = [v, .int (n : Int)] ∧ RuA H v r ∧ GoodR n r ∧ Q (.bl true) H
theorem ok_Lgood_rule (T : Hd K mg) : Own P w K mg base "_law_good_rule" ["_law_rule", "_law_k"] 2 sp_Lgood_rule := by
  refine own_mk T.d_Lgood_rule sc_Lgood_rule (fun vs H Q E h => ?_) (fun _ _ _ _ _ _ us hl => match us, hl with | [_, _], _ => rfl) (fun fa cdv A outer s H vs Q E hr h => ⟨_, (pss_cons (ps_if (PW.pt (pw_or (pt_not (pt_val (pe_callB call_isi (by rfl) T.z_isinstance (by decide +kernel) (pa_cons (pv 0) (pa_cons (pe_bltn (v := .ty "tuple") (by rfl) T.z_tuple (by decide +kernel) rfl) pa_nil))))) (pw_or (pt_cmpR op_lt (pe_callB call_len_seq (by rfl) T.z_len (by decide +kernel) (pa_cons (pv 0) pa_nil)) pe_int (nomark _)) (pw_or1 (pt_not (pt_val (pe_callB call_isi (by rfl) T.z_isinstance (by decide +kernel) (pa_cons (pe_ix ix_tup (pv 0) pe_int (fun _ _ => rfl)) (pa_cons (pe_bltn (v := .ty "str") (by rfl) T.z_str (by decide +kernel) rfl) pa_nil))))))))) (pss_one (ps_ret pe_bl)) pss_nil)
      (pss_cons (ps_if (PW.pt (pw_and (pt_cmpR op_eq (pe_ix ix_tup (pv 0) pe_int (fun _ _ => rfl)) pe_str (nomark _)) (pw_and1 (pt_cmpR op_eq (pe_callB call_len_seq (by rfl) T.z_len (by decide +kernel) (pa_cons (pv 0) pa_nil)) pe_int (nomark _))))) (pss_one (ps_ret (pe_and (pe_callB call_isi (by rfl) T.z_isinstance (by decide +kernel) (pa_cons (pe_ix ix_tup (pv 0) pe_int (fun _ _ => rfl)) (pa_cons (pe_bltn (v := .ty "str") (by rfl) T.z_str (by decide +kernel) rfl) pa_nil))) (pe_and (pe_cmpR op_eq (pe_callB call_len_str (by rfl) T.z_len (by decide +kernel) (pa_cons (pe_ix ix_tup (pv 0) pe_int (fun _ _ => rfl)) pa_nil)) pe_int (nomark _)) (pe_one (pe_or (pe_m0 PySem.F.slot_str_isalpha PySem.F.type_str_isalpha mt_isalpha (pe_ix ix_tup (pv 0) pe_int (fun _ _ => rfl))) (pe_one (pe_m0 PySem.F.slot_str_isdigit PySem.F.type_str_isdigit mt_isdigit (pe_ix ix_tup (pv 0) pe_int (fun _ _ => rfl)))))))))) pss_nil)
      (pss_cons (ps_if (PW.pt (pw_or (pt_cmpR op_ne (pe_callB call_len_seq (by rfl) T.z_len (by decide +kernel) (pa_cons (pv 0) pa_nil)) pe_int (nomark _)) (pw_or (pt_not (pt_val (pe_own (ok_Lwhole T) (hr.mono (by decide)) (by rfl) (pa_cons (pe_ix ix_tup (pv 0) pe_int (fun _ _ => rfl)) pa_nil)))) (pw_or (pt_not (pt_chain op_le op_lt pe_int (pe_ix ix_tup (pv 0) pe_int (fun _ _ => rfl)) (pv 1))) (pw_or1 (pt_not (pt_val (pe_own (ok_Lwhole T) (hr.mono (by decide)) (by rfl) (pa_cons (pe_ix ix_tup (pv 0) pe_int (fun _ _ => rfl)) pa_nil))))))))) (pss_one (ps_ret pe_bl)) pss_nil)
      (pss_cons (ps_if (pt_cmpR op_eq (pe_ix ix_tup (pv 0) pe_int (fun _ _ => rfl)) pe_str (nomark _)) (pss_one (ps_ret (pe_chain op_le op_lt pe_int (pe_ix ix_tup (pv 0) pe_int (fun _ _ => rfl)) (pv 1)))) pss_nil)
      (pss_one (ps_ret (pe_and (pe_cmpR op_eq (pe_ix ix_tup (pv 0) pe_int (fun _ _ => rfl)) pe_str (nomark _)) (pe_one (pe_chain op_le op_le pe_int (pe_ix ix_tup (pv 0) pe_int (fun _ _ => rfl)) (pe_op op_pow pe_int pe_int)))))))))), ?_⟩)
  · obtain ⟨v, r, n, rfl, _⟩ := h
    rfl
  · obtain ⟨v, r, n, rfl, ⟨a, rfl, ha⟩, hg, q⟩ := h
    have x0 : ∀ z, (rlV r)[0]? = some z → Val (tOp (rIxT K) (tVar 0) (tC (.int 0))) (start ["_law_rule", "_law_k"] [V.ref a, .int (n : Int)]) H z := fun z h => v_ixT (vx 0) vc (sqT ha) (atI_nat (j := 0) h)
    have x1 : ∀ z, (rlV r)[1]? = some z → Val (tOp (rIxT K) (tVar 0) (tC (.int 1))) (start ["_law_rule", "_law_k"] [V.ref a, .int (n : Int)]) H z := fun z h => v_ixT (vx 0) vc (sqT ha) (atI_nat (j := 1) h)
    have x2 : ∀ z, (rlV r)[2]? = some z → Val (tOp (rIxT K) (tVar 0) (tC (.int 2))) (start ["_law_rule", "_law_k"] [V.ref a, .int (n : Int)]) H z := fun z h => v_ixT (vx 0) vc (sqT ha) (atI_nat (j := 2) h)
    have xl : Val (tCB (fun xs H Q => ∃ p ys, xs = [.ref p] ∧ (SqL K H p ys ∨ SqT K H p ys) ∧ Q (.int (ys.length : Int)) H) (tCons (tVar 0) tNil)) (start ["_law_rule", "_law_k"] [V.ref a, .int (n : Int)]) H (.int ((rlV r).length : Int)) := v_len (vx 0) (.inr (sqT ha))
    cases r with
    | sg c =>
      refine s_no (a_or (a_notT (a_val (v_isi (K := K) (vx 0) (tyT ha) (by decide +kernel)))) (a_or (a_lt xl vc rfl) (a_notT (a_val (v_isi (K := K) (x0 _ rfl) (.base (.str _)) (by decide +kernel)))))) ?_
      refine s_yes (a_and (a_eq (x0 _ rfl) vc rfl (by decide +kernel)) (a_eq xl vc rfl rfl)) ?_
      refine v_isi (K := K) (x1 _ rfl) (.base (.str _)) (by decide +kernel) _ ⟨true, rfl, iteT ?_⟩
      refine x1 _ rfl _ ⟨ch c, rfl, szl (by show 1 ≤ 200000; decide), rfl, true, congrArg V.bl (intd rfl), iteT ?_⟩
      refine x1 _ rfl _ ⟨⟨_, rfl⟩, ch c, rfl, rfl, trivial, Txt.isalpha (ch c), rfl, ?_⟩
      have hc := okc_is c (okc_low hg) hg
      cases hA : Txt.isalpha (ch c) with
      | true => exact iteT q
      | false =>
        refine iteF (x1 _ rfl _ ⟨⟨_, rfl⟩, ch c, rfl, rfl, trivial, ?_⟩)
        have hB : Txt.isdigit (ch c) = true := by
          rw [show Txt.isalpha ⟨#[c]⟩ = false from hA, Bool.false_or] at hc
          exact hc
        rw [hB]
        exact q
    | jn i j =>
      obtain ⟨hi, hj⟩ := hg
      refine s_no (a_or (a_notT (a_val (v_isi (K := K) (vx 0) (tyT ha) (by decide +kernel)))) (a_or (a_lt xl vc rfl) (a_notT (a_val (v_isi (K := K) (x0 _ rfl) (.base (.str _)) (by decide +kernel)))))) ?_
      refine s_no (a_andF (a_eq (x0 _ rfl) vc rfl (by decide +kernel))) ?_
      refine s_no (a_or (a_ne xl vc rfl rfl) (a_or (a_notT (a_val (v_whole (x1 _ rfl)))) (a_or (a_notT (a_valT (v_chain vc (x1 _ rfl) (vx 1) (by omega) (by omega)))) (a_notT (a_val (v_whole (x2 _ rfl))))))) ?_
      refine s_yes (a_eq (x0 _ rfl) vc rfl (by decide +kernel)) ?_
      exact v_chain vc (x2 _ rfl) (vx 1) (by omega) (by omega) _ q
    | tm i m =>
      obtain ⟨hi, rfl⟩ := hg
      refine s_no (a_or (a_notT (a_val (v_isi (K := K) (vx 0) (tyT ha) (by decide +kernel)))) (a_or (a_lt xl vc rfl) (a_notT (a_val (v_isi (K := K) (x0 _ rfl) (.base (.str _)) (by decide +kernel)))))) ?_
      refine s_no (a_andF (a_eq (x0 _ rfl) vc rfl (by decide +kernel))) ?_
      refine s_no (a_or (a_ne xl vc rfl rfl) (a_or (a_notT (a_val (v_whole (x1 _ rfl)))) (a_or (a_notT (a_valT (v_chain vc (x1 _ rfl) (vx 1) (by omega) (by omega)))) (a_notT (a_val (v_whole (x2 _ rfl))))))) ?_
      refine s_no (a_eq (x0 _ rfl) vc rfl (by decide +kernel)) ?_
      refine v_eq (x0 _ rfl) vc rfl (by decide +kernel) _ ⟨true, rfl, iteT ?_⟩
      exact v_chain vc (x2 _ rfl) (v_p60 vc vc) (by decide) (by decide) _ q
end
end Sb
set_option Elab.async false
set_option linter.all false
set_option maxRecDepth 100000
set_option maxHeartbeats 4000000
set_option pp.maxSteps 300
/-! What the law reads out of a telling. -/
namespace Sb
open PySem PySem.Spec PyProof.Rows L2
section
variable {P : Program} {w : World} {K : PySem.W.Frag} {mg : Str → Option Value} {base : Heap}
def sp_Llengths : Sp := fun vs H Q _ => ∃ (v : V) (rs : List Rl) (ts : List Tr), vs = [v] ∧ RsT H v rs ∧ RT rs ts ∧ rs.length ≤ 20000 ∧ ∀ (p : Addr) (H' : Hp), Same H H' → H' p = some (.lst (nV (lens ts))) → Q (.ref p) H'
theorem ok_Llengths (T : Hd K mg) : Own P w K mg base "_law_lengths" ["_law_rules"] 1 sp_Llengths := by
  refine own_mk T.d_Llengths sc_Llengths (fun vs H Q E h => ?_) (fun _ _ _ _ _ _ us hl => match us, hl with | [_], _ => rfl) (fun fa cdv A outer s H vs Q E hr h => ⟨_, (pss_cons (ps_set (i := 1) sc_Llengths.nd rfl (Or.inl rfl) (pe_lst pa_nil))
      (pss_cons (ps_for PassesOwn.never rfl (pi_tup (pv 0)) (pg_name (i := 2) sc_Llengths.nd rfl (Or.inl rfl)) (pss_cons (ps_set (i := 3) sc_Llengths.nd rfl (Or.inl rfl) pe_int)
      (pss_cons (ps_if (pt_cmpR op_eq (pe_ix ix_tup (pv 2) pe_int (fun _ _ => rfl)) pe_str (nomark _)) (pss_one (ps_set (i := 3) sc_Llengths.nd rfl (Or.inl rfl) (pe_op op_add (pe_ix ix_list (pv 1) (pe_ix ix_tup (pv 2) pe_int (fun _ _ => rfl)) (fun _ _ => rfl)) (pe_ix ix_list (pv 1) (pe_ix ix_tup (pv 2) pe_int (fun _ _ => rfl)) (fun _ _ => rfl))))) (pss_one (ps_if (pt_cmpR op_eq (pe_ix ix_tup (pv 2) pe_int (fun _ _ => rfl)) pe_str (nomark _)) (pss_one (ps_set (i := 3) sc_Llengths.nd rfl (Or.inl rfl) (pe_op op_mul (pe_ix ix_list (pv 1) (pe_ix ix_tup (pv 2) pe_int (fun _ _ => rfl)) (fun _ _ => rfl)) (pe_ix ix_tup (pv 2) pe_int (fun _ _ => rfl))))) pss_nil)))
      (pss_one (ps_expr (pe_bm PySem.F.plainAttrs_list PySem.F.slot_list_append PySem.F.type_list_append mt_append (pv 1) (pa_cons (pv 3) pa_nil)))))))
      (pss_one (ps_ret (pv 1))))), ?_⟩)
  · obtain ⟨v, rs, ts, rfl, _⟩ := h
    rfl
  · obtain ⟨v, rs, ts, rfl, ⟨a, us, rfl, ha, hr⟩, hT, hz, q⟩ := h
    have hul : us.length = rs.length := Paired.length hr
    have hrl := hT.len
    refine ⟨by show 0 ≤ sizeLine; decide, fun p np => ?_⟩
    have sp := same_new (o := HO.lst []) np
    refine ⟨.ref a, rfl, a, rfl, ⟨us, sqT (sp _ _ ha)⟩, for_tup (K := K) (a := a) (xs := us) (fun i σ H' => ∃ y2 y3, σ = [some (.ref a), some (.ref p), y2, y3] ∧ Same H H' ∧ H' p = some (.lst (nV (lens (ts.take i)))))
      ⟨none, none, rfl, sp, upd_same⟩ (fun i σ H' _ ⟨_, _, _, s, _⟩ => sqT (s _ _ ha)) ?_ ?_⟩
    · rintro i x σ H' hi ⟨y2, y3, rfl, sH, hp⟩
      have hilt : i < us.length := get_lt hi
      obtain ⟨r, hri⟩ := get_at (l := rs) (i := i) (by omega)
      obtain ⟨v, hv, b, rfl, hb⟩ := P_get hr hri
      rw [hi] at hv
      cases hv
      obtain ⟨t, ht, hf⟩ := hT.get hri
      have hbH := sH _ _ hb
      have hln : (nV (lens (ts.take i))).length = i := by
        rw [nV_len]
        unfold lens
        rw [List.length_map, List.length_take]
        omega
      have at_ : ∀ {j : Nat} {u : Tr}, (ts.take i)[j]? = some u → atI (nV (lens (ts.take i))) (j : Int) = some (.int ((u.len : Nat) : Int)) := fun h => at_nV (lens_get h)
      have done : ∀ z : Int, z = ((t.len : Nat) : Int) → ∃ y2' y3', ([some (V.ref a), some (V.ref p), some (V.ref b), some (V.int z)] : L2.St) = [some (.ref a), some (.ref p), y2', y3'] ∧ Same H (upd H' p (.lst (nV (lens (ts.take i)) ++ [.int z]))) ∧ (upd H' p (.lst (nV (lens (ts.take i)) ++ [.int z]))) p = some (.lst (nV (lens (ts.take (i + 1))))) := fun z hz => by
        refine ⟨_, _, rfl, Same.mut sH np, ?_⟩
        rw [upd_same, hz, take_snoc ht]
        unfold lens
        rw [List.map_append, nV_app]
        rfl
      have x0 : ∀ (σ : L2.St) (z : V), σ[2]? = some (some (.ref b)) → (rlV r)[0]? = some z → Val (tOp (rIxT K) (tVar 2) (tC (.int 0))) σ H' z := fun σ z h1 h => v_ixT (vx 2 h1) vc (sqT hbH) (atI_nat (j := 0) h)
      have x1 : ∀ (σ : L2.St) (z : V), σ[2]? = some (some (.ref b)) → (rlV r)[1]? = some z → Val (tOp (rIxT K) (tVar 2) (tC (.int 1))) σ H' z := fun σ z h1 h => v_ixT (vx 2 h1) vc (sqT hbH) (atI_nat (j := 1) h)
      have x2 : ∀ (σ : L2.St) (z : V), σ[2]? = some (some (.ref b)) → (rlV r)[2]? = some z → Val (tOp (rIxT K) (tVar 2) (tC (.int 2))) σ H' z := fun σ z h1 h => v_ixT (vx 2 h1) vc (sqT hbH) (atI_nat (j := 2) h)
      have app : ∀ (σ : L2.St) (z : Int), σ = [some (V.ref a), some (V.ref p), some (V.ref b), some (V.int z)] → z = ((t.len : Nat) : Int) → σ[1]? = some (some (.ref p)) ∧ σ[3]? = some (some (.int z)) := fun σ z h _ => by
        subst h
        exact ⟨rfl, rfl⟩
      cases r with
      | sg c =>
        have et : t = .sg c := hf.2
        refine s_no (a_eq (x0 _ _ rfl rfl) vc rfl (by decide +kernel)) ?_
        refine s_no (a_eq (x0 _ _ rfl rfl) vc rfl (by decide +kernel)) ?_
        refine ⟨.ref p, rfl, .inl ⟨rfl, _, sqL hp⟩, .int 1, rfl, p, _, _, rfl, rfl, hp, szt (by omega), ?_⟩
        exact done 1 (by rw [et]; rfl)
      | jn j k =>
        obtain ⟨u, v, hu, hv, rfl⟩ := hf
        refine s_yes (a_eq (x0 _ _ rfl rfl) vc rfl (by decide +kernel)) ?_
        refine v_add (v_ixL (vx 1) (x1 _ _ rfl rfl) (sqL hp) (at_ hu)) (v_ixL (vx 1) (x2 _ _ rfl rfl) (sqL hp) (at_ hv)) _ ?_
        refine ⟨.ref p, rfl, .inl ⟨rfl, _, sqL hp⟩, _, rfl, p, _, _, rfl, rfl, hp, szt (by omega), ?_⟩
        exact done _ (by rw [Tr.len_jn]; omega)
      | tm j m =>
        obtain ⟨u, rfl, hu, rfl⟩ := hf
        refine s_no (a_eq (x0 _ _ rfl rfl) vc rfl (by decide +kernel)) ?_
        refine s_yes (a_eq (x0 _ _ rfl rfl) vc rfl (by decide +kernel)) ?_
        refine v_i (C := CMul) (g := fun i j => .int (i * j)) (v_ixL (vx 1) (x1 _ _ rfl rfl) (sqL hp) (at_ hu)) (x2 _ _ rfl rfl) (.inr (by decide)) _ ?_
        refine ⟨.ref p, rfl, .inl ⟨rfl, _, sqL hp⟩, _, rfl, p, _, _, rfl, rfl, hp, szt (by omega), ?_⟩
        exact done _ (by rw [Tr.len_db]; show (u.len : Int) * 2 = _; omega)
    · rintro σ H' ⟨y2, y3, rfl, sH, hp⟩
      rw [hul, hrl, List.take_length] at hp
      exact ⟨.ref p, rfl, q p H' sH hp⟩
def sp_Llength : Sp := fun vs H Q _ => ∃ (l : Addr) (ns : List Nat) (n z : Nat), vs = [.ref l, .int (n : Int)] ∧ H l = some (.lst (nV ns)) ∧ ns[n]? = some z ∧ Q (.int (z : Int)) H
theorem ok_Llength (T : Hd K mg) : Own P w K mg base "_law_length" ["_law_sizes", "_law_name"] 1 sp_Llength := by
  refine own_mk T.d_Llength sc_Llength (fun vs H Q E h => ?_) (fun _ _ _ _ _ _ us hl => match us, hl with | [_, _], _ => rfl) (fun fa cdv A outer s H vs Q E hr h => ⟨_, (pss_cons (ps_if (pt_cmpR op_isN (pv 1) pe_non (nomark _)) (pss_one (ps_ret pe_int)) pss_nil)
      (pss_one (ps_ret (pe_ix ix_list (pv 0) (pv 1) (fun _ _ => rfl))))), ?_⟩)
  · obtain ⟨l, ns, n, z, rfl, _⟩ := h
    rfl
  · obtain ⟨l, ns, n, z, rfl, hl, hn, q⟩ := h
    refine ⟨.int (n : Int), rfl, rfl, _, rfl, iteF ?_⟩
    exact v_ixL (vx 0) (vx 1) (sqL hl) (at_nV hn) _ q
def sp_Lsign_at : Sp := fun vs H Q _ => ∃ (v : V) (rs : List Rl) (ts : List Tr) (l : Addr) (n p c : Nat) (t : Tr), vs = [v, .ref l, .int (n : Int), .int (p : Int)] ∧ RsT H v rs ∧ RT rs ts ∧ H l = some (.lst (nV (lens ts))) ∧ ts[n]? = some t ∧ t.txt[p]? = some c ∧ Q (.str (ch c)) H
theorem ok_Lsign_at (T : Hd K mg) : Own P w K mg base "_law_sign_at" ["_law_rules", "_law_sizes", "_law_name", "_law_place_here"] 1 sp_Lsign_at := by
  refine own_mk T.d_Lsign_at sc_Lsign_at (fun vs H Q E h => ?_) (fun _ _ _ _ _ _ us hl => match us, hl with | [_, _, _, _], _ => rfl) (fun fa cdv A outer s H vs Q E hr h => ⟨_, (pss_cons (ps_while PassesOwn.never (pt_cmpR op_ne (pe_ix ix_tup (pe_ix ix_tup (pv 0) (pv 2) (fun _ _ => rfl)) pe_int (fun _ _ => rfl)) pe_str (nomark _)) (pss_cons (ps_set (i := 4) sc_Lsign_at.nd rfl (Or.inl rfl) (pe_ix ix_tup (pe_ix ix_tup (pv 0) (pv 2) (fun _ _ => rfl)) pe_int (fun _ _ => rfl)))
      (pss_one (ps_if (pt_cmpR op_eq (pe_ix ix_tup (pe_ix ix_tup (pv 0) (pv 2) (fun _ _ => rfl)) pe_int (fun _ _ => rfl)) pe_str (nomark _)) (pss_cons (ps_set (i := 3) sc_Lsign_at.nd rfl (Or.inl rfl) (pe_op op_mod (pv 3) (pe_ix ix_list (pv 1) (pv 4) (fun _ _ => rfl))))
      (pss_one (ps_set (i := 2) sc_Lsign_at.nd rfl (Or.inl rfl) (pv 4)))) (pss_one (ps_if (pt_cmpR op_lt (pv 3) (pe_ix ix_list (pv 1) (pv 4) (fun _ _ => rfl)) (nomark _)) (pss_one (ps_set (i := 2) sc_Lsign_at.nd rfl (Or.inl rfl) (pv 4))) (pss_cons (ps_set (i := 3) sc_Lsign_at.nd rfl (Or.inl rfl) (pe_op op_sub (pv 3) (pe_ix ix_list (pv 1) (pv 4) (fun _ _ => rfl))))
      (pss_one (ps_set (i := 2) sc_Lsign_at.nd rfl (Or.inl rfl) (pe_ix ix_tup (pe_ix ix_tup (pv 0) (pv 2) (fun _ _ => rfl)) pe_int (fun _ _ => rfl)))))))))))
      (pss_one (ps_ret (pe_ix ix_tup (pe_ix ix_tup (pv 0) (pv 2) (fun _ _ => rfl)) pe_int (fun _ _ => rfl))))), ?_⟩)
  · obtain ⟨v, rs, ts, l, n, p, c, t, rfl, _⟩ := h
    rfl
  · obtain ⟨v, rs, ts, l, n, p, c, t, rfl, ⟨a, us, rfl, ha, hr⟩, hT, hl, hn, hc, q⟩ := h
    refine ⟨fun z σ H' => H' = H ∧ ∃ (p' k : Nat) (t' : Tr) (y4 : Option V), σ = [some (.ref a), some (.ref l), some (.int (k : Int)), some (.int (p' : Int)), y4] ∧ z = k ∧ ts[k]? = some t' ∧ t'.txt[p']? = some c, ⟨n, rfl, p, n, t, none, rfl, rfl, hn, hc⟩, ?_⟩
    rintro z σ H' ⟨rfl, p', k, t', y4, rfl, rfl, ht', hc'⟩
    obtain ⟨r, hrz, hf⟩ := hT.at ht'
    obtain ⟨v, hv, b, rfl, hb⟩ := P_get hr hrz
    have xr : ∀ (σ : L2.St) (i : Nat) (y : V), σ[0]? = some (some (.ref a)) → σ[2]? = some (some (.int (z : Int))) → (rlV r)[i]? = some y → Val (tOp (rIxT K) (tOp (rIxT K) (tVar 0) (tVar 2)) (tC (.int (i : Int)))) σ H' y := fun σ i y h1 h2 h => v_ixT (v_ixT (vx 0 h1) (vx 2 h2) (sqT ha) (atI_nat hv)) vc (sqT hb) (atI_nat h)
    cases r with
    | sg d =>
      have ed : t' = .sg d := hf.2
      subst ed
      have hc2 : ([d] : List Nat)[p']? = some c := hc'
      have hp0 : p' = 0 := by
        have := get_lt hc2
        rw [List.length_singleton] at this
        omega
      subst hp0
      have : d = c := Option.some.inj hc2
      subst this
      refine a_ne (b := false) (xr _ 0 _ rfl rfl rfl) vc rfl (by decide) _ ?_
      refine iteF ?_
      exact xr _ 1 _ rfl rfl rfl _ q
    | jn i j =>
      obtain ⟨u, v, hu, hv2, rfl⟩ := hf
      obtain ⟨hi, hu⟩ := take_get hu
      obtain ⟨hj, hv2⟩ := take_get hv2
      refine a_ne (b := true) (xr _ 0 _ rfl rfl rfl) vc rfl (by decide) _ ?_
      refine iteT ⟨fun σ' H'' => ∃ z', z' < z ∧ (H'' = H' ∧ ∃ (p' k : Nat) (t' : Tr) (y4 : Option V), σ' = [some (.ref a), some (.ref l), some (.int (k : Int)), some (.int (p' : Int)), y4] ∧ z' = k ∧ ts[k]? = some t' ∧ t'.txt[p']? = some c), fun _ _ z => z, ?_⟩
      refine xr _ 1 _ rfl rfl rfl _ ?_
      refine s_no (a_eq (xr _ 0 _ rfl rfl rfl) vc rfl (by decide +kernel)) ?_
      have hc2 : (u.txt ++ v.txt)[p']? = some c := hc'
      by_cases hlt : p' < u.len
      · refine s_yes (a_lt (vx 3) (v_ixL (vx 1) (vx 4) (sqL hl) (at_nV (lens_get hu))) (intd (by omega))) ?_
        rw [List.getElem?_append_left hlt] at hc2
        exact ⟨.int (i : Int), rfl, i, hi, rfl, p', i, u, _, rfl, rfl, hu, hc2⟩
      · refine s_no (a_lt (vx 3) (v_ixL (vx 1) (vx 4) (sqL hl) (at_nV (lens_get hu))) (intn (by omega))) ?_
        refine v_sub (vx 3) (v_ixL (vx 1) (vx 4) (sqL hl) (at_nV (lens_get hu))) _ ?_
        refine xr _ 2 _ rfl rfl rfl _ ?_
        have hge : u.txt.length ≤ p' := Nat.le_of_not_lt hlt
        rw [List.getElem?_append_right hge] at hc2
        refine ⟨j, hj, rfl, p' - u.len, j, v, some (.int (i : Int)), ?_, rfl, hv2, hc2⟩
        show [some (V.ref a), some (V.ref l), some (V.int (j : Int)), some (V.int ((p' : Int) - (u.len : Int))), some (V.int (i : Int))] = [some (V.ref a), some (V.ref l), some (V.int (j : Int)), some (V.int ((p' - u.len : Nat) : Int)), some (V.int (i : Int))]
        rw [show ((p' - u.len : Nat) : Int) = (p' : Int) - (u.len : Int) by have : u.len ≤ p' := hge; omega]
    | tm i m =>
      obtain ⟨u, rfl, hu, rfl⟩ := hf
      obtain ⟨hi, hu⟩ := take_get hu
      refine a_ne (b := true) (xr _ 0 _ rfl rfl rfl) vc rfl (by decide) _ ?_
      refine iteT ⟨fun σ' H'' => ∃ z', z' < z ∧ (H'' = H' ∧ ∃ (p' k : Nat) (t' : Tr) (y4 : Option V), σ' = [some (.ref a), some (.ref l), some (.int (k : Int)), some (.int (p' : Int)), y4] ∧ z' = k ∧ ts[k]? = some t' ∧ t'.txt[p']? = some c), fun _ _ z => z, ?_⟩
      refine xr _ 1 _ rfl rfl rfl _ ?_
      refine s_yes (a_eq (xr _ 0 _ rfl rfl rfl) vc rfl (by decide +kernel)) ?_
      have hpos := u.len_pos
      refine v_mod (vx 3) (v_ixL (vx 1) (vx 4) (sqL hl) (at_nV (lens_get hu))) (by omega) _ ?_
      have hc2 : (u.txt ++ u.txt)[p']? = some c := hc'
      have hpl := get_lt hc2
      rw [List.length_append] at hpl
      have hpl : p' < u.len + u.len := hpl
      have hcm : u.txt[p' % u.len]? = some c := by
        by_cases hlt : p' < u.len
        · rw [Nat.mod_eq_of_lt hlt]
          rw [List.getElem?_append_left hlt] at hc2
          exact hc2
        · rw [show p' % u.len = p' - u.len by rw [Nat.mod_eq_sub_mod (by omega), Nat.mod_eq_of_lt (by omega)]]
          rw [List.getElem?_append_right (Nat.le_of_not_lt hlt)] at hc2
          exact hc2
      refine ⟨.int (i : Int), rfl, i, hi, rfl, p' % u.len, i, u, some (.int (i : Int)), ?_, rfl, hu, hcm⟩
      show [some (V.ref a), some (V.ref l), some (V.int (i : Int)), some (V.int ((p' : Int) % (u.len : Int))), some (V.int (i : Int))] = [some (V.ref a), some (V.ref l), some (V.int (i : Int)), some (V.int ((p' % u.len : Nat) : Int)), some (V.int (i : Int))]
      rw [Int.natCast_emod]
end
end Sb
set_option Elab.async false
set_option linter.all false
set_option maxRecDepth 100000
set_option maxHeartbeats 4000000
set_option pp.maxSteps 300
/-! What the law asks of a telling. -/
namespace Sb
open PySem PySem.Spec PyProof.Rows L2
section
variable {K : PySem.W.Frag} {σ : L2.St} {H : Hp} {ta tb : TE} {x : V} {n : Nat} {r : Rl}
theorem v_good (h : Val ta σ H x) (h2 : Val tb σ H (.int (n : Int))) (hr : RuA H x r) (hg : GoodR n r) : Val (tCall sp_Lgood_rule [] E0 (tCons ta (tCons tb tNil))) σ H (.bl true) := fun _ q => h _ (h2 _ ⟨x, r, n, rfl, hr, hg, q⟩)
theorem a_notN {b : Bool} (ha : Val ta σ H x) (hd : (!decide (x = .non)) = b) : Ans (tTest (tOp (fun x y H Q => y = .non ∧ Q (.bl (!decide (x = .non))) H) ta (tC .non))) σ H b := a_cmp ha vc fun Q q => ⟨rfl, by rw [hd]; exact q⟩
theorem nV_ints (ns : List Nat) : nV ns = (ns.map fun n : Nat => (n : Int)).map V.int := by
  unfold nV
  rw [List.map_map]
  rfl
end
theorem RT.good {rs : List Rl} {ts : List Tr} (h : RT rs ts) {k : Nat} {r : Rl} (e : rs[k]? = some r) : GoodR k r := by
  obtain ⟨t, _, f⟩ := h.get e
  have hp := fun p => h.part e (p := p)
  cases r with
  | sg c => exact f.1
  | jn i j => exact ⟨hp i (by simp [Rl.parts]), hp j (by simp [Rl.parts])⟩
  | tm i m =>
    obtain ⟨u, h2, _⟩ := f
    exact ⟨hp i (by simp [Rl.parts]), h2⟩
section
variable {P : Program} {w : World} {K : PySem.W.Frag} {mg : Str → Option Value} {base : Heap}
abbrev wordsV (E : Env (List Nat)) : List V := ((E.map (·.1)).map wd).map V.str
/-- what read gives -/
structure Read (H : Hp) (a : Addr) (rs : List Rl) (ts : List Tr) (E : Env (List Nat)) : Prop where
  at_ : ∃ (u : V) (l : Addr) (us : List V), H a = some (.tup [u, .ref l]) ∧ RsT H u rs ∧ H l = some (.lst us) ∧ Paired (NameAt H ts) us E
  rt : RT rs ts
  few : rs.length ≤ 20000
  le : ∀ t ∈ ts, t.len ≤ 2 ^ 60
theorem NameAt.mono {H H' : Hp} {ts : List Tr} {v : V} {p : Bool × List Nat} (s : Same H H') (h : NameAt H ts v p) : NameAt H' ts v p := let ⟨b, n, t, e, h1, h2⟩ := h; ⟨b, n, t, e, s _ _ h1, h2⟩
theorem Read.mono {H H' : Hp} {a : Addr} {rs : List Rl} {ts : List Tr} {E : Env (List Nat)} (s : Same H H') (h : Read H a rs ts E) : Read H' a rs ts E :=
  ⟨let ⟨u, l, us, h1, h2, h3, h4⟩ := h.at_; ⟨u, l, us, s _ _ h1, h2.mono s, s _ _ h3, Paired.mapP h4 fun _ _ z => NameAt.mono s z⟩, h.rt, h.few, h.le⟩
def sp_Ltold : Sp := fun vs H Q _ => ∃ (a lw : Addr) (rs : List Rl) (ts : List Tr) (E : Env (List Nat)), vs = [.ref a, .ref lw] ∧ Read H a rs ts E ∧ H lw = some (.lst (wordsV E)) ∧ ∀ H', Same H H' → Q (.bl true) H'
theorem ok_Ltold (T : Hd K mg) : Own P w K mg base "_law_told" ["_law_found", "_law_words"] 3 sp_Ltold := by
  refine own_mk T.d_Ltold sc_Ltold (fun vs H Q E h => ?_) (fun _ _ _ _ _ _ us hl => match us, hl with | [_, _], _ => rfl) (fun fa cdv A outer s H vs Q E hr h => ⟨_, (pss_cons (ps_if (PW.pt (pw_or (pt_not (pt_val (pe_callB call_isi (by rfl) T.z_isinstance (by decide +kernel) (pa_cons (pv 0) (pa_cons (pe_bltn (v := .ty "tuple") (by rfl) T.z_tuple (by decide +kernel) rfl) pa_nil))))) (pw_or (pt_cmpR op_ne (pe_callB call_len_seq (by rfl) T.z_len (by decide +kernel) (pa_cons (pv 0) pa_nil)) pe_int (nomark _)) (pw_or1 (pt_not (pt_val (pe_callB call_isi (by rfl) T.z_isinstance (by decide +kernel) (pa_cons (pe_ix ix_tup (pv 0) pe_int (fun _ _ => rfl)) (pa_cons (pe_bltn (v := .ty "tuple") (by rfl) T.z_tuple (by decide +kernel) rfl) pa_nil))))))))) (pss_one (ps_ret pe_bl)) pss_nil)
      (pss_cons (ps_if (PW.pt (pw_or (pt_not (pt_val (pe_callB call_isi (by rfl) T.z_isinstance (by decide +kernel) (pa_cons (pe_ix ix_tup (pv 0) pe_int (fun _ _ => rfl)) (pa_cons (pe_bltn (v := .ty "list") (by rfl) T.z_list (by decide +kernel) rfl) pa_nil))))) (pw_or1 (pt_cmpR op_ne (pe_callB call_len_seq (by rfl) T.z_len (by decide +kernel) (pa_cons (pe_ix ix_tup (pv 0) pe_int (fun _ _ => rfl)) pa_nil)) (pe_callB call_len_seq (by rfl) T.z_len (by decide +kernel) (pa_cons (pv 1) pa_nil)) (nomark _))))) (pss_one (ps_ret pe_bl)) pss_nil)
      (pss_cons (ps_for PassesOwn.never rfl (pi_range1 (by rfl) T.z_range (pa_cons (pe_callB call_len_seq (by rfl) T.z_len (by decide +kernel) (pa_cons (pe_ix ix_tup (pv 0) pe_int (fun _ _ => rfl)) pa_nil)) pa_nil)) (pg_name (i := 2) sc_Ltold.nd rfl (Or.inl rfl)) (pss_one (ps_if (pt_not (pt_val (pe_own (ok_Lgood_rule T) (hr.mono (by decide)) (by rfl) (pa_cons (pe_ix ix_tup (pe_ix ix_tup (pv 0) pe_int (fun _ _ => rfl)) (pv 2) (fun _ _ => rfl)) (pa_cons (pv 2) pa_nil))))) (pss_one (ps_ret pe_bl)) pss_nil)))
      (pss_cons (ps_for PassesOwn.never rfl (pi_zip (by rfl) T.z_zip (pa_cons (pe_ix ix_tup (pv 0) pe_int (fun _ _ => rfl)) (pa_cons (pv 1) pa_nil))) (pg_tup rfl (pgs_cons (pg_name (i := 3) sc_Ltold.nd rfl (Or.inl rfl)) (pgs_cons (pg_name (i := 4) sc_Ltold.nd rfl (Or.inl rfl)) pgs_nil))) (pss_cons (ps_if (PW.pt (pw_or (pt_not (pt_val (pe_callB call_isi (by rfl) T.z_isinstance (by decide +kernel) (pa_cons (pv 3) (pa_cons (pe_bltn (v := .ty "tuple") (by rfl) T.z_tuple (by decide +kernel) rfl) pa_nil))))) (pw_or (pt_cmpR op_ne (pe_callB call_len_seq (by rfl) T.z_len (by decide +kernel) (pa_cons (pv 3) pa_nil)) pe_int (nomark _)) (pw_or (pt_not (pt_val (pe_callB call_isi (by rfl) T.z_isinstance (by decide +kernel) (pa_cons (pe_ix ix_tup (pv 3) pe_int (fun _ _ => rfl)) (pa_cons (pe_bltn (v := .ty "str") (by rfl) T.z_str (by decide +kernel) rfl) pa_nil))))) (pw_or1 (pt_cmpR op_ne (pe_ix ix_tup (pv 3) pe_int (fun _ _ => rfl)) (pv 4) (nomark _))))))) (pss_one (ps_ret pe_bl)) pss_nil)
      (pss_one (ps_if (PW.pt (pw_and (pt_cmpR op_notN (pe_ix ix_tup (pv 3) pe_int (fun _ _ => rfl)) pe_non (nomark _)) (pw_and1 (PW.pt (pw_or (pt_not (pt_val (pe_own (ok_Lwhole T) (hr.mono (by decide)) (by rfl) (pa_cons (pe_ix ix_tup (pv 3) pe_int (fun _ _ => rfl)) pa_nil)))) (pw_or1 (pt_not (pt_chain op_le op_lt pe_int (pe_ix ix_tup (pv 3) pe_int (fun _ _ => rfl)) (pe_callB call_len_seq (by rfl) T.z_len (by decide +kernel) (pa_cons (pe_ix ix_tup (pv 0) pe_int (fun _ _ => rfl)) pa_nil)))))))))) (pss_one (ps_ret pe_bl)) pss_nil))))
      (pss_one (ps_ret (pe_or (pe_cmpR op_eq (pe_callB call_len_seq (by rfl) T.z_len (by decide +kernel) (pa_cons (pe_ix ix_tup (pv 0) pe_int (fun _ _ => rfl)) pa_nil)) pe_int (nomark _)) (pe_one (pe_cmpR op_le (pe_callB (cr_max rfl) (by rfl) T.z_max (by decide +kernel) (pa_cons (pe_own (ok_Llengths T) (hr.mono (by decide)) (by rfl) (pa_cons (pe_ix ix_tup (pv 0) pe_int (fun _ _ => rfl)) pa_nil)) pa_nil)) (pe_op op_pow pe_int pe_int) (nomark _)))))))))), ?_⟩)
  · obtain ⟨a, lw, rs, ts, E, rfl, _⟩ := h
    rfl
  · obtain ⟨a, lw, rs, ts, E, rfl, ⟨⟨u, l, us, ha, ⟨ua, vs, rfl, hu, hr⟩, hl, hN⟩, hT, hfew, hle⟩, hlw, q⟩ := h
    have hvl : vs.length = rs.length := Paired.length hr
    have hul : us.length = E.length := Paired.length hN
    have hwl : (wordsV E).length = E.length := by
      unfold wordsV
      rw [List.length_map, List.length_map, List.length_map]
    have f0 : ∀ (σ : L2.St) (H' : Hp), Same H H' → σ[0]? = some (some (.ref a)) → Val (tOp (rIxT K) (tVar 0) (tC (.int 0))) σ H' (.ref ua) := fun σ H' s h => v_ixT (vx 0 h) vc (sqT (s _ _ ha)) (atI_nat (j := 0) rfl)
    have f1 : ∀ (σ : L2.St) (H' : Hp), Same H H' → σ[0]? = some (some (.ref a)) → Val (tOp (rIxT K) (tVar 0) (tC (.int 1))) σ H' (.ref l) := fun σ H' s h => v_ixT (vx 0 h) vc (sqT (s _ _ ha)) (atI_nat (j := 1) rfl)
    refine s_no (a_or (a_notT (a_val (v_isi (K := K) (vx 0) (tyT ha) (by decide +kernel)))) (a_or (a_ne (v_len (vx 0) (.inr (sqT ha))) vc rfl rfl) (a_notT (a_val (v_isi (K := K) (f0 _ _ (Same.refl H) rfl) (tyT hu) (by decide +kernel)))))) ?_
    refine s_no (a_or (a_notT (a_val (v_isi (K := K) (f1 _ _ (Same.refl H) rfl) (tyL hl) (by decide +kernel)))) (a_ne (v_len (f1 _ _ (Same.refl H) rfl) (.inl (sqL hl))) (v_len (vx 1) (.inl (sqL hlw))) rfl (by rw [hul, hwl]; simp))) ?_
    refine ⟨.ref a, rfl, a, _, 0, .ref ua, rfl, rfl, sqT ha, atI_nat (j := 0) rfl, ua, vs, rfl, .inr (sqT hu), (vs.length : Int), rfl, by omega, by omega, ?_⟩
    refine for_range (lo := 0) (n := ((vs.length : Int)).toNat) (fun i σ' H' => H' = H ∧ ∃ y2, σ' = [some (.ref a), some (.ref lw), y2, none, none]) ⟨rfl, none, rfl⟩ ?_ ?_
    · rintro i σ' H' hi ⟨rfl, y2, rfl⟩
      obtain ⟨r, hri⟩ := get_at (l := rs) (i := i) (by omega)
      obtain ⟨v, hv, hrv⟩ := P_get hr hri
      refine s_no (a_notT (a_val (v_good (n := i) (v_ixT (f0 _ _ (Same.refl _) rfl) (vx 2) (sqT hu) (show atI vs (0 + (i : Int)) = some v by rw [Int.zero_add]; exact atI_nat hv)) (vx 2 (by show some (some (V.int (0 + (i : Int)))) = _; rw [Int.zero_add])) hrv (hT.good hri)))) ?_
      exact ⟨rfl, _, rfl⟩
    · rintro σ' H' ⟨rfl, y2, rfl⟩
      refine ⟨.ref a, rfl, a, _, 1, .ref l, rfl, rfl, sqT ha, atI_nat (j := 1) rfl, .ref lw, rfl, l, lw, us, wordsV E, rfl, sqL hl, sqL hlw, for_it (walk_zip (n := us.length) (by omega)) (fun i σ H2 => ∃ y3 y4, σ = [some (.ref a), some (.ref lw), y2, y3, y4] ∧ Same H' H2)
        ⟨none, none, rfl, Same.refl _⟩ (fun i σ H2 _ ⟨_, _, _, s⟩ => ⟨sqL (s _ _ hl), sqL (s _ _ hlw)⟩) ?_ ?_⟩
      · rintro i x σ H1 H1' hi ⟨y3, y4, rfl, s1⟩ ⟨T', p, z, rfl, nT, rfl, hp, hz⟩
        have sT := same_new (o := HO.tup [p, z]) nT
        obtain ⟨e, hei⟩ := get_at (l := E) (i := i) (by omega)
        obtain ⟨p', hp', b, n, t, rfl, hb, htn, htx⟩ := P_get hN hei
        have hp : us[i]? = some p := hp
        rw [hp'] at hp
        cases hp
        have hz : (wordsV E)[i]? = some z := hz
        unfold wordsV at hz
        rw [List.getElem?_map, List.getElem?_map, List.getElem?_map, hei] at hz
        cases hz
        have s2 := s1.trans sT
        have hb2 := s2 _ _ hb
        refine ⟨T', _, rfl, sqT upd_same, rfl, .ref b, _, rfl, .str (wd e.1), [], rfl, rfl, ?_⟩
        generalize upd H1 T' (.tup [.ref b, .str (wd e.1)]) = H3 at s2 hb2 sT
        have hu3 := s2 _ _ hu
        have g0 : ∀ (σ : L2.St), σ[3]? = some (some (.ref b)) → Val (tOp (rIxT K) (tVar 3) (tC (.int 0))) σ H3 (.str (wd e.1)) := fun σ h => v_ixT (vx 3 h) vc (sqT hb2) (atI_nat (j := 0) rfl)
        have g1 : ∀ (σ : L2.St), σ[3]? = some (some (.ref b)) → Val (tOp (rIxT K) (tVar 3) (tC (.int 1))) σ H3 (.int (n : Int)) := fun σ h => v_ixT (vx 3 h) vc (sqT hb2) (atI_nat (j := 1) rfl)
        have hnl := get_lt htn
        have hrt := hT.len
        refine s_no (a_or (a_notT (a_val (v_isi (K := K) (vx 3) (tyT hb2) (by decide +kernel)))) (a_or (a_ne (v_len (vx 3) (.inr (sqT hb2))) vc rfl rfl) (a_or (a_notT (a_val (v_isi (K := K) (g0 _ rfl) (.base (.str _)) (by decide +kernel)))) (a_ne (g0 _ rfl) (vx 4) rfl (by simp))))) ?_
        refine s_no (a_and (a_notN (g1 _ rfl) rfl) (a_or (a_notT (a_val (v_whole (g1 _ rfl)))) (a_notT (a_valT (v_chain vc (g1 _ rfl) (v_len (f0 _ _ s2 rfl) (.inr (sqT hu3))) (by omega) (by omega)))))) ?_
        exact ⟨_, _, rfl, s2⟩
      · rintro σ H2 ⟨y3, y4, rfl, s2⟩
        have hu2 := s2 _ _ hu
        by_cases h0 : vs.length = 0
        · refine v_eq (v_len (f0 _ _ s2 rfl) (.inr (sqT hu2))) vc rfl (intd (by rw [h0]; rfl)) _ ⟨true, rfl, iteT (q _ s2)⟩
        · refine v_eq (v_len (f0 _ _ s2 rfl) (.inr (sqT hu2))) vc rfl (intn (fun e => h0 (by have := V.int.inj e; omega))) _ ⟨false, rfl, iteF ?_⟩
          refine f0 _ _ s2 rfl _ ⟨.ref ua, rs, ts, rfl, ⟨ua, vs, rfl, hu2, Rows.mono s2 hr⟩, hT, hfew, fun c H3 s3 hc => ?_⟩
          refine ⟨c, (lens ts).map fun n : Nat => (n : Int), rfl, by rw [← nV_ints]; exact sqL hc, by unfold lens; rw [List.length_map, List.length_map]; have := hT.len; omega, fun m hm _ => ?_⟩
          obtain ⟨z, hz, rfl⟩ := List.mem_map.mp hm
          obtain ⟨t, ht, rfl⟩ := List.mem_map.mp hz
          have h60 := hle t ht
          have e60 : ((2 ^ 60 : Nat) : Int) = 2 ^ 60 := by simp
          refine v_p60 vc vc _ ⟨_, _, rfl, rfl, ?_⟩
          have e : decide ((t.len : Int) ≤ 2 ^ 60) = true := intd (by omega)
          exact cast (congrArg (fun b => Q (V.bl b) H3) e.symm) (q _ (s2.trans s3))
end
end Sb
set_option Elab.async false
set_option linter.all false
set_option maxRecDepth 100000
set_option maxHeartbeats 4000000
set_option pp.maxSteps 300
/-! A telling is right. -/
namespace Sb
open PySem PySem.Spec PyProof.Rows L2
section
variable {P : Program} {w : World} {K : PySem.W.Frag} {mg : Str → Option Value} {base : Heap}
def sp_Lis_right : Sp := fun vs H Q _ => ∃ (a ma lr lk lz d : Addr) (i : Int) (rs : List Rl) (ts : List Tr) (E : Env (List Nat)) (rows : List Rw) (ks : List Kd) (xs : List (List Nat)) (names : Env Nat), vs = [.ref a, .ref ma, .int i] ∧ Read H a rs ts E ∧ H ma = some (.tup [.ref lr, .ref lk, .ref lz, .ref d]) ∧
  MkS H lk lr d rows ks xs names E ∧ H lz = some (.lst (nV (lenN xs))) ∧ Dr i ∧ ∀ H', Same H H' → Q (.bl true) H'
theorem ok_Lis_right (T : Hd K mg) : Own P w K mg base "_law_is_right" ["_law_found", "_law_made_here", "_law_cell"] 4 sp_Lis_right := by
  refine own_mk T.d_Lis_right sc_Lis_right (fun vs H Q E h => ?_) (fun _ _ _ _ _ _ us hl => match us, hl with | [_, _, _], _ => rfl) (fun fa cdv A outer s H vs Q E hr h => ⟨_, (pss_cons (ps_asg (pv 1) (pg_tup rfl (pgs_cons (pg_name (i := 3) sc_Lis_right.nd rfl (Or.inl rfl)) (pgs_cons (pg_name (i := 4) sc_Lis_right.nd rfl (Or.inl rfl)) (pgs_cons (pg_name (i := 5) sc_Lis_right.nd rfl (Or.inl rfl)) (pgs_cons (pg_name (i := 6) sc_Lis_right.nd rfl (Or.inl rfl)) pgs_nil))))))
      (pss_cons (ps_if (pt_not (pt_val (pe_own (ok_Ltold T) (hr.mono (by decide)) (by rfl) (pa_cons (pv 0) (pa_cons (pe_callB (cr_sortKS rfl) (by rfl) T.z_sorted (by decide +kernel) (pa_cons (pe_bm0 PySem.F.plainAttrs_dict PySem.F.slot_dict_keys PySem.F.type_dict_keys mt_keys (pv 6)) pa_nil)) pa_nil))))) (pss_one (ps_ret pe_bl)) pss_nil)
      (pss_cons (ps_set (i := 7) sc_Lis_right.nd rfl (Or.inl rfl) (pe_own (ok_Llengths T) (hr.mono (by decide)) (by rfl) (pa_cons (pe_ix ix_tup (pv 0) pe_int (fun _ _ => rfl)) pa_nil)))
      (pss_cons (ps_for PassesOwn.never rfl (pi_list (pe_ix ix_tup (pv 0) pe_int (fun _ _ => rfl))) (pg_tup rfl (pgs_cons (pg_name (i := 8) sc_Lis_right.nd rfl (Or.inl rfl)) (pgs_cons (pg_name (i := 9) sc_Lis_right.nd rfl (Or.inl rfl)) pgs_nil))) (pss_cons (ps_set (i := 10) sc_Lis_right.nd rfl (Or.inl rfl) (pe_dget (hu_of hr) (pv 6) (pv 8) (fun _ _ => rfl)))
      (pss_cons (ps_set (i := 11) sc_Lis_right.nd rfl (Or.inl rfl) (pe_own (ok_Lplace T) (hr.mono (by decide)) (by rfl) (pa_cons (pv 2) (pa_cons (pe_ix ix_list (pv 5) (pv 10) (fun _ _ => rfl)) pa_nil))))
      (pss_cons (ps_if (pt_cmpR op_ne (pe_own (ok_Llength T) (hr.mono (by decide)) (by rfl) (pa_cons (pv 7) (pa_cons (pv 9) pa_nil))) (pe_ix ix_list (pv 5) (pv 10) (fun _ _ => rfl)) (nomark _)) (pss_one (ps_ret pe_bl)) pss_nil)
      (pss_one (ps_if (pt_cmpR op_ne (pe_own (ok_Lsign_at T) (hr.mono (by decide)) (by rfl) (pa_cons (pe_ix ix_tup (pv 0) pe_int (fun _ _ => rfl)) (pa_cons (pv 7) (pa_cons (pv 9) (pa_cons (pv 11) pa_nil))))) (pe_own (ok_Lsign_of T) (hr.mono (by decide)) (by rfl) (pa_cons (pv 4) (pa_cons (pv 5) (pa_cons (pv 10) (pa_cons (pv 11) pa_nil))))) (nomark _)) (pss_one (ps_ret pe_bl)) pss_nil))))))
      (pss_one (ps_ret pe_bl)))))), ?_⟩)
  · obtain ⟨a, ma, lr, lk, lz, d, i, rs, ts, E, rows, ks, xs, names, rfl, _⟩ := h
    rfl
  · obtain ⟨a, ma, lr, lk, lz, d, i, rs, ts, E, rows, ks, xs, names, rfl, hR, hma, hM, hz, hi, q⟩ := h
    refine ⟨.ref ma, rfl, ma, _, rfl, sqT hma, rfl, _, _, rfl, _, _, rfl, _, _, rfl, _, _, rfl, rfl, ?_⟩
    obtain ⟨kvs, hd, hE⟩ := hM.hd
    have hm := hM.m
    have hO2 := hm.ord.len
    refine ⟨.ref a, rfl, .ref d, rfl, .inr (.inr (.inl ⟨rfl, .inl ⟨_, hd⟩⟩)), d, kvs, rfl, rfl, hd, fun v1 nv1 => ?_⟩
    have sv := same_new (o := keysO v1 d) nv1
    refine ⟨v1, d, kvs, (names.map (·.1)).map wd, rfl, upd_same, sv _ _ hd, de_keys hE, by rw [List.length_map, List.length_map]; omega, fun ys ls hperm hsort nls => ?_⟩
    have hys := ord_sorted hm.ord hperm hsort
    subst hys
    have s2 := sv.trans (same_new (o := HO.lst (((names.map (·.1)).map wd).map V.str)) nls)
    refine ⟨a, ls, rs, ts, E, rfl, hR.mono s2, by rw [upd_same, wordsV, env_keys hm.env], fun H3 s3 => ⟨true, rfl, ?_⟩⟩
    refine iteF ?_
    have s03 := s2.trans s3
    obtain ⟨u, l, us, ha3, hu3, hl3, hN3⟩ := (hR.mono s03).at_
    refine ⟨.ref a, rfl, a, _, 0, u, rfl, rfl, sqT ha3, atI_nat (j := 0) rfl, u, rs, ts, rfl, hu3, hR.rt, hR.few, fun lo H4 s4 hlo => ?_⟩
    have s04 := s03.trans s4
    have ha4 := s4 _ _ ha3
    have hl4 := s4 _ _ hl3
    have hu4 := hu3.mono s4
    have hN4 : Paired (NameAt H4 ts) us E := Paired.mapP hN3 fun _ _ z => NameAt.mono s4 z
    have hul : us.length = E.length := Paired.length hN4
    refine ⟨.ref a, rfl, a, _, 1, .ref l, rfl, rfl, sqT ha4, atI_nat (j := 1) rfl, l, rfl, ⟨us, sqL hl4⟩, for_list (K := K) (a := l) (xs := us) (fun i' σ H' => ∃ y8 y9 y10 y11, σ = [some (.ref a), some (.ref ma), some (.int i), some (.ref lr), some (.ref lk), some (.ref lz), some (.ref d), some (.ref lo), y8, y9, y10, y11] ∧ Same H4 H')
      ⟨none, none, none, none, rfl, Same.refl _⟩ (fun i σ H' _ ⟨_, _, _, _, _, s⟩ => sqL (s _ _ hl4)) ?_ ?_⟩
    · rintro j x σ H' hj ⟨y8, y9, y10, y11, rfl, sH⟩
      have hjl := get_lt hj
      obtain ⟨p, hpj⟩ := get_at (l := E) (i := j) (by omega)
      obtain ⟨v, hv, b, n, t, rfl, hb, htn, htx⟩ := P_get hN4 hpj
      rw [hj] at hv
      cases hv
      have sA := s04.trans sH
      refine ⟨b, _, rfl, sqT (sH _ _ hb), rfl, _, _, rfl, _, _, rfl, rfl, ?_⟩
      obtain ⟨np, hnp, hn1, hxp⟩ := P_get hm.env hpj
      have hg := getE_at hm.ord.nd hnp
      obtain ⟨vn, hvn, rfl⟩ := hE.get hg
      rw [hn1] at hvn
      refine ⟨.ref d, rfl, .str (wd p.1), rfl, d, _, rfl, by rw [← hvn]; exact DGet.k (k := Sum.inr (wd p.1)) (sA _ _ hd), ?_⟩
      have hzA := sA _ _ hz
      have hpos := hm.kt.pos p.2 (List.mem_of_getElem? hxp)
      refine ⟨.int i, rfl, .ref lz, rfl, .int (np.2 : Int), rfl, lz, _, _, _, rfl, rfl, sqL hzA, at_nV (lenN_get hxp), i, p.2.length, rfl, hi, hpos, fun pl hpl => ?_⟩
      have hloA := sH _ _ hlo
      have htl : t.len = p.2.length := by
        unfold Tr.len
        rw [htx]
      have vl : ∀ (σ : L2.St), σ[7]? = some (some (.ref lo)) → σ[9]? = some (some (.int (n : Int))) → Val (tCall sp_Llength [] E0 (tCons (tVar 7) (tCons (tVar 9) tNil))) σ H' (.int (t.len : Int)) := fun σ h1 h2 Q q => ⟨.ref lo, h1, .int (n : Int), h2, lo, lens ts, n, t.len, rfl, hloA, lens_get htn, q⟩
      refine s_no (a_ne (vl _ rfl rfl) (v_ixL (vx 5) (vx 10) (sqL hzA) (at_nV (lenN_get hxp))) rfl (by rw [htl]; simp)) ?_
      obtain ⟨c, hc⟩ := get_at (l := p.2) (i := pl) hpl
      have hMA := hM.mono sA
      obtain ⟨us', hk, hP⟩ := hMA.hk
      refine ⟨.ref a, rfl, a, _, 0, u, rfl, rfl, sqT (sH _ _ ha4), atI_nat (j := 0) rfl, .ref lo, rfl, .int (n : Int), rfl, .int (pl : Int), rfl, u, rs, ts, lo, n, pl, c, t, rfl, hu4.mono sH, hR.rt, hloA, htn, by rw [htx]; exact hc, ?_⟩
      refine ⟨.ref lk, rfl, .ref lz, rfl, .int (np.2 : Int), rfl, .int (pl : Int), rfl, lk, lz, us', ks, xs, np.2, pl, c, p.2, rfl, hk, hP, hm.kt, hzA, hxp, hc, fun H5 s5 => ⟨rfl, _, rfl, ?_⟩⟩
      rw [intd (show V.str (ch c) = V.str (ch c) from rfl)]
      exact iteF ⟨_, _, _, _, rfl, sH.trans s5⟩
    · rintro σ H' ⟨y8, y9, y10, y11, rfl, sH⟩
      exact q H' (s04.trans sH)
end
end Sb
set_option Elab.async false
set_option linter.all false
set_option maxRecDepth 100000
set_option maxHeartbeats 4000000
set_option pp.maxSteps 300
/-! The book keeps what it is told. -/
namespace Sb
open PySem PySem.Spec PyProof.Rows L2
/-- a text, doubled n times -/
def dbl : Nat → List Nat → List Nat
  | 0, x => x
  | n + 1, x => dbl n (x ++ x)
theorem dbl_len : ∀ (n : Nat) (x : List Nat), (dbl n x).length = x.length * 2 ^ n
  | 0, x => (Nat.mul_one _).symm
  | n + 1, x => by
    show (dbl n (x ++ x)).length = _
    rw [dbl_len n, List.length_append, Nat.pow_succ, ← Nat.mul_two, Nat.mul_assoc, Nat.mul_comm 2]
theorem dbl_count (c : Nat) : ∀ (n : Nat) (x : List Nat), (dbl n x).count c = x.count c * 2 ^ n
  | 0, x => (Nat.mul_one _).symm
  | n + 1, x => by
    show (dbl n (x ++ x)).count c = _
    rw [dbl_count c n, List.count_append, Nat.pow_succ, ← Nat.mul_two, Nat.mul_assoc, Nat.mul_comm 2]
theorem dbl_get {p c : Nat} : ∀ (n : Nat) (x : List Nat), x[p]? = some c → (dbl n x)[p]? = some c
  | 0, x, h => h
  | n + 1, x, h => dbl_get n (x ++ x) (get_app h)
abbrev rJ : Rw := .join false false false
theorem runs_dbl : ∀ (n : Nat) (E : Env (List Nat)) (x : List Nat), getE E false = some x → ∃ E', Runs (List.replicate n rJ) E E' ∧ getE E' false = some (dbl n x) ∧ getE E' true = getE E true
  | 0, E, x, h => ⟨E, rfl, h, rfl⟩
  | n + 1, E, x, h => by
    have h2 : getE (putE E false (x ++ x)) false = some (x ++ x) := by rw [get_put, if_pos rfl]
    obtain ⟨E', r, a, b⟩ := runs_dbl n (putE E false (x ++ x)) (x ++ x) h2
    refine ⟨E', ⟨x ++ x, trivial, ⟨x, x, h, h, rfl⟩, r⟩, a, ?_⟩
    rw [b, get_put, if_neg (by decide)]
/-- how often a word's text was doubled -/
def often (n : Nat) (w : Bool) : Nat := if w = false then n else 0
theorem often_get {n : Nat} {E E' : Env (List Nat)} {x : List Nat} (h0 : ∃ y, getE E false = some y ∧ getE E' false = some (dbl n y)) (h1 : getE E' true = getE E true) {w : Bool} (hw : getE E w = some x) : getE E' w = some (dbl (often n w) x) := by
  cases w with
  | false =>
    obtain ⟨y, a, b⟩ := h0
    rw [hw] at a
    cases a
    exact b
  | true => rw [h1, hw]; rfl
theorem often_at (n : Nat) (w : Bool) : atI [V.int 1, .int (2 ^ n)] (if decide (V.str (wd w) = V.str "x") = true then 1 else 0) = some (.int ((2 ^ often n w : Nat) : Int)) := by
  have e : ∀ k : Nat, ((2 ^ k : Nat) : Int) = 2 ^ k := fun k => by simp
  cases w with
  | false =>
    rw [intd (show V.str (wd false) = V.str "x" from rfl), if_pos rfl, e]
    exact atI_nat (j := 1) rfl
  | true =>
    rw [intn (show ¬ V.str (wd true) = V.str "x" from fun z => absurd (V.str.inj z) (by decide +kernel)), if_neg (by decide)]
    exact atI_nat (j := 0) rfl
theorem often_le {n : Nat} (h : n ≤ 11) (w : Bool) : 2 ^ often n w ≤ 2 ^ 11 := Nat.pow_le_pow_right (by decide) (by unfold often; split <;> omega)
theorem len_text (w : Bool) : ("length " : Str) ++ wd w = tx (Ak.length w).text := by cases w <;> decide +kernel
theorem sign_text (w : Bool) (p : Nat) : ((("sign " : Str) ++ wd w) ++ " ") ++ numS p = tx (Ak.sign w p).text := by
  rw [show ("sign " : Str) = tx [115, 105, 103, 110, 32] by decide +kernel, show (" " : Str) = tx [32] by decide +kernel, wd_tx, numS_tx, show tx [115, 105, 103, 110, 32] ++ tx (wL w) = _ from SX.S_cat _ _, show SX.S ([115, 105, 103, 110, 32] ++ wL w) ++ tx [32] = _ from SX.S_cat _ _, show SX.S (([115, 105, 103, 110, 32] ++ wL w) ++ [32]) ++ tx (numL p) = _ from SX.S_cat _ _]
  congr 1
  show _ = [115, 105, 103, 110] ++ ([32] ++ (wL w ++ ([32] ++ numL p)))
  simp [List.append_assoc]
theorem count_text (w : Bool) (c : Nat) : ((("count " : Str) ++ wd w) ++ " ") ++ ch c = tx (Ak.count w c).text := by
  rw [show ("count " : Str) = tx [99, 111, 117, 110, 116, 32] by decide +kernel, show (" " : Str) = tx [32] by decide +kernel, wd_tx, show ch c = tx [c] from rfl, show tx [99, 111, 117, 110, 116, 32] ++ tx (wL w) = _ from SX.S_cat _ _, show SX.S ([99, 111, 117, 110, 116, 32] ++ wL w) ++ tx [32] = _ from SX.S_cat _ _, show SX.S (([99, 111, 117, 110, 116, 32] ++ wL w) ++ [32]) ++ tx [c] = _ from SX.S_cat _ _]
  congr 1
  show _ = [99, 111, 117, 110, 116] ++ ([32] ++ (wL w ++ ([32] ++ [c])))
  simp [List.append_assoc]
theorem join_text : ("x join x x" : Str) = tx rJ.text := by decide +kernel
theorem more_rows (n : Nat) : (List.replicate n [V.str "x join x x"]).flatten = rowV (List.replicate n rJ) := by
  unfold rowV
  rw [List.map_replicate, ← join_text]
  induction n with
  | zero => rfl
  | succ n ih =>
    rw [List.replicate_succ, List.replicate_succ, List.flatten_cons, ih]
    rfl
theorem say_look (v : V) : List.lookup ("say" : Str) [(("texts" : Str), v)] = none := by
  have h : (("say" : Str) == ("texts" : Str)) = false := by decide +kernel
  unfold List.lookup
  rw [h]
  rfl
theorem BkS.tups {H H' : Hp} {d : Addr} {E : Env (List Nat)} {U : List Tr} {i : Nat} (s : SameT H H') (hd : ∀ o, H d = some o → H' d = some o) (h : BkS H d E U i) : BkS H' d E U i :=
  ⟨let ⟨kvs, a, b⟩ := h.at_; ⟨kvs, hd _ a, b.mono fun _ _ z => z.tups s⟩, h.nd, h.pool, h.few, h.short⟩
section
variable {P : Program} {w : World} {K : PySem.W.Frag} {mg : Str → Option Value} {base : Heap}
def sp_Lbook_keeps : Sp := fun vs H Q _ => ∃ (ma ld lr lk lz d : Addr) (ds : List Int) (c : Nat) (rows : List Rw) (ks : List Kd) (xs : List (List Nat)) (names : Env Nat) (E : Env (List Nat)), vs = [.ref ma, .ref ld, .str (ch c)] ∧ H ma = some (.tup [.ref lr, .ref lk, .ref lz, .ref d]) ∧
  MkS H lk lr d rows ks xs names E ∧ H lz = some (.lst (nV (lenN xs))) ∧ rows.length ≤ 40 ∧ H ld = some (.lst (ds.map V.int)) ∧ 4 ≤ ds.length ∧ (∀ z ∈ ds, Dr z) ∧ OkC c ∧ ∀ H', Q (.bl true) H'
theorem ok_Lbook_keeps (T : Hd K mg) : Own P w K mg base "_law_book_keeps" ["_law_made_here", "_law_draws_here", "_law_sign"] 10 sp_Lbook_keeps := by
  obtain ⟨C, B⟩ := T.bk
  refine own_mk T.d_Lbook_keeps sc_Lbook_keeps (fun vs H Q E h => ?_) (fun _ _ _ _ _ _ us hl => match us, hl with | [_, _, _], _ => rfl) (fun fa cdv A outer s H vs Q E hr h => ⟨_, (pss_cons (ps_asg (pv 0) (pg_tup rfl (pgs_cons (pg_name (i := 3) sc_Lbook_keeps.nd rfl (Or.inl rfl)) (pgs_cons (pg_name (i := 4) sc_Lbook_keeps.nd rfl (Or.inl rfl)) (pgs_cons (pg_name (i := 5) sc_Lbook_keeps.nd rfl (Or.inl rfl)) (pgs_cons (pg_name (i := 6) sc_Lbook_keeps.nd rfl (Or.inl rfl)) pgs_nil))))))
      (pss_cons (ps_set (i := 7) sc_Lbook_keeps.nd rfl (Or.inl rfl) (pe_owni (ok_Binit T B) B.g (hr.mono (by decide)) (by rfl)))
      (pss_cons (ps_set (i := 8) sc_Lbook_keeps.nd rfl (Or.inl rfl) (pe_op op_rep (pe_lst (pa_cons pe_str pa_nil)) (pe_op op_mod (pe_ix ix_list (pv 1) pe_int (fun _ _ => rfl)) pe_int)))
      (pss_cons (ps_for PassesOwn.never rfl (pi_list (pe_op op_cat (pv 3) (pv 8))) (pg_name (i := 9) sc_Lbook_keeps.nd rfl (Or.inl rfl)) (pss_one (ps_if (pt_cmpR op_ne (pe_ownm (ok_Bsay T B) B.cl (hr.mono (by decide)) (pv 7) (pa_cons (pv 9) pa_nil)) pe_str (nomark _)) (pss_one (ps_ret pe_bl)) pss_nil)))
      (pss_cons (ps_set (i := 10) sc_Lbook_keeps.nd rfl (Or.inl rfl) (pe_own (ok_Lcounts T) (hr.mono (by decide)) (by rfl) (pa_cons (pv 4) (pa_cons (pv 2) pa_nil))))
      (pss_cons (ps_lock (ps_for PassesOwn.never rfl (pi_keys (pv 6)) (pg_name (i := 11) sc_Lbook_keeps.nd rfl (Or.inl rfl)) (pss_cons (ps_set (i := 12) sc_Lbook_keeps.nd rfl (Or.inl rfl) (pe_dget (hu_of hr) (pv 6) (pv 11) (fun _ _ => rfl)))
      (pss_cons (ps_set (i := 13) sc_Lbook_keeps.nd rfl (Or.inl rfl) (pe_ix ix_list (pe_lst (pa_cons pe_int (pa_cons (pe_op op_oneShl pe_int (pe_callB call_len_seq (by rfl) T.z_len (by decide +kernel) (pa_cons (pv 8) pa_nil))) pa_nil))) (pe_callTy call_int1 (by rfl) T.z_int (by decide +kernel) (pa_cons (pe_cmpR op_eq (pv 11) pe_str (nomark _)) pa_nil)) (fun _ _ => rfl)))
      (pss_cons (ps_set (i := 14) sc_Lbook_keeps.nd rfl (Or.inl rfl) (pe_own (ok_Lplace T) (hr.mono (by decide)) (by rfl) (pa_cons (pe_ix ix_list (pv 1) pe_int (fun _ _ => rfl)) (pa_cons (pe_ix ix_list (pv 5) (pv 12) (fun _ _ => rfl)) pa_nil))))
      (pss_cons (ps_if (pt_cmpR op_ne (pe_ownm (ok_Bsay T B) B.cl (hr.mono (by decide)) (pv 7) (pa_cons (pe_op op_add_str pe_str (pv 11)) pa_nil)) (pe_callTy call_str_int (by rfl) T.z_str (by decide +kernel) (pa_cons (pe_op op_mulW (pe_ix ix_list (pv 5) (pv 12) (fun _ _ => rfl)) (pv 13)) pa_nil)) (nomark _)) (pss_one (ps_ret pe_bl)) pss_nil)
      (pss_cons (ps_if (pt_cmpR op_ne (pe_ownm (ok_Bsay T B) B.cl (hr.mono (by decide)) (pv 7) (pa_cons (pe_op op_add_str (pe_op op_add_str (pe_op op_add_str pe_str (pv 11)) pe_str) (pe_callTy call_str_int (by rfl) T.z_str (by decide +kernel) (pa_cons (pv 14) pa_nil))) pa_nil)) (pe_own (ok_Lsign_of T) (hr.mono (by decide)) (by rfl) (pa_cons (pv 4) (pa_cons (pv 5) (pa_cons (pv 12) (pa_cons (pv 14) pa_nil))))) (nomark _)) (pss_one (ps_ret pe_bl)) pss_nil)
      (pss_one (ps_if (pt_cmpR op_ne (pe_ownm (ok_Bsay T B) B.cl (hr.mono (by decide)) (pv 7) (pa_cons (pe_op op_add_str (pe_op op_add_str (pe_op op_add_str pe_str (pv 11)) pe_str) (pv 2)) pa_nil)) (pe_callTy call_str_int (by rfl) T.z_str (by decide +kernel) (pa_cons (pe_op op_mulW (pe_ix ix_list (pv 10) (pv 12) (fun _ _ => rfl)) (pv 13)) pa_nil)) (nomark _)) (pss_one (ps_ret pe_bl)) pss_nil)))))))))
      (pss_one (ps_ret pe_bl)))))))), ?_⟩)
  · obtain ⟨ma, ld, lr, lk, lz, d, ds, c, rows, ks, xs, names, E, rfl, _⟩ := h
    rfl
  · obtain ⟨ma, ld, lr, lk, lz, d, ds, c, rows, ks, xs, names, E', rfl, hma, hM, hz, h40, hld, h4, hD, hc, q⟩ := h
    refine ⟨.ref ma, rfl, ma, _, rfl, sqT hma, rfl, _, _, rfl, _, _, rfl, _, _, rfl, _, _, rfl, rfl, ?_⟩
    refine fun bk dx nbk ndx hne => ⟨bk, dx, rfl, upd_same, fun bd H1 hbut nbd hbk1 hbd1 => ⟨rfl, ?_⟩⟩
    have s1 : Same H H1 := fun b o h => hbut b o (ne_of_none h nbk) (by rw [upd_ne (ne_of_none h nbk), upd_ne (ne_of_none h ndx)]; exact h)
    have nbd0 : H bd = none := by
      cases e : H bd with
      | none => rfl
      | some o =>
        have h2 : (upd (upd H dx (.own bk)) bk (.ins C dx [])) bd = some o := by rw [upd_ne (ne_of_none e nbk), upd_ne (ne_of_none e ndx)]; exact e
        rw [nbd] at h2
        cases h2
    obtain ⟨d3, _, hd3r, a3⟩ : ∃ z, ds[3]? = some z ∧ Dr z ∧ atI (ds.map V.int) ((3 : Nat) : Int) = some (.int z) := by
      obtain ⟨z, hz⟩ := get_at (l := ds) (i := 3) (by omega)
      exact ⟨z, hz, hD z (List.mem_of_getElem? hz), atI_nat (by rw [List.getElem?_map, hz]; rfl)⟩
    obtain ⟨d2, _, hd2r, a2⟩ : ∃ z, ds[2]? = some z ∧ Dr z ∧ atI (ds.map V.int) ((2 : Nat) : Int) = some (.int z) := by
      obtain ⟨z, hz⟩ := get_at (l := ds) (i := 2) (by omega)
      exact ⟨z, hz, hD z (List.mem_of_getElem? hz), atI_nat (by rw [List.getElem?_map, hz]; rfl)⟩
    refine ⟨by show 1 ≤ sizeLine; decide, fun l1 nl1 => ?_⟩
    have sl1 := same_new (o := HO.lst [V.str "x join x x"]) nl1
    have g0 := Int.emod_nonneg d3 (show (12 : Int) ≠ 0 by decide)
    have g1 := Int.emod_lt_of_pos d3 (show (0 : Int) < 12 by decide)
    refine ⟨.ref ld, rfl, ld, _, 3, .int d3, rfl, rfl, sqL (sl1 _ _ (s1 _ _ hld)), a3, d3, 12, rfl, rfl, (by show (0 : Int) < 12; decide), ?_⟩
    refine ⟨l1, d3 % 12, _, rfl, rfl, upd_same, by omega, by omega, (by show 1 * (d3 % 12).toNat ≤ _; exact szl (by omega)), fun lm nlm => ?_⟩
    obtain ⟨n, hn⟩ : ∃ n, (d3 % 12).toNat = n := ⟨_, rfl⟩
    have hn12 : n ≤ 11 := by omega
    rw [hn, more_rows]
    have s2 := s1.trans (sl1.trans (same_new (o := HO.lst (rowV (List.replicate n rJ))) nlm))
    have hlm : (upd (upd H1 l1 (.lst [V.str "x join x x"])) lm (.lst (rowV (List.replicate n rJ)))) lm = some (.lst (rowV (List.replicate n rJ))) := upd_same
    have hbk2 := (sl1.trans (same_new (o := HO.lst (rowV (List.replicate n rJ))) nlm)) _ _ hbk1
    have hbd2 := (sl1.trans (same_new (o := HO.lst (rowV (List.replicate n rJ))) nlm)) _ _ hbd1
    generalize upd (upd H1 l1 (.lst [V.str "x join x x"])) lm (.lst (rowV (List.replicate n rJ))) = H2 at s2 hlm hbk2 hbd2
    have hrl : (rowV rows).length = rows.length := List.length_map _
    have hml : (rowV (List.replicate n rJ)).length = n := by rw [List.length_map, List.length_replicate]
    refine ⟨.ref lr, rfl, .ref lm, rfl, lr, lm, _, _, rfl, rfl, s2 _ _ hM.hr, hlm, szl (by omega), fun lc nlc => ?_⟩
    have eall : rowV rows ++ rowV (List.replicate n rJ) = rowV (rows ++ List.replicate n rJ) := by
      unfold rowV
      rw [List.map_append]
    rw [eall]
    obtain ⟨all, hall⟩ : ∃ all, rows ++ List.replicate n rJ = all := ⟨_, rfl⟩
    rw [hall]
    have hal : all.length = rows.length + n := by rw [← hall, List.length_append, List.length_replicate]
    have s3 := s2.trans (same_new (o := HO.lst (rowV all)) nlc)
    have hlc : (upd H2 lc (.lst (rowV all))) lc = some (.lst (rowV all)) := upd_same
    have hbk3 := same_new (o := HO.lst (rowV all)) nlc _ _ hbk2
    have hbd3 := same_new (o := HO.lst (rowV all)) nlc _ _ hbd2
    have hlm3 := same_new (o := HO.lst (rowV all)) nlc _ _ hlm
    generalize upd H2 lc (.lst (rowV all)) = H3 at s3 hlc hbk3 hbd3 hlm3
    have hm := hM.m
    obtain ⟨x0, e0⟩ : ∃ x0, getE E' false = some x0 := mem_get (by rcases hm.ordE with h | h <;> (rw [h]; decide))
    obtain ⟨E2, r2, ef, et⟩ := runs_dbl n E' x0 e0
    have hruns : Runs all [] E2 := by
      rw [← hall]
      exact hm.run.app r2
    have hlcd : lc ≠ bd := ne_of hlc hbd3 (fun z => by cases z)
    have hbkd : bk ≠ bd := ne_of hbk3 hbd3 (fun z => by cases z)
    have hxl : (rowV all).length = all.length := List.length_map _
    refine ⟨lc, rfl, ⟨_, sqL hlc⟩, for_list (K := K) (a := lc) (xs := rowV all) (fun i σ H' => ∃ y9 Ei U, σ = [some (.ref ma), some (.ref ld), some (.str (ch c)), some (.ref lr), some (.ref lk), some (.ref lz), some (.ref d), some (.ref bk), some (.ref lm), y9, none, none, none, none, none] ∧ But bd H3 H' ∧ BkS H' bd Ei U i ∧ Runs (all.drop i) Ei E2)
      ⟨none, [], [], rfl, But.refl _ _, BkS.nil hbd3, hruns⟩ (fun i σ H' _ ⟨_, _, _, _, b, _⟩ => sqL (b _ _ hlcd hlc)) ?_ ?_⟩
    · rintro i x σ H' hi ⟨y9, Ei, U, rfl, hB, hS, hRi⟩
      have hir : i < all.length := by
        rw [← hxl]
        exact get_lt hi
      obtain ⟨r, hri⟩ := get_at hir
      unfold rowV at hi
      rw [List.getElem?_map, hri] at hi
      cases hi
      have hdrop : all.drop i = r :: all.drop (i + 1) := by
        rw [List.drop_eq_getElem_cons hir]
        congr 1
        exact (List.getElem?_eq_some_iff.mp hri).2
      rw [hdrop] at hRi
      obtain ⟨x, hfr, hx, hRn⟩ := hRi
      have hbkH := hB _ _ hbkd hbk3
      refine ⟨.ref bk, rfl, bk, dx, _, rfl, hbkH, say_look _, .str (tx r.text), rfl, bk, dx, bd, Ei, U, i, r.text, rfl, hbkH, hS, by omega, .inl ⟨r, x, hfr, rfl, hx, fun H4 U4 hB4 hS4 => ?_⟩⟩
      refine ⟨rfl, _, rfl, ?_⟩
      rw [intd (show V.str "ok" = V.str "ok" from rfl)]
      exact iteF ⟨_, _, U4, rfl, hB.trans hB4, hS4, hRn⟩
    · rintro σ H4 ⟨y9, Ei, U, rfl, hB, hS, hRi⟩
      rw [hxl, List.drop_length] at hRi
      rw [hxl] at hS
      have hRi : E2 = Ei := hRi
      subst hRi
      have s4 : Same H H4 := fun b o h => hB b o (ne_of_none h nbd0) (s3 b o h)
      have hM4 := hM.mono s4
      obtain ⟨us, hk4, hP4⟩ := hM4.hk
      obtain ⟨kvs, hd4, hE4⟩ := hM4.hd
      have hkl := hm.len
      refine ⟨.ref lk, rfl, .str (ch c), rfl, lk, us, ks, xs, c, rfl, hk4, hP4, hm.kt, by omega, fun lq H5 s5 hlq => ?_⟩
      have s05 := s4.trans s5
      have hd5 := s5 _ _ hd4
      refine ⟨d, .dK kvs, hd5, trivial, fun od => ?_⟩
      have bF : But d H5 (upd H5 d (.frz od (.dK kvs))) := But.upd
      have stF : SameT H5 (upd H5 d (.frz od (.dK kvs))) := SameT.upd hd5 (fun xs z => by cases z)
      have hdF : (upd H5 d (.frz od (.dK kvs))) d = some (.frz od (.dK kvs)) := upd_same
      have hbk5 := s5 _ _ (hB _ _ hbkd hbk3)
      have hlm5 := s5 _ _ (hB _ _ (ne_of hlm3 hbd3 (fun z => by cases z)) hlm3)
      have hbkF := bF _ _ (ne_of hbk5 hd5 (fun z => by cases z)) hbk5
      have hlmF := bF _ _ (ne_of hlm5 hd5 (fun z => by cases z)) hlm5
      have hkF := bF _ _ (ne_of (s5 _ _ hk4) hd5 (fun z => by cases z)) (s5 _ _ hk4)
      have hzF := bF _ _ (ne_of (s05 _ _ hz) hd5 (fun z => by cases z)) (s05 _ _ hz)
      have hldF := bF _ _ (ne_of (s05 _ _ hld) hd5 (fun z => by cases z)) (s05 _ _ hld)
      have hlqF := bF _ _ (ne_of hlq hd5 (fun z => by cases z)) hlq
      have hPF : Paired (KdA (upd H5 d (.frz od (.dK kvs)))) us ks := Paired.mapP hP4 fun _ _ z => (z.mono s5).tups stF
      obtain ⟨kd0, hd0⟩ := hM.hd
      have hbdd : bd ≠ d := (ne_of_none hd0.1 nbd0).symm
      have hSF : BkS (upd H5 d (.frz od (.dK kvs))) bd E2 U all.length := (hS.mono s5).tups stF fun o h => bF _ _ hbdd h
      clear hM4 hd4 hlq hbk5 hlm5 bF stF hP4 hk4 hd5 hS hB
      generalize upd H5 d (.frz od (.dK kvs)) = HF at *
      refine ⟨.ref d, rfl, d, od, rfl, .inl ⟨kvs, hdF, for_it (walk_keys (kvs := kvs)) (fun i σ H' => ∃ y11 y12 y13 y14, σ = [some (.ref ma), some (.ref ld), some (.str (ch c)), some (.ref lr), some (.ref lk), some (.ref lz), some (.ref d), some (.ref bk), some (.ref lm), y9, some (.ref lq), y11, y12, y13, y14] ∧ Same HF H')
        ⟨none, none, none, none, rfl, Same.refl _⟩ (fun i σ H' _ ⟨_, _, _, _, _, s⟩ => s _ _ hdF) ?_ ?_⟩⟩
      · rintro i x σ H6 H6' hi ⟨y11, y12, y13, y14, rfl, s6⟩ ⟨rfl, k, v, hkv, rfl⟩
        have hkn : kvs.length = names.length := Paired.length hE4
        obtain ⟨np, hnp⟩ := get_at (l := names) (i := i) (by omega)
        obtain ⟨kv, hkv2, hkk, hvv⟩ := P_get hE4 hnp
        rw [hkv] at hkv2
        cases hkv2
        have hkk : k = .inr (wd np.1) := hkk
        have hvv : v = .int (np.2 : Int) := hvv
        subst hkk
        subst hvv
        have hen : names.length = E'.length := Paired.length hm.env
        obtain ⟨p, hpi⟩ := get_at (l := E') (i := i) (by omega)
        obtain ⟨np', hnp', hn1, hxp⟩ := P_get hm.env hpi
        rw [hnp] at hnp'
        cases hnp'
        have hgN := getE_at hm.ord.nd hnp
        have hgE := getE_at hm.ordE.nd hpi
        rw [← hn1] at hgE
        have hgX := often_get ⟨x0, e0, ef⟩ et hgE
        obtain ⟨vn, hvn, rfl⟩ := hE4.get hgN
        obtain ⟨w, hw⟩ : ∃ w, np.1 = w := ⟨_, rfl⟩
        obtain ⟨at_, hat⟩ : ∃ a, np.2 = a := ⟨_, rfl⟩
        obtain ⟨y, hy⟩ : ∃ y, p.2 = y := ⟨_, rfl⟩
        rw [hw] at hgX hvn
        rw [hat] at hvn hxp
        rw [hy] at hgX hxp
        show (gName 11) (.str (wd np.1)) _ _ _
        rw [hw]
        clear hkv hgN hgE hpi hnp
        have hzH := s6 _ _ hzF
        have hdH := s6 _ _ hdF
        refine ⟨.ref d, rfl, .str (wd w), rfl, d, _, rfl, .inl ⟨kvs, .inr (wd w), .inr ⟨od, hdH⟩, rfl, hvn.symm⟩, ?_⟩
        have hlmH := s6 _ _ hlmF
        refine ⟨.ref lm, rfl, lm, _, rfl, .inl (sqL hlmH), (rowV (List.replicate n rJ)).length, rfl, rfl, by omega, by show 2 ≤ sizeLine; decide, fun lo nlo => ⟨.str (wd w), rfl, rfl, .inr ⟨_, rfl, lo, _, _, .int ((2 ^ often n w : Nat) : Int), rfl, rfl, sqL upd_same, by rw [hml]; exact often_at n w, ?_⟩⟩⟩
        have s7 := s6.trans (same_new (o := HO.lst [V.int 1, .int (2 ^ (rowV (List.replicate n rJ)).length)]) nlo)
        generalize upd H6' lo (.lst [V.int 1, .int (2 ^ (rowV (List.replicate n rJ)).length)]) = H7 at s7
        clear hzH hdH hlmH s6
        have hz7 := s7 _ _ hzF
        have hyp := hm.kt.pos y (List.mem_of_getElem? hxp)
        refine ⟨.ref ld, rfl, ld, _, 2, .int d2, rfl, rfl, sqL (s7 _ _ hldF), a2, .ref lz, rfl, .int (at_ : Int), rfl, lz, _, _, _, rfl, rfl, sqL hz7, at_nV (lenN_get hxp), d2, y.length, rfl, hd2r, hyp, fun pl hpl => ?_⟩
        obtain ⟨cc, hcc⟩ := get_at (l := y) (i := pl) hpl
        have hXl := hSF.short w _ hgX
        have e62 : 2 ^ (all.length + 2) ≤ 2 ^ 60 := Nat.pow_le_pow_right (by decide) (by omega)
        have e6062 : (2 : Nat) ^ 60 ≤ 2 ^ 62 := by decide
        have e6160 : (2 : Nat) ^ 60 < 2 ^ 61 := by decide
        have hXl62 : (dbl (often n w) y).length ≤ 2 ^ 62 := by omega
        have hyX : y.length ≤ (dbl (often n w) y).length := by
          rw [dbl_len]
          exact Nat.le_mul_of_pos_right _ (Nat.two_pow_pos _)
        have hol := often_le hn12 w
        have e11 : (2 : Nat) ^ 11 < 2 ^ 13 := by decide
        have e1 : (y.length : Int) * ((2 ^ often n w : Nat) : Int) = ((dbl (often n w) y).length : Int) := by
          rw [dbl_len]
          exact (Int.natCast_mul _ _).symm
        have e2 : ((y.count c : Nat) : Int) * ((2 ^ often n w : Nat) : Int) = (((dbl (often n w) y).count c : Nat) : Int) := by
          rw [dbl_count]
          exact (Int.natCast_mul _ _).symm
        have hyc : y.count c ≤ y.length := List.count_le_length
        have w1 : CMulW (y.length : Int) ((2 ^ often n w : Nat) : Int) := wide_mul (a := 61) (b := 13) (by omega) (Nat.lt_of_le_of_lt hol e11) (by decide) (by decide) (by decide)
        have w2 : CMulW ((y.count c : Nat) : Int) ((2 ^ often n w : Nat) : Int) := wide_mul (a := 61) (b := 13) (by omega) (Nat.lt_of_le_of_lt hol e11) (by decide) (by decide) (by decide)
        have hS7 := hSF.mono s7
        have hbk7 := s7 _ _ hbkF
        have lw1 : ("length " : Str).length + (wd w).length ≤ sizeLine := szl (by cases w <;> decide +kernel)
        refine ⟨.ref bk, rfl, bk, dx, _, rfl, hbk7, say_look _, .str (wd w), rfl, "length ", wd w, rfl, rfl, lw1, bk, dx, bd, E2, U, all.length, (Ak.length w).text, by rw [len_text]; rfl, hbk7, hS7, by omega, .inr ⟨.length w, _, _, trivial, rfl, hgX, rfl, fun H8 s8 => ?_⟩⟩
        have s78 := s7.trans s8
        refine ⟨.ref lz, rfl, .int (at_ : Int), rfl, lz, _, _, _, rfl, rfl, sqL (s78 _ _ hzF), at_nV (lenN_get hxp), .int ((2 ^ often n w : Nat) : Int), rfl, _, _, rfl, rfl, w1, _, rfl, by rw [e1]; exact log_ok hXl62, rfl, _, rfl, ?_⟩
        rw [intd (show V.str (numS (dbl (often n w) y).length) = V.str (Str.ofString (toString ((y.length : Int) * ((2 ^ often n w : Nat) : Int)))) by rw [e1]; rfl)]
        refine iteF ?_
        have hbk8 := s78 _ _ hbkF
        have hS8 := hSF.mono s78
        have hpl19 : pl < 10 ^ 19 := Nat.lt_of_lt_of_le (Nat.lt_of_lt_of_le hpl (Nat.le_trans hyX (Nat.le_trans hXl e62))) (by decide)
        have hnl : (numS pl).length ≤ 19 := by
          rw [numS_tx, tx_len]
          exact TL.numL_len (by decide) hpl19
        have lw2 : ("sign " : Str).length + (wd w).length ≤ sizeLine := szl (by cases w <;> decide +kernel)
        have lw3 : (("sign " : Str) ++ wd w).length + (" " : Str).length ≤ sizeLine := szl (by cases w <;> decide +kernel)
        have lw4 : ((("sign " : Str) ++ wd w) ++ " ").length ≤ 100 := by cases w <;> decide +kernel
        have lw5 : ((("sign " : Str) ++ wd w) ++ " ").length + (numS pl).length ≤ sizeLine := szl (by omega)
        have hpl62 : pl ≤ 2 ^ 62 := Nat.le_trans (Nat.le_of_lt hpl) (by omega)
        refine ⟨.ref bk, rfl, bk, dx, _, rfl, hbk8, say_look _, .str (wd w), rfl, "sign ", wd w, rfl, rfl, lw2, _, _, rfl, rfl, lw3, .int (pl : Int), rfl, _, rfl, log_ok hpl62, _, _, rfl, rfl, lw5, bk, dx, bd, E2, U, all.length, (Ak.sign w pl).text, by rw [← sign_text]; rfl, hbk8, hS8, by omega, .inr ⟨.sign w pl, _, ch cc, hpl19, rfl, hgX, ⟨cc, dbl_get _ _ hcc, rfl⟩, fun H9 s9 => ?_⟩⟩
        have s79 := s78.trans s9
        refine ⟨.ref lk, rfl, .ref lz, rfl, .int (at_ : Int), rfl, .int (pl : Int), rfl, lk, lz, us, ks, xs, at_, pl, cc, y, rfl, s79 _ _ hkF, Paired.mapP hPF fun _ _ z => z.mono s79, hm.kt, s79 _ _ hzF, hxp, hcc, fun H10 s10 => ⟨rfl, _, rfl, ?_⟩⟩
        rw [intd (show V.str (ch cc) = V.str (ch cc) from rfl)]
        refine iteF ?_
        have s710 := s79.trans s10
        have hbk10 := s710 _ _ hbkF
        have hS10 := hSF.mono s710
        have lc1 : ("count " : Str).length + (wd w).length ≤ sizeLine := szl (by cases w <;> decide +kernel)
        have lc2 : (("count " : Str) ++ wd w).length + (" " : Str).length ≤ sizeLine := szl (by cases w <;> decide +kernel)
        have lc3 : ((("count " : Str) ++ wd w) ++ " ").length ≤ 100 := by cases w <;> decide +kernel
        have lc4 : ((("count " : Str) ++ wd w) ++ " ").length + (ch c).length ≤ sizeLine := szl (by show _ + 1 ≤ _; omega)
        refine ⟨.ref bk, rfl, bk, dx, _, rfl, hbk10, say_look _, .str (wd w), rfl, "count ", wd w, rfl, rfl, lc1, _, _, rfl, rfl, lc2, .str (ch c), rfl, _, _, rfl, rfl, lc4, bk, dx, bd, E2, U, all.length, (Ak.count w c).text, by rw [← count_text]; rfl, hbk10, hS10, by omega, .inr ⟨.count w c, _, _, hc, rfl, hgX, rfl, fun H11 s11 => ?_⟩⟩
        have s711 := s710.trans s11
        refine ⟨.ref lq, rfl, .int (at_ : Int), rfl, lq, _, _, _, rfl, rfl, sqL (s711 _ _ hlqF), at_nV (cntN_get hxp), .int ((2 ^ often n w : Nat) : Int), rfl, _, _, rfl, rfl, w2, _, rfl, by rw [e2]; exact log_ok (Nat.le_trans List.count_le_length hXl62), rfl, _, rfl, ?_⟩
        rw [intd (show V.str (numS ((dbl (often n w) y).count c)) = V.str (Str.ofString (toString (((y.count c : Nat) : Int) * ((2 ^ often n w : Nat) : Int)))) by rw [e2]; rfl)]
        exact iteF ⟨_, _, _, _, rfl, s711⟩
      · rintro σ H6 ⟨y11, y12, y13, y14, rfl, s6⟩
        exact ⟨s6 _ _ hdF, q _⟩
end
end Sb
set_option Elab.async false
set_option linter.all false
set_option maxRecDepth 100000
set_option maxHeartbeats 4000000
set_option pp.maxSteps 300
/-! The law. -/
namespace Sb
open PySem PySem.Spec PyProof.Rows L2
theorem sum_le {k : Nat} : ∀ {zs : List Nat}, (∀ z ∈ zs, z ≤ k) → zs.sum ≤ k * zs.length
  | [], _ => Nat.zero_le _
  | z :: zs, h => by
    have h1 := h z (List.mem_cons_self ..)
    have h2 := sum_le fun y hy => h y (List.mem_cons_of_mem z hy)
    rw [List.sum_cons, List.length_cons, Nat.mul_succ]
    omega
theorem tale_join (rows : List Rw) : Txt.join "; " (rows.map fun r => tx r.text) = tx (tale rows) := by
  rw [semi, show (rows.map fun r => tx r.text) = (rows.map Rw.text).map SX.S by rw [List.map_map]; rfl]
  exact SX.join_S _ _
theorem tale_sum {rows : List Rw} (h : ∀ r ∈ rows, r.fine) : ((rows.map fun r => tx r.text).map (·.length)).sum ≤ 205 * rows.length := by
  have h2 : ∀ z ∈ (rows.map fun r => tx r.text).map (·.length), z ≤ 205 := fun z hz => by
    obtain ⟨y, hy, rfl⟩ := List.mem_map.mp hz
    obtain ⟨r, hr, rfl⟩ := List.mem_map.mp hy
    show (tx r.text).length ≤ 205
    rw [tx_len]
    exact r.text_len (h r hr)
  have := sum_le h2
  rw [List.length_map, List.length_map] at this
  exact this
theorem row_strs (rows : List Rw) : rowV rows = (rows.map fun r => tx r.text).map V.str := by
  unfold rowV
  rw [List.map_map]
  rfl
section
variable {P : Program} {w : World} {K : PySem.W.Frag} {mg : Str → Option Value} {base : Heap}
theorem fn_mk {nm qual : Str} {st : Stmt} {N ps : List Str} {k : Nat} {sp : Sp} {f : Addr} {fd : FuncData} (F : FunD K nm qual (defArgs st) (defBody st) (defScope st) [] [] f fd) (S : FnScope N ps (defScope st)) (len : ∀ vs H Q E, sp vs H Q E → vs.length = ps.length)
    (hbody : ∀ (f : Addr) (cdv : Value) (A : Around) (outer : List PySem.Env) (s : Shared) (H : Hp) (vs : List V) (Q : VK) (E : XK), Room k (A.deeper (envOfC qual (defScope st) s.heap.objs.size f cdv)) → sp vs H Q E →
      ∃ t, PSs (cxOf CX0 P w K mg base N qual (defScope st) f cdv A outer s H E).nox (defBody st) t ∧ t { nx := fun _ H' => Q .non H', rt := Q } (start N vs) H) : FnOk P w K mg base CX0 (k + 1) f fd ps sp := by
  refine F.ok S len fun cdv A outer s H vs Q E hr h => ?_
  obtain ⟨t, h1, h2⟩ := hbody f cdv A outer s H vs Q E hr h
  exact ⟨t, h1.nox, h2⟩
def sp_law (K : PySem.W.Frag) : Sp := fun vs H Q _ => ∃ (a : Addr) (ns : List Int), vs = [.ref a] ∧ SqL K H a (ns.map V.int) ∧ ns.length ≤ 63 ∧ ∀ H', Q (.bl true) H'
theorem ok_law (T : Hd K mg) {f : Addr} {fd : FuncData} (F : FunD K "law" "law" (defArgs s_law) (defBody s_law) (defScope s_law) [] [] f fd) : FnOk P w K mg base CX0 11 f fd ["_law_script"] (sp_law K) := by
  refine fn_mk F sc_law (fun vs H Q E h => ?_) (fun fa cdv A outer s H vs Q E hr h => ⟨_, (pss_cons (ps_set (i := 1) sc_law.nd rfl (Or.inl rfl) (pe_own (ok_Ldraws T) (hr.mono (by decide)) (by rfl) (pa_cons (pv 0) (pa_cons pe_int (pa_cons pe_int pa_nil)))))
      (pss_cons (ps_set (i := 2) sc_law.nd rfl (Or.inl rfl) (pe_own (ok_Lmade T) (hr.mono (by decide)) (by rfl) (pa_cons (pv 1) pa_nil)))
      (pss_cons (ps_set (i := 3) sc_law.nd rfl (Or.inl rfl) (pe_own (ok_Lsign_by T) (hr.mono (by decide)) (by rfl) (pa_cons (pe_ix ix_list (pv 1) pe_int (fun _ _ => rfl)) pa_nil)))
      (C8.pss_cut (ps_if (pt_cmpR op_eq (pe_op op_mod (pe_ix ix_list (pv 1) pe_int (fun _ _ => rfl)) pe_int) pe_int (nomark _)) (pss_one (ps_set (i := 3) sc_law.nd rfl (Or.inl rfl) (pe_ix ix_str (pe_ix ix_tup (pe_ix ix_list (pe_ix ix_tup (pv 2) pe_int (fun _ _ => rfl)) pe_int (fun _ _ => rfl)) pe_int (fun _ _ => rfl)) (pe_op op_mod (pe_op op_fdivW (pe_ix ix_list (pv 1) pe_int (fun _ _ => rfl)) pe_int) (pe_callB call_len_str (by rfl) T.z_len (by decide +kernel) (pa_cons (pe_ix ix_tup (pe_ix ix_list (pe_ix ix_tup (pv 2) pe_int (fun _ _ => rfl)) pe_int (fun _ _ => rfl)) pe_int (fun _ _ => rfl)) pa_nil))) (fun _ _ => rfl)))) pss_nil)
      (pss_cons (ps_if (pt_not (pt_val (pe_own (ok_Lis_right T) (hr.mono (by decide)) (by rfl) (pa_cons (pe_own (ok_read T) (hr.mono (by decide)) (by rfl) (pa_cons (pe_join pe_str (pe_ix ix_tup (pv 2) pe_int (fun _ _ => rfl))) pa_nil)) (pa_cons (pv 2) (pa_cons (pe_ix ix_list (pv 1) pe_int (fun _ _ => rfl)) pa_nil)))))) (pss_one (ps_ret pe_bl)) pss_nil)
      (pss_one (ps_ret (pe_own (ok_Lbook_keeps T) (hr.mono (by decide)) (by rfl) (pa_cons (pv 2) (pa_cons (pv 1) (pa_cons (pv 3) pa_nil))))))))))), ?_⟩)
  · obtain ⟨a, ns, rfl, _⟩ := h
    rfl
  · obtain ⟨a, ns, rfl, hs, h63, q⟩ := h
    refine ⟨.ref a, rfl, a, ns, rfl, hs, h63, fun ld ds H1 s1 hld h4 h42 hD => ?_⟩
    refine ⟨.ref ld, rfl, ld, ds, rfl, hld, h4, h42, hD, fun ma lr lk lz d H2 rows ks xs names E' s2 hma hM hz h40 => ?_⟩
    have hld2 := s2 _ _ hld
    obtain ⟨d1, _, hd1r, a1⟩ : ∃ z, ds[1]? = some z ∧ Dr z ∧ atI (ds.map V.int) ((1 : Nat) : Int) = some (.int z) := by
      obtain ⟨z, hz⟩ := get_at (l := ds) (i := 1) (by omega)
      exact ⟨z, hz, hD z (List.mem_of_getElem? hz), atI_nat (by rw [List.getElem?_map, hz]; rfl)⟩
    obtain ⟨d2, _, hd2r, a2⟩ : ∃ z, ds[2]? = some z ∧ Dr z ∧ atI (ds.map V.int) ((2 : Nat) : Int) = some (.int z) := by
      obtain ⟨z, hz⟩ := get_at (l := ds) (i := 2) (by omega)
      exact ⟨z, hz, hD z (List.mem_of_getElem? hz), atI_nat (by rw [List.getElem?_map, hz]; rfl)⟩
    refine ⟨.ref ld, rfl, ld, _, 1, .int d1, rfl, rfl, sqL hld2, a1, d1, rfl, fun c hc => ?_⟩
    have hm := hM.m
    refine ⟨fun σ' H' => H' = H2 ∧ ∃ c, OkC c ∧ σ' = [some (.ref a), some (.ref ld), some (.ref ma), some (.str (ch c))], ?_, ?_⟩
    · by_cases h2 : d1 % 2 = 0
      · refine s_yes (a_eq (v_mod (v_ixL (vx 1) vc (sqL hld2) a1) vc (by decide)) vc rfl (intd (by rw [h2]))) ?_
        obtain ⟨s, hk0⟩ := hm.fst
        obtain ⟨us, hk, hP⟩ := hM.hk
        obtain ⟨v, hv, b, rfl, hb⟩ := P_get hP hk0
        obtain ⟨x, hx, rfl, hne, hl4, hok⟩ := hm.kt.get hk0
        have hpos : 0 < x.length := List.length_pos_iff.mpr hne
        have e0 := Int.emod_nonneg (d1 / 2) (show (x.length : Int) ≠ 0 by omega)
        have e1 := Int.emod_lt_of_pos (d1 / 2) (show (0 : Int) < (x.length : Int) by omega)
        obtain ⟨c', hc'⟩ := get_at (l := x) (i := (d1 / 2 % (x.length : Int)).toNat) (by omega)
        have hat : atI (tx x).cps.toList (d1 / 2 % ((tx x).length : Int)) = some c' := by
          rw [tx_len, ← Int.toNat_of_nonneg e0]
          exact atI_nat hc'
        refine ⟨.ref ma, rfl, ma, _, 1, .ref lk, rfl, rfl, sqT hma, atI_nat (j := 1) rfl, lk, _, 0, .ref b, rfl, rfl, sqL hk, atI_nat hv, b, _, 1, .str (tx x), rfl, rfl, sqT hb, atI_nat (j := 1) rfl, ?_⟩
        refine ⟨.ref ld, rfl, ld, _, 1, .int d1, rfl, rfl, sqL hld2, a1, d1, 2, rfl, rfl, cd _, ?_⟩
        refine ⟨.ref ma, rfl, ma, _, 1, .ref lk, rfl, rfl, sqT hma, atI_nat (j := 1) rfl, lk, _, 0, .ref b, rfl, rfl, sqL hk, atI_nat hv, b, _, 1, .str (tx x), rfl, rfl, sqT hb, atI_nat (j := 1) rfl, tx x, rfl, szl (by rw [tx_len]; omega), _, _, rfl, rfl, (by show (0 : Int) < ((tx x).length : Int); rw [tx_len]; omega), ?_⟩
        exact ⟨tx x, _, c', rfl, rfl, szl (by rw [tx_len]; omega), hat, rfl, c', hok c' (List.mem_of_getElem? hc'), rfl⟩
      · refine s_no (a_eq (v_mod (v_ixL (vx 1) vc (sqL hld2) a1) vc (by decide)) vc rfl (intn fun e => h2 (V.int.inj e))) ?_
        exact ⟨rfl, c, hc, rfl⟩
    · rintro σ' H' ⟨rfl, c, hc, rfl⟩
      have hf := hm.run.fine
      refine ⟨⟨_, rfl⟩, .ref ma, rfl, ma, _, 0, .ref lr, rfl, rfl, sqT hma, atI_nat (j := 0) rfl, "; ", lr, rows.map (fun r => tx r.text), rfl, rfl, .inl (by rw [← row_strs]; exact sqL hM.hr), ?_, ?_⟩
      · have := tale_sum hf
        rw [List.length_map]
        show _ + rows.length * 2 ≤ _
        omega
      rw [tale_join]
      refine ⟨rows, E', rfl, hm.ne, by omega, hm.run, hm.ordE, fun fa2 l u rs ts us H3 s3 hfa hu hT hfew hle hl hN => ?_⟩
      have hR : Read H3 fa2 rs ts E' := ⟨⟨u, l, us, hfa, hu, hl, hN⟩, hT, hfew, fun t ht => Nat.le_trans (hle t ht) (Nat.pow_le_pow_right (by decide) (by omega))⟩
      refine ⟨.ref ma, rfl, .ref ld, rfl, ld, _, 2, .int d2, rfl, rfl, sqL (s3 _ _ hld2), a2, ?_⟩
      refine ⟨fa2, ma, lr, lk, lz, d, d2, rs, ts, E', rows, ks, xs, names, rfl, hR, s3 _ _ hma, hM.mono s3, s3 _ _ hz, hd2r, fun H4 s4 => ⟨true, rfl, iteF ?_⟩⟩
      have s34 := s3.trans s4
      exact ⟨.ref ma, rfl, .ref ld, rfl, .str (ch c), rfl, ma, ld, lr, lk, lz, d, ds, c, rows, ks, xs, names, E', rfl, s34 _ _ hma, hM.mono s34, s34 _ _ hz, h40, s34 _ _ hld2, h4, hD, hc, q⟩
end
end Sb
set_option Elab.async false
set_option maxRecDepth 100000
set_option maxHeartbeats 0
/-! The head: the facts that the top leaves, by one kernel run (printed by gen_head.py). -/
namespace Sb
open PySem PySem.Spec PyProof.Rows L2
def d_is_sign : He.DefD := ⟨("is_sign", none), "is_sign", "is_sign", defArgs s_is_sign, defBody s_is_sign, defScope s_is_sign, [], []⟩
def d_size_of : He.DefD := ⟨("size_of", none), "size_of", "size_of", defArgs s_size_of, defBody s_size_of, defScope s_size_of, [], []⟩
def d_parts_of : He.DefD := ⟨("parts_of", none), "parts_of", "parts_of", defArgs s_parts_of, defBody s_parts_of, defScope s_parts_of, [], []⟩
def d_needed : He.DefD := ⟨("needed", none), "needed", "needed", defArgs s_needed, defBody s_needed, defScope s_needed, [], []⟩
def d_named : He.DefD := ⟨("named", none), "named", "named", defArgs s_named, defBody s_named, defScope s_named, [], []⟩
def d_lengths : He.DefD := ⟨("lengths", none), "lengths", "lengths", defArgs s_lengths, defBody s_lengths, defScope s_lengths, [], []⟩
def d_length : He.DefD := ⟨("length", none), "length", "length", defArgs s_length, defBody s_length, defScope s_length, [], []⟩
def d_count : He.DefD := ⟨("count", none), "count", "count", defArgs s_count, defBody s_count, defScope s_count, [], []⟩
def d_sign_at : He.DefD := ⟨("sign_at", none), "sign_at", "sign_at", defArgs s_sign_at, defBody s_sign_at, defScope s_sign_at, [], []⟩
def d_put : He.DefD := ⟨("put_making", none), "put", "put", defArgs s_put, defBody s_put, defScope s_put, [], []⟩
def d_linked : He.DefD := ⟨("linked", none), "linked", "linked", defArgs s_linked, defBody s_linked, defScope s_linked, [], []⟩
def d_over : He.DefD := ⟨("over", none), "over", "over", defArgs s_over, defBody s_over, defScope s_over, [], []⟩
def d_renamed : He.DefD := ⟨("renamed", none), "renamed", "renamed", defArgs s_renamed, defBody s_renamed, defScope s_renamed, [], []⟩
def d_joined : He.DefD := ⟨("joined", none), "joined", "joined", defArgs s_joined, defBody s_joined, defScope s_joined, [], []⟩
def d_repeated : He.DefD := ⟨("repeated", none), "repeated", "repeated", defArgs s_repeated, defBody s_repeated, defScope s_repeated, [], []⟩
def d_brought : He.DefD := ⟨("brought", none), "brought", "brought", defArgs s_brought, defBody s_brought, defScope s_brought, [], []⟩
def d_beginning : He.DefD := ⟨("beginning", none), "beginning", "beginning", defArgs s_beginning, defBody s_beginning, defScope s_beginning, [], []⟩
def d_ending : He.DefD := ⟨("ending", none), "ending", "ending", defArgs s_ending, defBody s_ending, defScope s_ending, [], []⟩
def d_across : He.DefD := ⟨("across", none), "across", "across", defArgs s_across, defBody s_across, defScope s_across, [], []⟩
def d_cut : He.DefD := ⟨("cut", none), "cut", "cut", defArgs s_cut, defBody s_cut, defScope s_cut, [], []⟩
def d_tidy : He.DefD := ⟨("tidy", none), "tidy", "tidy", defArgs s_tidy, defBody s_tidy, defScope s_tidy, [], []⟩
def d_turned : He.DefD := ⟨("turned", none), "turned", "turned", defArgs s_turned, defBody s_turned, defScope s_turned, [], []⟩
def d_is_word : He.DefD := ⟨("is_word", none), "is_word", "is_word", defArgs s_is_word, defBody s_is_word, defScope s_is_word, [], []⟩
def d_number_of : He.DefD := ⟨("number_of", none), "number_of", "number_of", defArgs s_number_of, defBody s_number_of, defScope s_number_of, [], []⟩
def d_signs_of : He.DefD := ⟨("signs_of", none), "signs_of", "signs_of", defArgs s_signs_of, defBody s_signs_of, defScope s_signs_of, [], []⟩
def d_value_of : He.DefD := ⟨("value_of", none), "value_of", "value_of", defArgs s_value_of, defBody s_value_of, defScope s_value_of, [], []⟩
def d_values_of : He.DefD := ⟨("values_of", none), "values_of", "values_of", defArgs s_values_of, defBody s_values_of, defScope s_values_of, [], []⟩
def d_kinds_of : He.DefD := ⟨("kinds_of", none), "kinds_of", "kinds_of", defArgs s_kinds_of, defBody s_kinds_of, defScope s_kinds_of, [], []⟩
def d_statement_of : He.DefD := ⟨("statement_of", none), "statement_of", "statement_of", defArgs s_statement_of, defBody s_statement_of, defScope s_statement_of, [], []⟩
def d_ask_standing : He.DefD := ⟨("ask_standing", none), "ask_standing", "ask_standing", defArgs s_ask_standing, defBody s_ask_standing, defScope s_ask_standing, [], []⟩
def d_spelled_rules : He.DefD := ⟨("spelled_rules", none), "spelled_rules", "spelled_rules", defArgs s_spelled_rules, defBody s_spelled_rules, defScope s_spelled_rules, [], []⟩
def d_side_by_side : He.DefD := ⟨("side_by_side", none), "side_by_side", "side_by_side", defArgs s_side_by_side, defBody s_side_by_side, defScope s_side_by_side, [], []⟩
def d_put_in : He.DefD := ⟨("put_in", none), "put_in", "put_in", defArgs s_put_in, defBody s_put_in, defScope s_put_in, [], []⟩
def d_of_two : He.DefD := ⟨("of_two", none), "of_two", "of_two", defArgs s_of_two, defBody s_of_two, defScope s_of_two, [], []⟩
def d_of_one : He.DefD := ⟨("of_one", none), "of_one", "of_one", defArgs s_of_one, defBody s_of_one, defScope s_of_one, [], []⟩
def d_made_text : He.DefD := ⟨("made_text", none), "made_text", "made_text", defArgs s_made_text, defBody s_made_text, defScope s_made_text, [], []⟩
def d_texts_of : He.DefD := ⟨("texts_of", none), "texts_of", "texts_of", defArgs s_texts_of, defBody s_texts_of, defScope s_texts_of, [], []⟩
def d_read : He.DefD := ⟨("read", none), "read", "read", defArgs s_read, defBody s_read, defScope s_read, [], []⟩
def d_asked_kinds : He.DefD := ⟨("asked_kinds", none), "asked_kinds", "asked_kinds", defArgs s_asked_kinds, defBody s_asked_kinds, defScope s_asked_kinds, [], []⟩
def d_asking_of : He.DefD := ⟨("asking_of", none), "asking_of", "asking_of", defArgs s_asking_of, defBody s_asking_of, defScope s_asking_of, [], []⟩
def d_about_one : He.DefD := ⟨("about_one", none), "about_one", "about_one", defArgs s_about_one, defBody s_about_one, defScope s_about_one, [], []⟩
def d_about_more : He.DefD := ⟨("about_more", none), "about_more", "about_more", defArgs s_about_more, defBody s_about_more, defScope s_about_more, [], []⟩
def d_Lmixed : He.DefD := ⟨("_law_mixed", none), "_law_mixed", "_law_mixed", defArgs s_Lmixed, defBody s_Lmixed, defScope s_Lmixed, [], []⟩
def d_Ldraws : He.DefD := ⟨("_law_draws", none), "_law_draws", "_law_draws", defArgs s_Ldraws, defBody s_Ldraws, defScope s_Ldraws, [], []⟩
def d_Lsign_by : He.DefD := ⟨("_law_sign_by", none), "_law_sign_by", "_law_sign_by", defArgs s_Lsign_by, defBody s_Lsign_by, defScope s_Lsign_by, [], []⟩
def d_Lplace : He.DefD := ⟨("_law_place", none), "_law_place", "_law_place", defArgs s_Lplace, defBody s_Lplace, defScope s_Lplace, [], []⟩
def d_Lwhole : He.DefD := ⟨("_law_whole", none), "_law_whole", "_law_whole", defArgs s_Lwhole, defBody s_Lwhole, defScope s_Lwhole, [], []⟩
def d_Lgood_rule : He.DefD := ⟨("_law_good_rule", none), "_law_good_rule", "_law_good_rule", defArgs s_Lgood_rule, defBody s_Lgood_rule, defScope s_Lgood_rule, [], []⟩
def d_Llengths : He.DefD := ⟨("_law_lengths", none), "_law_lengths", "_law_lengths", defArgs s_Llengths, defBody s_Llengths, defScope s_Llengths, [], []⟩
def d_Ltold : He.DefD := ⟨("_law_told", none), "_law_told", "_law_told", defArgs s_Ltold, defBody s_Ltold, defScope s_Ltold, [], []⟩
def d_Llength : He.DefD := ⟨("_law_length", none), "_law_length", "_law_length", defArgs s_Llength, defBody s_Llength, defScope s_Llength, [], []⟩
def d_Lsign_at : He.DefD := ⟨("_law_sign_at", none), "_law_sign_at", "_law_sign_at", defArgs s_Lsign_at, defBody s_Lsign_at, defScope s_Lsign_at, [], []⟩
def d_Lsigns : He.DefD := ⟨("_law_signs", none), "_law_signs", "_law_signs", defArgs s_Lsigns, defBody s_Lsigns, defScope s_Lsigns, [], []⟩
def d_Lstep : He.DefD := ⟨("_law_step", none), "_law_step", "_law_step", defArgs s_Lstep, defBody s_Lstep, defScope s_Lstep, [], []⟩
def d_Lmade : He.DefD := ⟨("_law_made", none), "_law_made", "_law_made", defArgs s_Lmade, defBody s_Lmade, defScope s_Lmade, [], []⟩
def d_Lback : He.DefD := ⟨("_law_back", none), "_law_back", "_law_back", defArgs s_Lback, defBody s_Lback, defScope s_Lback, [], []⟩
def d_Lsign_of : He.DefD := ⟨("_law_sign_of", none), "_law_sign_of", "_law_sign_of", defArgs s_Lsign_of, defBody s_Lsign_of, defScope s_Lsign_of, [], []⟩
def d_Lcounts : He.DefD := ⟨("_law_counts", none), "_law_counts", "_law_counts", defArgs s_Lcounts, defBody s_Lcounts, defScope s_Lcounts, [], []⟩
def d_Lis_right : He.DefD := ⟨("_law_is_right", none), "_law_is_right", "_law_is_right", defArgs s_Lis_right, defBody s_Lis_right, defScope s_Lis_right, [], []⟩
def d_Lbook_keeps : He.DefD := ⟨("_law_book_keeps", none), "_law_book_keeps", "_law_book_keeps", defArgs s_Lbook_keeps, defBody s_Lbook_keeps, defScope s_Lbook_keeps, [], []⟩
def d_law : He.DefD := ⟨("law", none), "law", "law", defArgs s_law, defBody s_law, defScope s_law, [], []⟩
def d_Binit : He.DefD := ⟨("Book", some "__init__"), "__init__", "Book.__init__", defArgs s_Binit, defBody s_Binit, defScope s_Binit, [], []⟩
def d_Bsay : He.DefD := ⟨("Book", some "say"), "say", "Book.say", defArgs s_Bsay, defBody s_Bsay, defScope s_Bsay, [], []⟩
def d_Banswer : He.DefD := ⟨("Book", some "answer"), "answer", "Book.answer", defArgs s_Banswer, defBody s_Banswer, defScope s_Banswer, [], []⟩
def fn0 : List He.DefD := [d_is_sign, d_size_of, d_parts_of, d_needed, d_named, d_lengths, d_length, d_count, d_sign_at, d_put, d_linked, d_over, d_renamed, d_joined, d_repeated, d_brought]
def fn1 : List He.DefD := [d_beginning, d_ending, d_across, d_cut, d_tidy, d_turned, d_is_word, d_number_of, d_signs_of, d_value_of, d_values_of, d_kinds_of, d_statement_of, d_ask_standing, d_spelled_rules, d_side_by_side]
def fn2 : List He.DefD := [d_put_in, d_of_two, d_of_one, d_made_text, d_texts_of, d_read, d_asked_kinds, d_asking_of, d_about_one, d_about_more, d_Lmixed, d_Ldraws, d_Lsign_by, d_Lplace, d_Lwhole, d_Lgood_rule]
def fn3 : List He.DefD := [d_Llengths, d_Ltold, d_Llength, d_Lsign_at, d_Lsigns, d_Lstep, d_Lmade, d_Lback, d_Lsign_of, d_Lcounts, d_Lis_right, d_Lbook_keeps, d_law, d_Binit, d_Bsay, d_Banswer]
def fn : List He.DefD := fn0 ++ (fn1 ++ (fn2 ++ (fn3)))
def fa0 : List He.Fa := [.glo "is_sign", .glo "size_of", .glo "parts_of", .glo "needed", .glo "named", .glo "lengths", .glo "length", .glo "count", .glo "sign_at", .glo "put_making", .glo "linked", .glo "over", .glo "renamed", .glo "joined", .glo "repeated", .glo "brought"]
def fa1 : List He.Fa := [.glo "beginning", .glo "ending", .glo "across", .glo "cut", .glo "tidy", .glo "turned", .glo "is_word", .glo "number_of", .glo "signs_of", .glo "value_of", .glo "values_of", .glo "kinds_of", .glo "statement_of", .glo "ask_standing", .glo "spelled_rules", .glo "side_by_side"]
def fa2 : List He.Fa := [.glo "put_in", .glo "of_two", .glo "of_one", .glo "made_text", .glo "texts_of", .glo "read", .glo "asked_kinds", .glo "asking_of", .glo "about_one", .glo "about_more", .glo "_law_mixed", .glo "_law_draws", .glo "_law_sign_by", .glo "_law_place", .glo "_law_whole", .glo "_law_good_rule"]
def fa3 : List He.Fa := [.glo "_law_lengths", .glo "_law_told", .glo "_law_length", .glo "_law_sign_at", .glo "_law_signs", .glo "_law_step", .glo "_law_made", .glo "_law_back", .glo "_law_sign_of", .glo "_law_counts", .glo "_law_is_right", .glo "_law_book_keeps", .glo "law", .glo "Book", .free "bool", .free "int"]
def fa4 : List He.Fa := [.free "isinstance", .free "len", .free "list", .free "max", .free "min", .free "range", .free "reversed", .free "sorted", .free "str", .free "tuple", .free "zip", .int "MOST" 1152921504606846976, .int "WORD" 8, .int "NUMBER" 19, .int "WRITTEN_words" 40, .str "SIGNS" "0123456789ABCDEFGHIJKLMNOPQRSTUVWXYZabcdefghijklmnopqrstuvwxyz"]
def fa5 : List He.Fa := [.str "FIGURES" "0123456789", .str "LETTERS" "abcdefghijklmnopqrstuvwxyz", .cls "Book", .noat "Book" "texts", .mkr "Book", .meth "Book" "say", .meth "Book" "answer"]
def fa : List He.Fa := fa0 ++ (fa1 ++ (fa2 ++ (fa3 ++ (fa4 ++ (fa5)))))
abbrev R : PySem.W.OpenRow := PySem.W.OpenLaw.row PySem.Challenge.rw_shortbook_k66_whole_texts_doubled
def refsA (g : Addr → Option Obj) (a : Addr) : List Addr := match g a with
  | some o => He.refsD o
  | none => []
/-- a list, its items made literals first -/
def frL {α : Type} : List Nat → (List Nat → α) → α
  | [], k => k []
  | a :: r, k => HandSHeadRun.frNat a fun a => frL r fun r => k (a :: r)
theorem frL_eq {α : Type} : ∀ (l : List Nat) (k : List Nat → α), frL l k = k l
  | [], _ => rfl
  | a :: r, k => by
    show (HandSHeadRun.frNat a fun a => frL r fun r => k (a :: r)) = _
    rw [HandSHeadRun.frNat_eq, frL_eq r]
def gn0 : List Str := ["_law_back", "_law_book_keeps", "_law_counts", "_law_draws", "_law_good_rule", "_law_is_right", "_law_length", "_law_lengths", "_law_made", "_law_mixed", "_law_place", "_law_sign_at", "_law_sign_by", "_law_sign_of", "_law_signs", "_law_step"]
def gn1 : List Str := ["_law_told", "_law_whole", "about_more", "about_one", "across", "ask_standing", "asked_kinds", "asking_of", "beginning", "brought", "count", "cut", "ending", "is_sign", "is_word", "joined"]
def gn2 : List Str := ["kinds_of", "law", "length", "lengths", "linked", "made_text", "named", "needed", "number_of", "of_one", "of_two", "over", "parts_of", "put_in", "put_making", "read"]
def gn3 : List Str := ["renamed", "repeated", "side_by_side", "sign_at", "signs_of", "size_of", "spelled_rules", "statement_of", "texts_of", "tidy", "turned", "value_of", "values_of"]
def gn : List Str := gn0 ++ (gn1 ++ (gn2 ++ (gn3)))
/-- where the facts stand: the module's names, the functions, their codes, the class with what it holds -/
def obsS (g : Addr → Option Obj) : He.AlD := frL (gn.map (He.ga (He.frG g [mainGlobals]))) fun fs => HandSHeadRun.frNat (He.ga (He.frG g [mainGlobals]) "Book") fun b =>
  frL (refsA g b) fun b2 => frL (b2.flatMap (refsA g)) fun b3 => frL (b3.flatMap (refsA g)) fun b4 => frL (fs.flatMap (refsA g)) fun l2 => He.obsD fa fn (He.frG g (mainGlobals :: (fs ++ (b :: (b2 ++ (b3 ++ (b4 ++ l2))))))) 
def hk : PySem.W.Hook where
  α := He.AlD
  obs := fun s => obsS s.heap.get?
  val := fun _ => He.valD fn
  says := fun _ h => ∃ K : PySem.W.Frag, K.In h ∧ He.SaysD fa fn K
  of := fun _ s e => by
    have e : obsS s.heap.get? = He.valD fn := e
    unfold obsS at e
    simp only [frL_eq, HandSHeadRun.frNat_eq] at e
    exact ⟨_, He.frG_in, e⟩
  keeps := fun _ _ _ ⟨K, hK, c⟩ k => ⟨K, PySem.W.Frag.In.keeps hK k, c⟩
def ob (s : PySem.W.SharedT) : He.AlD := obsS (HandSHeadRun.getT s)
theorem ob_eq (s : PySem.W.SharedT) : ob s = hk.obs s.abs := by
  have e : HandSHeadRun.getT s = s.abs.heap.get? := funext (HandSHeadRun.getT_eq s)
  show obsS (HandSHeadRun.getT s) = obsS s.abs.heap.get?
  rw [e]
def loose0 : List PySem.Str := ["BookError", "TooLong", "NoName", "NoPlace", "NoPattern", "NoText", "NoWord", "NoRow", "SIGNS", "is_sign", "MOST", "size_of", "parts_of", "needed", "WRITTEN_measure", "named"]
def loose1 : List PySem.Str := ["lengths", "length", "count", "sign_at", "unfolded", "put", "put_making", "linked", "over", "renamed", "joined", "repeated", "brought", "beginning", "ending", "across"]
def loose2 : List PySem.Str := ["cut", "tidy", "turned", "otherwise", "FIGURES", "LETTERS", "WORD", "NUMBER", "WRITTEN_words", "PATTERN_words", "is_word", "number_of", "signs_of", "value_of", "values_of", "kinds_of"]
def loose3 : List PySem.Str := ["statement_of", "ask_standing", "spelled_rules", "side_by_side", "put_in", "taken_out", "of_two", "of_one", "made_text", "texts_of", "read", "first_items", "standing", "put_rounds", "gift", "with_runs"]
def loose4 : List PySem.Str := ["with_pairs", "add_weights", "add_pairs", "dealt", "Rounds", "form", "lowered", "opened", "parted_rows", "parted", "ahead", "PATTERN_patterns", "is_pattern", "agreed", "behind_sign", "behind_join"]
def loose5 : List PySem.Str := ["behind_times", "behind", "stands", "first", "piece", "shift", "asked_kinds", "asking_of", "as_answer", "about_two", "about_one", "about_more", "Book", "_law_mixed", "_law_draws", "_law_sign_by"]
def loose6 : List PySem.Str := ["_law_place", "_law_whole", "_law_good_rule", "_law_lengths", "_law_told", "_law_length", "_law_sign_at", "_law_signs", "_law_step", "_law_made", "_law_back", "_law_sign_of", "_law_counts", "_law_is_right", "_law_book_keeps"]
def loose : List PySem.Str := loose0 ++ (loose1 ++ (loose2 ++ (loose3 ++ (loose4 ++ (loose5 ++ (loose6))))))
abbrev qv : Program := PySem.W.view R.prog [130]
noncomputable abbrev endS (w : World) (os : OsState) : Option PySem.W.SharedT := HandSHeadRun.endF (HandSHeadRun.stepQ (HandSHeadRun.denQ HandSHeadRun.tabQ) R.prog w) 8000 R.prog w os
theorem run1 (w : World) (os : OsState) : (endS w os).map (fun s => HandSHeadRun.looksF R.prog (PySem.W.boot_heap w.params) s.abs) = some true := by
  kernel_rfl
theorem run2 (w : World) (os : OsState) : (endS w os).map (fun s => HandSHeadRun.seenQ qv loose (PySem.importedModules R.prog.main.body) (fun s => PySem.W.xlAt qv [] s && PySem.W.recOk R.toRowW.records s) s.abs) = some (PySem.W.openGood qv loose) := by
  kernel_rfl
theorem run3 (w : World) (os : OsState) : (endS w os).map ob = some (He.valD fn) := by
  kernel_rfl
theorem map3 {α β γ δ : Type} {o : Option α} {f : α → β} {g : α → γ} {h : α → δ} {a : β} {b : γ} {c : δ} (e1 : o.map f = some a) (e2 : o.map g = some b) (e3 : o.map h = some c) : o.map (fun s => (f s, g s, h s)) = some (a, b, c) := by
  cases o with
  | none => cases e1
  | some s =>
    have z1 := Option.some.inj e1
    have z2 := Option.some.inj e2
    have z3 := Option.some.inj e3
    show some (f s, g s, h s) = _
    rw [z1, z2, z3]
theorem run (w : World) : HandSHeadRun.RunEq R qv hk ob 8000 loose w := fun os => map3 (run1 w os) (run2 w os) (run3 w os)
end Sb
set_option Elab.async false
set_option linter.all false
set_option maxRecDepth 100000
set_option maxHeartbeats 0
/-! The end: what the top leaves is what the walks ask; the row. -/
namespace Sb
open PySem PySem.Spec PyProof.Rows L2
section
variable {P : Program} {w : World} {K : PySem.W.Frag} {h : Heap} {mg : Str → Option Value}
theorem df {x nm : Str} {st : Stmt} (X : K.In h) (G : h.Ns mainGlobals mg) (c : He.SaysD fa fn K) (i j : Nat) (hf : fa[i]? = some (.glo x) := by rfl) (hd : fn[j]? = some ⟨(x, none), nm, nm, defArgs st, defBody st, defScope st, [], []⟩ := by rfl) : Df K mg x nm st := by
  obtain ⟨fd, F⟩ := c.def_ j hd
  exact ⟨_, fd, He.glo_ok X G (c.fact i hf), F⟩
theorem hd_of (X : K.In h) (G : h.Ns mainGlobals mg) (c : He.SaysD fa fn K) : Hd K mg where
  d_is_sign := df X G c 0 0
  d_size_of := df X G c 1 1
  d_parts_of := df X G c 2 2
  d_needed := df X G c 3 3
  d_named := df X G c 4 4
  d_lengths := df X G c 5 5
  d_length := df X G c 6 6
  d_count := df X G c 7 7
  d_sign_at := df X G c 8 8
  d_put := df X G c 9 9
  d_linked := df X G c 10 10
  d_over := df X G c 11 11
  d_renamed := df X G c 12 12
  d_joined := df X G c 13 13
  d_repeated := df X G c 14 14
  d_brought := df X G c 15 15
  d_beginning := df X G c 16 16
  d_ending := df X G c 17 17
  d_across := df X G c 18 18
  d_cut := df X G c 19 19
  d_tidy := df X G c 20 20
  d_turned := df X G c 21 21
  d_is_word := df X G c 22 22
  d_number_of := df X G c 23 23
  d_signs_of := df X G c 24 24
  d_value_of := df X G c 25 25
  d_values_of := df X G c 26 26
  d_kinds_of := df X G c 27 27
  d_statement_of := df X G c 28 28
  d_ask_standing := df X G c 29 29
  d_spelled_rules := df X G c 30 30
  d_side_by_side := df X G c 31 31
  d_put_in := df X G c 32 32
  d_of_two := df X G c 33 33
  d_of_one := df X G c 34 34
  d_made_text := df X G c 35 35
  d_texts_of := df X G c 36 36
  d_read := df X G c 37 37
  d_asked_kinds := df X G c 38 38
  d_asking_of := df X G c 39 39
  d_about_one := df X G c 40 40
  d_about_more := df X G c 41 41
  d_Lmixed := df X G c 42 42
  d_Ldraws := df X G c 43 43
  d_Lsign_by := df X G c 44 44
  d_Lplace := df X G c 45 45
  d_Lwhole := df X G c 46 46
  d_Lgood_rule := df X G c 47 47
  d_Llengths := df X G c 48 48
  d_Ltold := df X G c 49 49
  d_Llength := df X G c 50 50
  d_Lsign_at := df X G c 51 51
  d_Lsigns := df X G c 52 52
  d_Lstep := df X G c 53 53
  d_Lmade := df X G c 54 54
  d_Lback := df X G c 55 55
  d_Lsign_of := df X G c 56 56
  d_Lcounts := df X G c 57 57
  d_Lis_right := df X G c 58 58
  d_Lbook_keeps := df X G c 59 59
  d_law := df X G c 60 60
  z_bool := He.free_ok X G (c.fact 62 (f := .free "bool") rfl)
  z_int := He.free_ok X G (c.fact 63 (f := .free "int") rfl)
  z_isinstance := He.free_ok X G (c.fact 64 (f := .free "isinstance") rfl)
  z_len := He.free_ok X G (c.fact 65 (f := .free "len") rfl)
  z_list := He.free_ok X G (c.fact 66 (f := .free "list") rfl)
  z_max := He.free_ok X G (c.fact 67 (f := .free "max") rfl)
  z_min := He.free_ok X G (c.fact 68 (f := .free "min") rfl)
  z_range := He.free_ok X G (c.fact 69 (f := .free "range") rfl)
  z_reversed := He.free_ok X G (c.fact 70 (f := .free "reversed") rfl)
  z_sorted := He.free_ok X G (c.fact 71 (f := .free "sorted") rfl)
  z_str := He.free_ok X G (c.fact 72 (f := .free "str") rfl)
  z_tuple := He.free_ok X G (c.fact 73 (f := .free "tuple") rfl)
  z_zip := He.free_ok X G (c.fact 74 (f := .free "zip") rfl)
  i_MOST := He.int_ok X G (c.fact 75 (f := .int "MOST" 1152921504606846976) rfl)
  i_WORD := He.int_ok X G (c.fact 76 (f := .int "WORD" 8) rfl)
  i_NUMBER := He.int_ok X G (c.fact 77 (f := .int "NUMBER" 19) rfl)
  i_WRITTEN_words := He.int_ok X G (c.fact 78 (f := .int "WRITTEN_words" 40) rfl)
  s_SIGNS := He.str_ok X G (c.fact 79 (f := .str "SIGNS" "0123456789ABCDEFGHIJKLMNOPQRSTUVWXYZabcdefghijklmnopqrstuvwxyz") rfl)
  s_FIGURES := He.str_ok X G (c.fact 80 (f := .str "FIGURES" "0123456789") rfl)
  s_LETTERS := He.str_ok X G (c.fact 81 (f := .str "LETTERS" "abcdefghijklmnopqrstuvwxyz") rfl)
  bk := by
    obtain ⟨ini, Hini⟩ := c.def_ 61 (d := d_Binit) rfl
    obtain ⟨say, Hsay⟩ := c.def_ 62 (d := d_Bsay) rfl
    obtain ⟨ans, Hans⟩ := c.def_ 63 (d := d_Banswer) rfl
    exact ⟨_, He.glo_ok X G (c.fact 61 (f := .glo "Book") rfl), He.cls_ok (c.fact 82 (f := .cls "Book") rfl), He.noat_ok (c.fact 83 (f := .noat "Book" "texts") rfl), ⟨_, ini, He.mkr_ok (c.fact 84 (f := .mkr "Book") rfl), Hini⟩, ⟨_, say, He.meth_ok (c.fact 85 (f := .meth "Book" "say") rfl), Hsay⟩, ⟨_, ans, He.meth_ok (c.fact 86 (f := .meth "Book" "answer") rfl), Hans⟩⟩
theorem facts {f : Addr} (X : K.In h) (G : h.Ns mainGlobals mg) (hfa : mg ("law" : Str) = some (.ref f)) (c : He.SaysD fa fn K) :
    ∃ fd : FuncData, (∀ (s : Shared) (v : Value), BindsTo s fd ⟨[v], []⟩ [("_law_script", v)]) ∧ ∀ base : Heap, K.In base → base.Ns mainGlobals mg → FnOk P w K mg base CX0 11 f fd ["_law_script"] (sp_law K) := by
  obtain ⟨fd, F⟩ := c.def_ 60 (d := d_law) rfl
  have e := hfa.symm.trans (He.glo_ok X G (c.fact 60 (f := .glo "law") rfl))
  cases e
  have b := FunD.bindsA (ps := ["_law_script"]) F fun _ _ _ _ _ _ us hl => match us, hl with | [_], _ => rfl
  exact ⟨fd, fun s v => b s [v] rfl, fun base _ _ => ok_law (hd_of X G c) F⟩
end
end Sb
open PySem PySem.W PySem.Calls PyProof.Rows
theorem PySem.Challenge.cw_shortbook_k66_whole_texts_doubled_holds : PySem.Challenge.rw_shortbook_k66_whole_texts_doubled.Holds := by
  w_on; o_law
  refine HandSHeadRun.head_any (r := OpenLaw.row PySem.Challenge.rw_shortbook_k66_whole_texts_doubled) (q := view (OpenLaw.row PySem.Challenge.rw_shortbook_k66_whole_texts_doubled).prog [130]) (H := Sb.hk) (ob := Sb.ob) (M := 8000) (loose := Sb.loose) (d := HandSHeadRun.topDef (OpenLaw.row PySem.Challenge.rw_shortbook_k66_whole_texts_doubled).prog 130) (kwd := []) Sb.ob_eq
    (by kernel_rfl) (fun s => by kernel_rfl) Sb.run (by kernel_rfl) (by kernel_rfl) (by kernel_rfl) (by rfl) (by first | assumption | decide +kernel) (by decide +kernel) ⟨rfl, rfl, rfl, rfl, rfl, by decide +kernel⟩ ?hw ?hc
  case hw => w_witness2
  case hc =>
    refine L2.walk_ofE (l := PySem.Challenge.rw_shortbook_k66_whole_texts_doubled) (n := 63) (k := 11) (x := "_law_script") (CX := L2.CX0) rfl (by decide) (by kernel_rfl) ⟨rfl, by decide, by decide⟩ ?F (fun _ _ _ _ z => z)
    intro w mg fa h Y G hmg0
    obtain ⟨K, KX, c⟩ := Y
    have hmg : mg ("law" : PySem.Str) = some (.ref fa) := by
      have e : (HandSHeadRun.topDef (OpenLaw.row PySem.Challenge.rw_shortbook_k66_whole_texts_doubled).prog 130).name = ("law" : PySem.Str) := by kernel_rfl
      rw [← e]
      exact hmg0
    obtain ⟨fd, hb, hF⟩ := Sb.facts (P := (PySem.Challenge.rw_shortbook_k66_whole_texts_doubled).prog) (w := w) KX G hmg c
    exact ⟨K, fd, Sb.sp_law K, KX, hb, fun H a ns hl _ hS => ⟨a, ns, rfl, hS, hl, fun _ => rfl⟩, hF⟩
