import PyProof.Rows.All
import Wide.All
import OpenK.AllK
import Wide.FinOn
import KE.GoesEnum
import KE.GoesZip
import HandS.ForMost
import HandS.Flow
import HandS.Style
import HandS.Conv
import HandS.Sort
import HandS.SortRule
import HandS.Wide
import HandS.WideBits
import HandS.IsInst
import HandS.Defaults
import HandS.Star
import HandS.Zip
import HandS.Walk
import HandS.TupAny
import KE.KStateDown
import HandS.Head0
import HandS.Head1
import HandS.Head2
import HandS.HeadEnd
import HandS.HeadHook1
import HandS.HeadHook2
import PySem.Challenge.RW_keptrests_k79_whole_machines_from_end_to
set_option Elab.async false
set_option linter.all false
set_option maxRecDepth 100000
set_option maxHeartbeats 4000000
set_option exponentiation.threshold 3000
set_option pp.maxSteps 300
set_option pp.deepTerms false
namespace K79
open PySem PySem.Spec PyProof.Rows L2
def topS (i : Nat) : Stmt := PySem.Challenge.pw_keptrests_k79_whole_machines_from_end_to.main.body.getD i (.Pass ⟨0, 0, 0, 0⟩)
def loose0 : List PySem.Str := ["WrongValue", "InvalidNumber", "InvalidFacts", "InvalidValues", "InvalidFactors", "InvalidPoints", "NoAnswer", "NoMachine", "MOST_FACTS", "MOST_PLACES", "MOST_DEGREE", "gcd", "lcm", "rest_by", "agree", "inverse", "met", "is_integer", "is_base", "are_integers", "check_integer", "check_values", "all_steps", "steps", "are_kept", "are_whole", "sort_of", "loose_pairs", "first_loose", "value_from"]
def loose1 : List PySem.Str := ["is_fact", "check_facts", "do_quarrel", "all_quarrels", "quarrels", "fits", "check_machine", "known_by", "known", "is_fraction", "check_factors", "value_at", "value_of", "broken_pairs", "keeps", "check_points", "whole_value", "grown", "stretched", "whole_through", "trimmed", "through", "certify_values", "certify_points", "LONGEST_FACTS", "LONGEST_VALUES", "LONGEST_POINTS", "shared_part", "divides", "are_whole_numbers"]
def loose2 : List PySem.Str := ["are_facts", "are_values", "are_points", "is_pair_below", "two_quarrel", "nobody_quarrels", "can_be_there", "is_forced", "is_shown_of_facts", "is_shown_of_answer", "is_shown_of_values", "value_there", "gap_and_product", "is_stopped_at", "is_shown_of_points", "accepts", "_law_cell", "_law_jar", "_law_dig", "_law_take", "_law_gcd", "_law_lcm", "_law_agree", "_law_run", "_law_values", "_law_right"]
def loose : List PySem.Str := loose0 ++ loose1 ++ loose2
def d_gcd : He.DefD := ⟨("gcd", none), "gcd", "gcd", defArgs (topS 13), defBody (topS 13), defScope (topS 13), [], []⟩
def d_lcm : He.DefD := ⟨("lcm", none), "lcm", "lcm", defArgs (topS 14), defBody (topS 14), defScope (topS 14), [], []⟩
def d_rest_by : He.DefD := ⟨("rest_by", none), "rest_by", "rest_by", defArgs (topS 15), defBody (topS 15), defScope (topS 15), [], []⟩
def d_agree : He.DefD := ⟨("agree", none), "agree", "agree", defArgs (topS 16), defBody (topS 16), defScope (topS 16), [], []⟩
def d_inverse : He.DefD := ⟨("inverse", none), "inverse", "inverse", defArgs (topS 17), defBody (topS 17), defScope (topS 17), [], []⟩
def d_met : He.DefD := ⟨("met", none), "met", "met", defArgs (topS 18), defBody (topS 18), defScope (topS 18), [], []⟩
def d_is_integer : He.DefD := ⟨("is_integer", none), "is_integer", "is_integer", defArgs (topS 20), defBody (topS 20), defScope (topS 20), [], []⟩
def d_is_base : He.DefD := ⟨("is_base", none), "is_base", "is_base", defArgs (topS 21), defBody (topS 21), defScope (topS 21), [], []⟩
def d_are_integers : He.DefD := ⟨("are_integers", none), "are_integers", "are_integers", defArgs (topS 22), defBody (topS 22), defScope (topS 22), [], []⟩
def d_check_integer : He.DefD := ⟨("check_integer", none), "check_integer", "check_integer", defArgs (topS 23), defBody (topS 23), defScope (topS 23), [], []⟩
def d_check_values : He.DefD := ⟨("check_values", none), "check_values", "check_values", defArgs (topS 25), defBody (topS 25), defScope (topS 25), [], []⟩
def d_all_steps : He.DefD := ⟨("all_steps", none), "all_steps", "all_steps", defArgs (topS 26), defBody (topS 26), defScope (topS 26), [], []⟩
def d_steps : He.DefD := ⟨("steps", none), "steps", "steps", defArgs (topS 27), defBody (topS 27), defScope (topS 27), [], []⟩
def d_are_kept : He.DefD := ⟨("are_kept", none), "are_kept", "are_kept", defArgs (topS 28), defBody (topS 28), defScope (topS 28), [], []⟩
def d_are_whole : He.DefD := ⟨("are_whole", none), "are_whole", "are_whole", defArgs (topS 29), defBody (topS 29), defScope (topS 29), [], []⟩
def d_sort_of : He.DefD := ⟨("sort_of", none), "sort_of", "sort_of", defArgs (topS 30), defBody (topS 30), defScope (topS 30), [], []⟩
def d_loose_pairs : He.DefD := ⟨("loose_pairs", none), "loose_pairs", "loose_pairs", defArgs (topS 31), defBody (topS 31), defScope (topS 31), [], []⟩
def d_first_loose : He.DefD := ⟨("first_loose", none), "first_loose", "first_loose", defArgs (topS 32), defBody (topS 32), defScope (topS 32), [], []⟩
def d_value_from : He.DefD := ⟨("value_from", none), "value_from", "value_from", defArgs (topS 33), defBody (topS 33), defScope (topS 33), [], []⟩
def d_is_fact : He.DefD := ⟨("is_fact", none), "is_fact", "is_fact", defArgs (topS 35), defBody (topS 35), defScope (topS 35), [], []⟩
def d_check_facts : He.DefD := ⟨("check_facts", none), "check_facts", "check_facts", defArgs (topS 36), defBody (topS 36), defScope (topS 36), [], []⟩
def d_do_quarrel : He.DefD := ⟨("do_quarrel", none), "do_quarrel", "do_quarrel", defArgs (topS 37), defBody (topS 37), defScope (topS 37), [], []⟩
def d_all_quarrels : He.DefD := ⟨("all_quarrels", none), "all_quarrels", "all_quarrels", defArgs (topS 38), defBody (topS 38), defScope (topS 38), [], []⟩
def d_quarrels : He.DefD := ⟨("quarrels", none), "quarrels", "quarrels", defArgs (topS 39), defBody (topS 39), defScope (topS 39), [], []⟩
def d_fits : He.DefD := ⟨("fits", none), "fits", "fits", defArgs (topS 40), defBody (topS 40), defScope (topS 40), [], []⟩
def d_check_machine : He.DefD := ⟨("check_machine", none), "check_machine", "check_machine", defArgs (topS 41), defBody (topS 41), defScope (topS 41), [], []⟩
def d_known_by : He.DefD := ⟨("known_by", none), "known_by", "known_by", defArgs (topS 42), defBody (topS 42), defScope (topS 42), [], []⟩
def d_known : He.DefD := ⟨("known", none), "known", "known", defArgs (topS 43), defBody (topS 43), defScope (topS 43), [], []⟩
def d_is_fraction : He.DefD := ⟨("is_fraction", none), "is_fraction", "is_fraction", defArgs (topS 45), defBody (topS 45), defScope (topS 45), [], []⟩
def d_check_factors : He.DefD := ⟨("check_factors", none), "check_factors", "check_factors", defArgs (topS 46), defBody (topS 46), defScope (topS 46), [], []⟩
def d_value_at : He.DefD := ⟨("value_at", none), "value_at", "value_at", defArgs (topS 47), defBody (topS 47), defScope (topS 47), [], []⟩
def d_value_of : He.DefD := ⟨("value_of", none), "value_of", "value_of", defArgs (topS 48), defBody (topS 48), defScope (topS 48), [], []⟩
def d_broken_pairs : He.DefD := ⟨("broken_pairs", none), "broken_pairs", "broken_pairs", defArgs (topS 49), defBody (topS 49), defScope (topS 49), [], []⟩
def d_keeps : He.DefD := ⟨("keeps", none), "keeps", "keeps", defArgs (topS 50), defBody (topS 50), defScope (topS 50), [], []⟩
def d_check_points : He.DefD := ⟨("check_points", none), "check_points", "check_points", defArgs (topS 51), defBody (topS 51), defScope (topS 51), [], []⟩
def d_whole_value : He.DefD := ⟨("whole_value", none), "whole_value", "whole_value", defArgs (topS 52), defBody (topS 52), defScope (topS 52), [], []⟩
def d_grown : He.DefD := ⟨("grown", none), "grown", "grown", defArgs (topS 53), defBody (topS 53), defScope (topS 53), [], []⟩
def d_stretched : He.DefD := ⟨("stretched", none), "stretched", "stretched", defArgs (topS 54), defBody (topS 54), defScope (topS 54), [], []⟩
def d_whole_through : He.DefD := ⟨("whole_through", none), "whole_through", "whole_through", defArgs (topS 55), defBody (topS 55), defScope (topS 55), [], []⟩
def d_trimmed : He.DefD := ⟨("trimmed", none), "trimmed", "trimmed", defArgs (topS 56), defBody (topS 56), defScope (topS 56), [], []⟩
def d_through : He.DefD := ⟨("through", none), "through", "through", defArgs (topS 57), defBody (topS 57), defScope (topS 57), [], []⟩
def d_certify_values : He.DefD := ⟨("certify_values", none), "certify_values", "certify_values", defArgs (topS 59), defBody (topS 59), defScope (topS 59), [], []⟩
def d_certify_points : He.DefD := ⟨("certify_points", none), "certify_points", "certify_points", defArgs (topS 60), defBody (topS 60), defScope (topS 60), [], []⟩
def d_divides : He.DefD := ⟨("divides", none), "divides", "divides", defArgs (topS 66), defBody (topS 66), defScope (topS 66), [], []⟩
def d_are_whole_numbers : He.DefD := ⟨("are_whole_numbers", none), "are_whole_numbers", "are_whole_numbers", defArgs (topS 67), defBody (topS 67), defScope (topS 67), [], []⟩
def d_are_values : He.DefD := ⟨("are_values", none), "are_values", "are_values", defArgs (topS 69), defBody (topS 69), defScope (topS 69), [], []⟩
def d_are_points : He.DefD := ⟨("are_points", none), "are_points", "are_points", defArgs (topS 70), defBody (topS 70), defScope (topS 70), [], []⟩
def d_is_pair_below : He.DefD := ⟨("is_pair_below", none), "is_pair_below", "is_pair_below", defArgs (topS 71), defBody (topS 71), defScope (topS 71), [], []⟩
def d_is_shown_of_values : He.DefD := ⟨("is_shown_of_values", none), "is_shown_of_values", "is_shown_of_values", defArgs (topS 78), defBody (topS 78), defScope (topS 78), [], []⟩
def d_value_there : He.DefD := ⟨("value_there", none), "value_there", "value_there", defArgs (topS 79), defBody (topS 79), defScope (topS 79), [], []⟩
def d_gap_and_product : He.DefD := ⟨("gap_and_product", none), "gap_and_product", "gap_and_product", defArgs (topS 80), defBody (topS 80), defScope (topS 80), [], []⟩
def d_is_stopped_at : He.DefD := ⟨("is_stopped_at", none), "is_stopped_at", "is_stopped_at", defArgs (topS 81), defBody (topS 81), defScope (topS 81), [], []⟩
def d_is_shown_of_points : He.DefD := ⟨("is_shown_of_points", none), "is_shown_of_points", "is_shown_of_points", defArgs (topS 82), defBody (topS 82), defScope (topS 82), [], []⟩
def d_accepts : He.DefD := ⟨("accepts", none), "accepts", "accepts", defArgs (topS 83), defBody (topS 83), defScope (topS 83), [], []⟩
def d__law_cell : He.DefD := ⟨("_law_cell", none), "_law_cell", "_law_cell", defArgs (topS 85), defBody (topS 85), defScope (topS 85), [], []⟩
def d__law_jar : He.DefD := ⟨("_law_jar", none), "_law_jar", "_law_jar", defArgs (topS 86), defBody (topS 86), defScope (topS 86), [], []⟩
def d__law_dig : He.DefD := ⟨("_law_dig", none), "_law_dig", "_law_dig", defArgs (topS 87), defBody (topS 87), defScope (topS 87), [], []⟩
def d__law_take : He.DefD := ⟨("_law_take", none), "_law_take", "_law_take", defArgs (topS 88), defBody (topS 88), defScope (topS 88), [], []⟩
def d__law_gcd : He.DefD := ⟨("_law_gcd", none), "_law_gcd", "_law_gcd", defArgs (topS 89), defBody (topS 89), defScope (topS 89), [], []⟩
def d__law_lcm : He.DefD := ⟨("_law_lcm", none), "_law_lcm", "_law_lcm", defArgs (topS 90), defBody (topS 90), defScope (topS 90), [], []⟩
def d__law_agree : He.DefD := ⟨("_law_agree", none), "_law_agree", "_law_agree", defArgs (topS 91), defBody (topS 91), defScope (topS 91), [], []⟩
def d__law_run : He.DefD := ⟨("_law_run", none), "_law_run", "_law_run", defArgs (topS 92), defBody (topS 92), defScope (topS 92), [], []⟩
def d__law_values : He.DefD := ⟨("_law_values", none), "_law_values", "_law_values", defArgs (topS 93), defBody (topS 93), defScope (topS 93), [], []⟩
def d__law_right : He.DefD := ⟨("_law_right", none), "_law_right", "_law_right", defArgs (topS 94), defBody (topS 94), defScope (topS 94), [], []⟩
def d_law : He.DefD := ⟨("law", none), "law", "law", defArgs (topS 95), defBody (topS 95), defScope (topS 95), [], []⟩
def fn0 : List He.DefD := [d_gcd, d_lcm, d_rest_by, d_agree, d_inverse, d_met, d_is_integer, d_is_base, d_are_integers, d_check_integer, d_check_values, d_all_steps, d_steps, d_are_kept, d_are_whole, d_sort_of, d_loose_pairs, d_first_loose, d_value_from, d_is_fact]
def fn1 : List He.DefD := [d_check_facts, d_do_quarrel, d_all_quarrels, d_quarrels, d_fits, d_check_machine, d_known_by, d_known, d_is_fraction, d_check_factors, d_value_at, d_value_of, d_broken_pairs, d_keeps, d_check_points, d_whole_value, d_grown, d_stretched, d_whole_through, d_trimmed]
def fn2 : List He.DefD := [d_through, d_certify_values, d_certify_points, d_divides, d_are_whole_numbers, d_are_values, d_are_points, d_is_pair_below, d_is_shown_of_values, d_value_there, d_gap_and_product, d_is_stopped_at, d_is_shown_of_points, d_accepts, d__law_cell, d__law_jar, d__law_dig, d__law_take, d__law_gcd, d__law_lcm]
def fn3 : List He.DefD := [d__law_agree, d__law_run, d__law_values, d__law_right, d_law]
def fn : List He.DefD := fn0 ++ (fn1 ++ (fn2 ++ (fn3)))
def fg0 : List He.Fa := [.glo "gcd", .glo "lcm", .glo "rest_by", .glo "agree", .glo "inverse", .glo "met", .glo "is_integer", .glo "is_base", .glo "are_integers", .glo "check_integer", .glo "check_values", .glo "all_steps", .glo "steps", .glo "are_kept", .glo "are_whole", .glo "sort_of", .glo "loose_pairs", .glo "first_loose", .glo "value_from", .glo "is_fact"]
def fg1 : List He.Fa := [.glo "check_facts", .glo "do_quarrel", .glo "all_quarrels", .glo "quarrels", .glo "fits", .glo "check_machine", .glo "known_by", .glo "known", .glo "is_fraction", .glo "check_factors", .glo "value_at", .glo "value_of", .glo "broken_pairs", .glo "keeps", .glo "check_points", .glo "whole_value", .glo "grown", .glo "stretched", .glo "whole_through", .glo "trimmed"]
def fg2 : List He.Fa := [.glo "through", .glo "certify_values", .glo "certify_points", .glo "divides", .glo "are_whole_numbers", .glo "are_values", .glo "are_points", .glo "is_pair_below", .glo "is_shown_of_values", .glo "value_there", .glo "gap_and_product", .glo "is_stopped_at", .glo "is_shown_of_points", .glo "accepts", .glo "_law_cell", .glo "_law_jar", .glo "_law_dig", .glo "_law_take", .glo "_law_gcd", .glo "_law_lcm"]
def fg3 : List He.Fa := [.glo "_law_agree", .glo "_law_run", .glo "_law_values", .glo "_law_right", .glo "law"]
def fz : List He.Fa := [.free "abs", .free "len", .free "max", .free "min", .free "divmod", .free "sorted", .free "all", .free "isinstance", .free "int", .free "bool", .free "str", .free "tuple", .free "list", .free "range", .free "enumerate", .free "zip", .free "reversed"]
def fc : List He.Fa := [.int "MOST_FACTS" 40, .int "MOST_PLACES" 40, .int "MOST_DEGREE" 12, .int "LONGEST_VALUES" 40, .int "LONGEST_POINTS" 13]
def fa : List He.Fa := fg0 ++ (fg1 ++ (fg2 ++ (fg3 ++ (fz ++ (fc)))))
abbrev R : PySem.W.OpenRow := PySem.W.OpenLaw.row PySem.Challenge.rw_keptrests_k79_whole_machines_from_end_to
abbrev hk : PySem.W.Hook := He.hookD 2 fa fn
def ob (s : PySem.W.SharedT) : He.AlD := He.obsDG 2 fa fn (HandSHeadRun.getT s)
theorem ob_eq (s : PySem.W.SharedT) : ob s = hk.obs s.abs := He.obsDG_eq (HandSHeadRun.getT_eq s)
set_option maxHeartbeats 0 in
theorem run (w : World) : HandSHeadRun.RunEq R (PySem.W.view R.prog [95]) hk ob 20000 loose w := by
  intro os
  kernel_rfl
end K79
/-! The base: defs by name, three rules that the layer lacks (enumerate of a tuple, zip of a tuple and a list, chains of three). -/
namespace K79
open PySem PySem.Spec PyProof.Rows L2

/-! ### enumerate of a tuple -/
theorem meets_enumerate_newT {v : Value} {o : Obj} {H : Heap → Prop} (B : Begins v o H) :
    Meets (Builtin.«enumerate.__new__» ⟨[.type "enumerate", v], []⟩) (fun _ R s => H s.heap ∧
      R (.ok (.ret (.ref (s.heap.push o).objs.size))) { s with heap := (s.heap.push o).push { cls := .type "enumerate", data := .fields #[.none, .bool false, .ref s.heap.objs.size, rawInt 0, .none, .none] } }) :=
  .of_wp fun prog w A R s h => by
    obtain ⟨hp, g, d, tk, os⟩ := s; obtain ⟨h1, h⟩ := h
    have hsub := sub_enumerate
    have q1 : ∀ {A' : Around} {E : Value → Shared → Prop} {Q : Value → Shared → Prop}, Q (.ref hp.objs.size) ⟨hp.push o, g, d, tk, os⟩ → wpAny (model prog w) A' (pyIter v) Q E ⟨hp, g, d, tk, os⟩ :=
      fun q => B.iter prog w _ _ ⟨hp, g, d, tk, os⟩ _ h1 q
    wp_walk using q1
    refine wpAny_stack_any fun st => wpAny_pure ?_
    split
    · rename_i c _ _ _ _ _
      cases (c == Value.type "enumerate")
      · wp_walk using q1
        exact ⟨_, rfl, h⟩
      · wp_walk using q1
        exact ⟨_, rfl, h⟩
    · wp_walk using q1
      exact ⟨_, rfl, h⟩
section
variable {prog : Program} {w : World} {A : Around} {E : Value → Shared → Prop} {s : Shared}
theorem enum_begins1 {v : Value} {o : Obj} {H : Heap → Prop} {Q : Value → Shared → Prop} (B : Begins v o H) (h1 : H s.heap)
    (h : ∀ h', IsEnum h' (s.heap.objs.size + 1) s.heap.objs.size 0 .none → h'.get? s.heap.objs.size = some o → h'.objs.size = s.heap.objs.size + 2 →
      (∀ b o, s.heap.get? b = some o → h'.get? b = some o) → Q (.ref (s.heap.objs.size + 1)) { s with heap := h' }) :
    wpAny (model prog w) A (call (.type "enumerate") [v]) Q E s := by
  refine callType_new F.called_enumerate (by decide) (F.typeCall_enumerate_1 _) (F.newCall_enumerate_1 _) (fun obj => F.args_object_init_2 obj _) F.entry_enumerate_new
    (meets_enumerate_newT B) ⟨h1, ?_⟩
  have hz : (s.heap.push o).objs.size = s.heap.objs.size + 1 := Heap.size_push ..
  show _ ∧ _
  rw [hz]
  have he : IsEnum ((s.heap.push o).push { cls := .type "enumerate", data := .fields #[.none, .bool false, .ref s.heap.objs.size, rawInt 0, .none, .none] }) (s.heap.objs.size + 1) s.heap.objs.size 0 .none := by
    have := Heap.get?_push_size (s.heap.push o) (o := { cls := .type "enumerate", data := .fields #[.none, .bool false, .ref s.heap.objs.size, rawInt 0, .none, .none] }) rfl
    rw [hz] at this; exact this
  refine ⟨⟨_, he, rfl⟩, h _ he (Heap.get?_push_of_some _ (Heap.get?_push_size _ B.free)) (by rw [Heap.size_push, hz]) fun b o x => Heap.get?_push_of_some _ (Heap.get?_push_of_some _ x)⟩
end
theorem enum_end_tup {prog : Program} {w : World} {A : Around} {E : Value → Shared → Prop} {s : Shared} {e it a : Addr} {i : Nat} {c : Int} {items : Array Value} {old : Value} {Q : Option Value → Shared → Prop} (hh : A.handled = none)
    (he : IsEnum s.heap e it c old) (hit : s.heap.IsTupleIter it a i) (hl : s.heap.IsTuple a items) (hx : items[i]? = none)
    (hQ : ∀ h', Heap.ExtBut it s.heap h' → Q none { s with heap := h' }) : wpAny (model prog w) A (pyNext (.ref e)) Q E s := by
  have hT : s.TypeIs (.ref e) "enumerate" := ⟨_, he, rfl⟩
  unfold pyNext
  refine wpAny_bind (wpAny_attempt (wpAny_callSpecial?_slot (name := Str.ofString "__next__") hT F.slot_enumerate_next
    (wpAny_call_entry F.slot_enumerate_next hT F.entry_enumerate_next ?_ (F.args_enumerate_next_1 _))))
  show wpAny _ _ (field (.ref e) 2 >>= _) _ _ _
  refine wpAny_bind (wpAny_field he rfl (x := .ref it) rfl ?_)
  refine wpAny_bind (wpAny_nextOf_tuple_end hh hit hl hx fun h' x he' hx' => ?_)
  obtain ⟨o, ho, hc⟩ := hx'
  refine wpAny_bind (wpAny_isInstance (T := "StopIteration") (b := true) ⟨o, ho, hc⟩ isSubtype_stop ?_)
  exact wpAny_pure (hQ _ he')
/-- the tuple at a, each item in a new pair -/
def IteT (K : PySem.W.Frag) (a : Addr) : It :=
  ⟨fun i H => ∃ (xs : List V) (x : V), SqT K H a xs ∧ xs[i]? = some x, fun i H v H' => ∃ T x, v = .ref T ∧ H T = none ∧ H' = upd H T (.tup [.int (i : Nat), x]) ∧ ∀ xs, SqT K H a xs → xs[i]? = some x, fun i H => ∃ xs : List V, SqT K H a xs ∧ xs.length ≤ i⟩
theorem turn_enumT {P : Program} {w : World} {K : PySem.W.Frag} {elts : List Expr} {kk : Nat} {tpos : Pos} (a e it : Addr) (hae : a ≠ e) (hai : a ≠ it) :
    Turn P w K (.Tuple elts kk tpos) (IteT K a) [e, it] e (fun i h => (∃ old, IsEnum h e it ((i : Nat) : Int) old) ∧ h.IsTupleIter it a i ∧ e ≠ it) where
  mem := by simp
  obj := fun i h st b hb => by
    obtain ⟨⟨old, he⟩, ⟨o, ho, hc, hd⟩, _⟩ := st
    have e' : b = e ∨ b = it := by simpa using hb
    rcases e' with z | z
    · rw [z]; exact ⟨_, he, fun v q => nomatch q⟩
    · rw [z]; exact ⟨o, ho, fun v q => by rw [hd] at q; cases q⟩
  keep := fun i h h' st k => let ⟨⟨old, he⟩, hi, hne⟩ := st; ⟨⟨old, k e (by simp) _ he⟩, hi.at fun o q => k it (by simp) o q, hne⟩
  item := by
    intro X hP hw hK hc i pins s σ H E I hf st hg
    subst hP hw hK
    obtain ⟨⟨old, he⟩, hit, hne⟩ := st
    obtain ⟨xs, x, hq, hx⟩ := hg
    obtain ⟨its, rv, p, hz⟩ := I.tuple hq
    obtain ⟨u, hu, ru⟩ := rv.get hx
    have hel : e < s.heap.objs.size := Heap.lt_size he
    have hil : it < s.heap.objs.size := by obtain ⟨_, q, _⟩ := hit; exact Heap.lt_size q
    have p' : s.heap.IsTuple a its.toArray := p
    have hlt : i < its.toArray.size := by
      rw [List.size_toArray]
      exact (List.getElem?_eq_some_iff.mp hu).1
    refine wpAny_pyNext_enum_itemC (Draws.tuple (A := X.A.in1) (show X.A.in1.handled = none from I.ok.hd hc) it a hai its.toArray) he ⟨hit, p'⟩ hlt hne (by simp; exact ⟨hne, fun z => hae z.symm⟩) fun x' h' tk hPx ho hst' hT hsz hk => ?_
    have ex : x' = u := by
      have h1 : its.toArray[i]? = some x' := hPx
      have h2 : its.toArray[i]? = some u := by simpa using hu
      exact Option.some.inj (h1.symm.trans h2)
    subst ex
    obtain ⟨hit', _⟩ := hst'
    refine ⟨_, rfl, wpAny_letOwnedTupleGo_enum (s := { s with heap := h', toks := tk + 1 }) ho fun h'' he' sb => ?_⟩
    have hT2 : h''.get? s.heap.objs.size = some { cls := .type "tuple", data := .seq #[.int i tk, x'] } := (sb.2 _ (Nat.ne_of_gt hel)).trans hT
    have new : ObjOk X.prog X.w (upd H s.heap.objs.size (.tup [.int (i : Nat), x])) h'' s.heap.objs.size (.tup [.int (i : Nat), x]) :=
      ⟨by show 2 ≤ sizeLine; decide, [.int i tk, x'], .cons ⟨_, rfl⟩ (.cons ru .nil), ⟨_, hT2, rfl, _, rfl⟩⟩
    have I1 : Inv X pins σ (upd H s.heap.objs.size (.tup [.int (i : Nat), x])) { s with heap := h'', toks := tk + 1 } :=
      I.turnedNew (ch := [e, it]) (fun b ob hb q => (sb.2 b (fun z => hb (by simp [z]))).trans (hk b ob (fun z => hb (by simp [z])) (fun z => hb (by simp [z])) q)) hf (Nat.le_refl _) new
    refine ⟨.ref s.heap.objs.size, _, I1, rfl, ⟨_, x, rfl, I.hok.fresh (Nat.le_refl _), rfl, fun ys hy => by rw [I.tuple_inj hy hq]; exact hx⟩, ⟨⟨x', ?_⟩, hit'.at fun o q => (sb.2 it (Ne.symm hne)).trans q, hne⟩, fun b hb => ?_⟩
    · have e1 : ((i + 1 : Nat) : Int) = (i : Int) + 1 := by omega
      rw [e1]; exact he'
    · have hb' : b < s.heap.objs.size := by
        have e' : b = e ∨ b = it := by simpa using hb
        rcases e' with z | z
        · rw [z]; exact hel
        · rw [z]; exact hil
      rw [upd_ne (Nat.ne_of_lt hb')]
      exact (hf b hb).1
  done := by
    intro X hP hw hK hc i pins s σ H E I hf st hg
    subst hP hw hK
    obtain ⟨⟨old, he⟩, hit, hne⟩ := st
    obtain ⟨xs, hq, hx⟩ := hg
    obtain ⟨its, rv, p, hz⟩ := I.tuple hq
    obtain ⟨f0, f1, f2, f3, f4, f5⟩ := hf it (by simp)
    have hl := rv.length
    have p' : s.heap.IsTuple a its.toArray := p
    exact enum_end_tup (I.ok.hd hc) he hit p' (by simp; omega) fun h' eb => ⟨rfl, I.turned (t' := s.toks) (fun b o hb q => eb b o hb q) f0 f1 f3 f4 f5⟩
  self := fun A i s Q E st h => let ⟨⟨_, he⟩, _⟩ := st; wpAny_pyIter_enum he h
theorem ne_lt (n a : Nat) (k : Nat) (la : a < n) : a ≠ n + k := by omega
theorem ne_lt0 (n a : Nat) (la : a < n) : a ≠ n := by omega
theorem ne_k (n : Nat) (k : Nat) (h : 0 < k) : n + k ≠ n := by omega
theorem sep_of (n a b : Nat) (la : a < n) (lb : b < n) : ZipSep2 (n + 4) (n + 2) (n + 3) n (n + 1) [n, a] [n + 1, b] := by
  have e1 : ∀ k, a ≠ n + k := fun k => ne_lt n a k la
  have e2 : ∀ k, b ≠ n + k := fun k => ne_lt n b k lb
  have e3 : ∀ k, 0 < k → n + k ≠ n := fun k => ne_k n k
  have e4 : ∀ j k : Nat, j ≠ k → n + j ≠ n + k := fun j k h => by omega
  refine ⟨e4 2 4 (by decide), e4 3 4 (by decide), e4 2 3 (by decide), e3 2 (by decide), by simp, ?_, ?_, e4 2 1 (by decide), by simp, ?_, ?_, ?_, ?_⟩
  all_goals
    intro h
    rcases List.mem_cons.mp h with h | h
    · first | exact e3 _ (by decide) h | exact e4 _ _ (by decide) h | exact e3 _ (by decide) h.symm
    · rcases List.mem_cons.mp h with h | h
      · first | exact e1 _ h.symm | exact e2 _ h.symm | exact (Nat.ne_of_lt la) h.symm | exact (Nat.ne_of_lt lb) h.symm
      · cases h
def iEnumT (K : PySem.W.Frag) (ta : TA) : TI := fun σ H R => ta σ H fun vs H1 => ∃ a xs, vs = [.ref a] ∧ SqT K H1 a xs ∧ R (IteT K a) H1
theorem pi_enumT {X : Cx} {e : Expr} {ta : TA} {p pos tpos : Pos} {elts : List Expr} {kk : Nat} (hg : Gl X "enumerate") (hm : X.mg "enumerate" = none) (ha : PA X [e] ta) (hs : starEach [e] X.env = [(false, eval e X.env)] := by rfl) :
    PI X (.Tuple elts kk tpos) (.Call (.Name "enumerate" p) [e] [] pos) (iEnumT X.K ta) := by
  refine ⟨fun pins s σ H R I h => ?_⟩
  refine Call_ (ld_blt I hg hm boot_enumerate (PyProof.Rows.callWith_type1 (thn (ha.run pos pins s σ H _ I h) fun us s1 ⟨vs, H1, I1, r1, q1⟩ => ?_) hs rfl))
  obtain ⟨a, xs, ex, hq, q⟩ := q1
  subst ex
  cases r1 with
  | cons r rr =>
    cases rr
    cases r
    obtain ⟨its, rv, p', hz⟩ := I1.tuple hq
    have p2 : s1.heap.IsTuple a its.toArray := p'
    have la : a < s1.heap.objs.size := by
      obtain ⟨_, z, _⟩ := id p2
      exact Heap.lt_size z
    refine enum_begins1 (begins_tuple a its.toArray) p2 fun h' he hit hsz hk => wpAny_pyIter_enum he ?_
    have I2 : Inv X pins σ H1 { s1 with heap := h' } := I1.kept (t' := s1.toks) hk
    refine ⟨s1.heap.objs.size + 1, [s1.heap.objs.size + 1, s1.heap.objs.size], _, _, H1, rfl, I2, turn_enumT a (s1.heap.objs.size + 1) s1.heap.objs.size (ne_lt _ _ 1 la) (ne_lt0 _ _ la), ⟨⟨.none, he⟩, ⟨_, hit, rfl, rfl⟩, Nat.succ_ne_self _⟩, fun b hb => ?_, q⟩
    have e' : b = s1.heap.objs.size + 1 ∨ b = s1.heap.objs.size := by simpa using hb
    have hle : s1.heap.objs.size ≤ b := by
      rcases e' with z | z
      · rw [z]; exact Nat.le_add_right _ _
      · rw [z]; exact Nat.le_refl _
    exact I1.fpOk hle (I1.hok.fresh hle)
theorem walk_enumT {K : PySem.W.Frag} {a : Addr} {xs : List V} : Walk (IteT K a) xs.length (fun H => SqT K H a xs) (YPair (fun i => some (.int (i : Nat))) (fun i => xs[i]?)) := by
  refine ⟨fun i _ hi q => ⟨xs, xs[i], q, by simp [hi]⟩, fun _ q => ⟨xs, q, Nat.le_refl _⟩, fun i H v H' _ q y => ?_⟩
  obtain ⟨T, x, h1, h2, h3, h4⟩ := y
  exact ⟨T, .int (i : Nat), x, h1, h2, h3, rfl, h4 xs q⟩

/-! ### zip of a tuple and a list -/
def ItzM (K : PySem.W.Frag) (a b : Addr) : It :=
  ⟨fun i H => ∃ (xs ys : List V) (x y : V), SqT K H a xs ∧ SqL K H b ys ∧ xs[i]? = some x ∧ ys[i]? = some y,
    fun i H v H' => ∃ T x y, v = .ref T ∧ H T = none ∧ H' = upd H T (.tup [x, y]) ∧ (∀ xs, SqT K H a xs → xs[i]? = some x) ∧ ∀ ys, SqL K H b ys → ys[i]? = some y,
    fun i H => ∃ xs ys : List V, SqT K H a xs ∧ SqL K H b ys ∧ i ≤ xs.length ∧ i ≤ ys.length ∧ (i = xs.length ∨ i = ys.length)⟩
theorem turn_zipM {P : Program} {w : World} {K : PySem.W.Frag} {elts : List Expr} {kk : Nat} {tpos : Pos} {a b z TI TO i1 i2 : Addr} (D : ZipSep2 z TI TO i1 i2 [i1, a] [i2, b]) (ha : a ≠ i1) (hb2 : b ≠ i2) :
    Turn P w K (.Tuple elts kk tpos) (ItzM K a b) [z, TI, TO, i1, i2] z (fun i h => IsZip h z TI TO .none ∧ IsTupOf2 h TI (.ref i1) (.ref i2) ∧ (∃ x y, IsTupOf2 h TO x y) ∧ h.IsTupleIter i1 a i ∧ h.IsListIter i2 b i) where
  mem := by simp
  obj := fun i h st c hc => by
    obtain ⟨hz, hTI, ⟨x, y, hTO⟩, ⟨o1, e1, _, d1⟩, ⟨o2, e2, _, d2⟩⟩ := st
    have e' : c = z ∨ c = TI ∨ c = TO ∨ c = i1 ∨ c = i2 := by simpa using hc
    rcases e' with q | q | q | q | q
    · rw [q]; exact ⟨_, hz, fun v q => nomatch q⟩
    · rw [q]; exact ⟨_, hTI, fun v q => nomatch q⟩
    · rw [q]; exact ⟨_, hTO, fun v q => nomatch q⟩
    · rw [q]; exact ⟨o1, e1, fun v q => by rw [d1] at q; cases q⟩
    · rw [q]; exact ⟨o2, e2, fun v q => by rw [d2] at q; cases q⟩
  keep := fun i h h' st k => by
    obtain ⟨hz, hTI, ⟨x, y, hTO⟩, h1, h2⟩ := st
    exact ⟨k z (by simp) _ hz, k TI (by simp) _ hTI, ⟨x, y, k TO (by simp) _ hTO⟩, h1.at fun o q => k i1 (by simp) o q, h2.at fun o q => k i2 (by simp) o q⟩
  item := by
    intro X hP hw hK hc i pins s σ H E I hf st hg
    subst hP hw hK
    obtain ⟨hz, hTI, ⟨x0, y0, hTO⟩, h1, h2⟩ := st
    obtain ⟨xs, ys, x, y, hqx, hqy, hx, hy⟩ := hg
    obtain ⟨its, rv, p, _⟩ := I.tuple hqx
    obtain ⟨its2, rv2, p2, _⟩ := I.list hqy
    obtain ⟨u, hu, ru⟩ := rv.get hx
    obtain ⟨u2, hu2, ru2⟩ := rv2.get hy
    have p' : s.heap.IsTuple a its.toArray := p
    have hzl : z < s.heap.objs.size := Heap.lt_size hz
    have lt1 : i < its.toArray.size := by
      rw [List.size_toArray]
      exact (List.getElem?_eq_some_iff.mp hu).1
    have lt2 : i < its2.toArray.size := by
      rw [List.size_toArray]
      exact (List.getElem?_eq_some_iff.mp hu2).1
    refine wpAny_pyNext_zipD2_item D (Draws.tuple (A := X.A.in1) (show X.A.in1.handled = none from I.ok.hd hc) i1 a ha its.toArray) (Draws.list (A := X.A.in1) (show X.A.in1.handled = none from I.ok.hd hc) i2 b hb2 its2.toArray) hz hTI hTO ⟨h1, p'⟩ ⟨h2, p2.isList⟩ lt1 lt2 fun v1 v2 h' tk hv1 hv2 z' TO' st1 st2 hT hsz hk => ?_
    have ex1 : v1 = u := by
      have q1 : its.toArray[i]? = some v1 := hv1
      have q2 : its.toArray[i]? = some u := by simpa using hu
      exact Option.some.inj (q1.symm.trans q2)
    have ex2 : v2 = u2 := by
      have q1 : its2.toArray[i]? = some v2 := hv2
      have q2 : its2.toArray[i]? = some u2 := by simpa using hu2
      exact Option.some.inj (q1.symm.trans q2)
    subst ex1 ex2
    obtain ⟨h1', _⟩ := st1
    obtain ⟨h2', _⟩ := st2
    refine ⟨_, rfl, wpAny_letOwnedTupleGo_zip (s := { s with heap := h', toks := tk }) z' fun h'' z'' sb => ?_⟩
    have hT2 : h''.get? s.heap.objs.size = some { cls := .type "tuple", data := .seq #[v1, v2] } := (sb.2 _ (Nat.ne_of_gt hzl)).trans hT
    have new : ObjOk X.prog X.w (upd H s.heap.objs.size (.tup [x, y])) h'' s.heap.objs.size (.tup [x, y]) :=
      ⟨by show 2 ≤ sizeLine; decide, [v1, v2], .cons ru (.cons ru2 .nil), ⟨_, hT2, rfl, _, rfl⟩⟩
    have I1 : Inv X pins σ (upd H s.heap.objs.size (.tup [x, y])) { s with heap := h'', toks := tk } :=
      I.turnedNew (ch := [z, TI, TO, i1, i2]) (fun c o hb q => (sb.2 c (fun q' => hb (by simp [q']))).trans (hk c o (fun q' => hb (by simp [q'])) (fun q' => hb (by simp [q'])) (fun q' => hb (by simp [q'])) (fun q' => hb (by simp [q'])) q)) hf (Nat.le_refl _) new
    refine ⟨.ref s.heap.objs.size, _, I1, rfl, ⟨_, x, y, rfl, I.hok.fresh (Nat.le_refl _), rfl, fun l hl => by rw [I.tuple_inj hl hqx]; exact hx, fun l hl => by rw [I.list_inj hl hqy]; exact hy⟩, ⟨z'', ?_, ⟨v1, v2, ?_⟩, ?_, ?_⟩, fun c hcm => ?_⟩
    · exact (sb.2 _ D.TIz).trans (hk _ _ D.TIz D.TITO D.TIi1 D.TIi2 hTI)
    · exact (sb.2 _ D.TOz).trans TO'
    · exact h1'.at fun o q => (sb.2 _ (Ne.symm D.zi1)).trans q
    · exact h2'.at fun o q => (sb.2 _ (Ne.symm D.zi2)).trans q
    · have hlt : c < s.heap.objs.size := by
        have e' : c = z ∨ c = TI ∨ c = TO ∨ c = i1 ∨ c = i2 := by simpa using hcm
        rcases e' with q | q | q | q | q
        · rw [q]; exact hzl
        · rw [q]; exact Heap.lt_size hTI
        · rw [q]; exact Heap.lt_size hTO
        · rw [q]; obtain ⟨_, e1, _⟩ := h1; exact Heap.lt_size e1
        · rw [q]; obtain ⟨_, e2, _⟩ := h2; exact Heap.lt_size e2
      rw [upd_ne (Nat.ne_of_lt hlt)]
      exact (hf c hcm).1
  done := by
    intro X hP hw hK hc i pins s σ H E I hf st hg
    subst hP hw hK
    obtain ⟨hz, hTI, ⟨x0, y0, hTO⟩, h1, h2⟩ := st
    obtain ⟨xs, ys, hqx, hqy, le1, le2, hend⟩ := hg
    obtain ⟨its, rv, p, _⟩ := I.tuple hqx
    obtain ⟨its2, rv2, p2, _⟩ := I.list hqy
    have p' : s.heap.IsTuple a its.toArray := p
    have l1 := rv.length
    have l2 := rv2.length
    exact wpAny_pyNext_zipD2_end D (Draws.tuple (A := X.A.in1) (show X.A.in1.handled = none from I.ok.hd hc) i1 a ha its.toArray) (Draws.list (A := X.A.in1) (show X.A.in1.handled = none from I.ok.hd hc) i2 b hb2 its2.toArray) hz hTI hTO ⟨h1, p'⟩ ⟨h2, p2.isList⟩ (by simp; omega) (by simp; omega) (by simp; omega)
      fun h' tk hk => ⟨rfl, I.turnedL (ch := [z, TI, TO, i1, i2]) (fun c o hb q =>
      hk c o (fun q' => hb (by simp [q'])) (fun q' => hb (by simp [q'])) (fun q' => hb (by simp [q'])) (fun q' => hb (by simp [q'])) q) hf⟩
  self := fun A i s Q E st h => wpAny_pyIter_zip st.1 h
def iZipM (K : PySem.W.Frag) (ta : TA) : TI := fun σ H R => ta σ H fun vs H1 => ∃ a b xs ys, vs = [.ref a, .ref b] ∧ SqT K H1 a xs ∧ SqL K H1 b ys ∧ R (ItzM K a b) H1
theorem pi_zipM {X : Cx} {e e2 : Expr} {ta : TA} {p pos tpos : Pos} {elts : List Expr} {kk : Nat} (hg : Gl X "zip") (hm : X.mg "zip" = none) (ha : PA X [e, e2] ta)
    (hs : starEach [e, e2] X.env = (false, eval e X.env) :: starEach [e2] X.env := by rfl) (hpl : (backTo pos (starEach [e2] X.env)).any (·.1) = false := by rfl) :
    PI X (.Tuple elts kk tpos) (.Call (.Name "zip" p) [e, e2] [] pos) (iZipM X.K ta) := by
  refine ⟨fun pins s σ H R I h => ?_⟩
  refine Call_ (ld_blt I hg hm PyProof.Rows.boot_zip (PyProof.Rows.callWith_type1 (thn (ha.run pos pins s σ H _ I h) fun us s1 ⟨vs, H1, I1, r1, q1⟩ => ?_) hs hpl))
  obtain ⟨a, b, xs, ys, ex, hqx, hqy, q⟩ := q1
  subst ex
  cases r1 with
  | cons r rr =>
    cases rr with
    | cons r' rr =>
      cases rr
      cases r
      cases r'
      obtain ⟨its, rv, p1, _⟩ := I1.tuple hqx
      obtain ⟨its2, rv2, p2, _⟩ := I1.list hqy
      have p1' : s1.heap.IsTuple a its.toArray := p1
      have la : a < s1.heap.objs.size := by
        obtain ⟨_, z, _⟩ := id p1'
        exact Heap.lt_size z
      have lb : b < s1.heap.objs.size := p2.lt
      refine zip_begins2 (begins_tuple a its.toArray) (begins_list b its2.toArray) p1' p2.isList fun h' hz hTI hTO g1 g2 hsz hk => wpAny_pyIter_zip hz ?_
      have I2 : Inv X pins σ H1 { s1 with heap := h' } := I1.kept (t' := s1.toks) hk
      have D : ZipSep2 (s1.heap.objs.size + 4) (s1.heap.objs.size + 2) (s1.heap.objs.size + 3) s1.heap.objs.size (s1.heap.objs.size + 1) [s1.heap.objs.size, a] [s1.heap.objs.size + 1, b] :=
        sep_of s1.heap.objs.size a b la lb
      refine ⟨s1.heap.objs.size + 4, [s1.heap.objs.size + 4, s1.heap.objs.size + 2, s1.heap.objs.size + 3, s1.heap.objs.size, s1.heap.objs.size + 1], _, _, H1, rfl, I2, turn_zipM D (Nat.ne_of_lt la) (Nat.ne_of_lt (Nat.lt_succ_of_lt lb)), ⟨hz, hTI, ⟨_, _, hTO⟩, ⟨_, g1, rfl, rfl⟩, ⟨_, g2, rfl, rfl⟩⟩, fun c hcm => ?_, q⟩
      have e' : c = s1.heap.objs.size + 4 ∨ c = s1.heap.objs.size + 2 ∨ c = s1.heap.objs.size + 3 ∨ c = s1.heap.objs.size ∨ c = s1.heap.objs.size + 1 := by simpa using hcm
      have hle : s1.heap.objs.size ≤ c := by
        rcases e' with z | z | z | z | z
        · rw [z]; exact Nat.le_add_right _ _
        · rw [z]; exact Nat.le_add_right _ _
        · rw [z]; exact Nat.le_add_right _ _
        · rw [z]; exact Nat.le_refl _
        · rw [z]; exact Nat.le_add_right _ _
      exact I1.fpOk hle (I1.hok.fresh hle)
theorem walk_zipM {K : PySem.W.Frag} {a b : Addr} {xs ys : List V} {n : Nat} (hn : n = min xs.length ys.length) : Walk (ItzM K a b) n (fun H => SqT K H a xs ∧ SqL K H b ys) (YPair (fun i => xs[i]?) (fun i => ys[i]?)) := by
  subst hn
  refine ⟨fun i _ hi q => ?_, fun _ q => ⟨xs, ys, q.1, q.2, by omega, by omega, by omega⟩, fun i H v H' _ q y => ?_⟩
  · have h1 : i < xs.length := by omega
    have h2 : i < ys.length := by omega
    exact ⟨xs, ys, xs[i], ys[i], q.1, q.2, by simp [h1], by simp [h2]⟩
  · obtain ⟨T, x, z, h1, h2, h3, h4, h5⟩ := y
    exact ⟨T, x, z, h1, h2, h3, h4 xs q.1, h5 ys q.2⟩
theorem walk_zipT {K : PySem.W.Frag} {a b : Addr} {xs ys : List V} {n : Nat} (hn : n = min xs.length ys.length) : Walk (RZ.ItzT K a b) n (fun H => SqT K H a xs ∧ SqT K H b ys) (YPair (fun i => xs[i]?) (fun i => ys[i]?)) := by
  subst hn
  refine ⟨fun i _ hi q => ?_, fun _ q => ⟨xs, ys, q.1, q.2, by omega⟩, fun i H v H' _ q y => ?_⟩
  · have h1 : i < xs.length := by omega
    have h2 : i < ys.length := by omega
    exact ⟨xs, ys, xs[i], ys[i], q.1, q.2, by simp [h1], by simp [h2]⟩
  · obtain ⟨T, x, z, h1, h2, h3, h4, h5⟩ := y
    exact ⟨T, x, z, h1, h2, h3, h4 xs q.1, h5 ys q.2⟩

/-! ### a op b op c op d -/
def tChain3 (r r' r'' : R2) (ta tb tc td : TE) : TE := fun σ H Q => ta σ H fun x H1 => tb σ H1 fun y H2 => r x y H2 fun z H3 => ∃ k, z = .bl k ∧ (if k = true then tc σ H3 fun w' H4 => r' y w' H4 fun z2 H5 => ∃ k2, z2 = .bl k2 ∧ (if k2 = true then td σ H5 fun v' H6 => r'' w' v' H6 Q else Q (.bl false) H5) else Q (.bl false) H3)
end K79

/-! The base, second part: chains of three, calls by name, data in the heap, comprehensions. -/
namespace K79
open PySem PySem.Spec PyProof.Rows L2
section
variable {X : Cx} {a b c d e : Expr} {es : List Expr} {ta tb tc td te : TE} {t : TA} {p pos : Pos}
theorem pe_chain3 {op op' op'' : CmpOp} {r r' r'' : R2} (ho : OpR X (compareOp op) r) (ho' : OpR X (compareOp op') r') (ho'' : OpR X (compareOp op'') r'') (ha : PE X a ta) (hb : PE X b tb) (hc : PE X c tc) (hd : PE X d td)
    (hm : lastMarks [op, op', op''] [b, c, d] = false := by with_unfolding_all rfl) : PE X (.Compare a [op, op', op''] [b, c, d] pos) (tChain3 r r' r'' ta tb tc td) := by
  refine ⟨fun pins s σ H Q I h => ?_⟩
  refine Compare_chain (thn (ha.run pins s σ H _ I h) fun v s1 ⟨x, H1, I1, r1, q1⟩ => chain_link (thn (hb.run pins s1 σ H1 _ I1 q1) fun u s2 ⟨y, H2, I2, r2, q2⟩ =>
    thn (ho pins s2 σ H2 x y v u _ I2 r1 r2 q2) fun d' s3 ⟨z, H3, I3, r3, k, e, q3⟩ => ?_)) hm
  subst e
  cases r3
  refine wpAny_truthy_bool ?_
  cases k with
  | false => exact ite_ff ⟨.bl false, H3, I3, rfl, q3⟩
  | true =>
    refine ite_tt (chain_link (thn (hc.run pins s3 σ H3 _ I3 q3) fun w' s4 ⟨z', H4, I4, r4, q4⟩ => thn (ho' pins s4 σ H4 y z' u w' _ I4 r2 r4 q4) fun d2 s5 ⟨z2, H5, I5, r5, k2, e2, q5⟩ => ?_))
    subst e2
    cases r5
    refine wpAny_truthy_bool ?_
    cases k2 with
    | false => exact ite_ff ⟨.bl false, H5, I5, rfl, q5⟩
    | true => exact ite_tt (chain_last (thn (hd.run pins s5 σ H5 _ I5 q5) fun v' s6 ⟨z3, H6, I6, r6, q6⟩ => ho'' pins s6 σ H6 z' z3 w' v' Q I6 r4 r6 q6))
/-- a module's constant -/
theorem pe_gc {x : Str} {v : V} (hg : Gl X x) (h : ∃ u, X.mg x = some u ∧ RelV v u) (hd : (x == ("__debug__" : Str)) = false := by decide) : PE X (.Name x pos) (tC v) := by
  obtain ⟨u, hm, r⟩ := h
  exact pe_glob hg hm r hd
end
/-! ### the text -/
abbrev FnP (K : PySem.W.Frag) (x : Str) (st : Stmt) (f : Addr) (fd : FuncData) : Prop := FunD K x x (defArgs st) (defBody st) (defScope st) [] [] f fd
/-- a def of the top under its name -/
structure Df (K : PySem.W.Frag) (mg : Str → Option Value) (x : Str) (st : Stmt) : Prop where
  ex : ∃ (f : Addr) (fd : FuncData), FnP K x st f fd ∧ mg x = some (.ref f)
/-- a def that keeps sp, callable by its name -/
structure Cal (P : Program) (w : World) (K : PySem.W.Frag) (mg : Str → Option Value) (base : Heap) (k : Nat) (x : Str) (sp : Sp) : Prop where
  ex : ∃ (f : Addr) (fd : FuncData) (ps : List Str), FnOk P w K mg base CX0 k f fd ps sp ∧ mg x = some (.ref f) ∧ PySem.W.keepIn K (.ref f) = true ∧ Binds K fd ps []
theorem cal_of {P : Program} {w : World} {K : PySem.W.Frag} {mg : Str → Option Value} {base : Heap} {x : Str} {st : Stmt} {N ps : List Str} {k : Nat} {sp : Sp} (D : Df K mg x st) (S : FnScope N ps (defScope st))
    (hb : ∀ (kV doc pm : Value) (an : Option Addr) (cdv ct : Value) (us : List Value), us.length = ps.length → bindArgs (PySem.W.fnOf x x (defArgs st) (defBody st) (defScope st) .none kV doc pm an cdv ct) ⟨us, []⟩ = pure (ps.zip us))
    (len : ∀ vs H Q E, sp vs H Q E → vs.length = ps.length)
    (hbody : ∀ (f : Addr) (cdv : Value) (A : Around) (outer : List Env) (s : Shared) (H : Hp) (vs : List V) (Q : VK) (E : XK), Room k (A.deeper (envOfC x (defScope st) s.heap.objs.size f cdv)) → sp vs H Q E →
      ∃ t, PSs (cxOf CX0 P w K mg base N x (defScope st) f cdv A outer s H E).nox (defBody st) t ∧ t { nx := fun _ H' => Q .non H', rt := Q } (start N vs) H) : Cal P w K mg base (k + 1) x sp := by
  obtain ⟨f, fd, F, hm⟩ := D.ex
  refine ⟨f, fd, ps, F.ok S len fun cdv A outer s H vs Q E hr hsp => ?_, hm, F.kp, F.bindsN hb⟩
  obtain ⟨t, h, q⟩ := hbody f cdv A outer s H vs Q E hr hsp
  exact ⟨t, h.nox, q⟩
def tCal (sp : Sp) (t : TA) : TE := fun σ H Q => t σ H fun vs H1 => sp vs H1 Q E0
theorem pe_c {X : Cx} {k j : Nat} {x : Str} {sp : Sp} {p pos : Pos} {e : Expr} {es : List Expr} {t : TA} (c : Cal X.prog X.w X.K X.mg X.base k x sp) (hr : Room j X.A) (hk : k ≤ j) (hg : Gl X x) (ha : PA X (e :: es) t)
    (hdb : (x == ("__debug__" : Str)) = false := by decide) (he : starEach (e :: es) X.env = (false, eval e X.env) :: starEach es X.env := by rfl) (hpl : (backTo pos (starEach es X.env)).any (·.1) = false := by rfl) :
    PE X (.Call (.Name x p) (e :: es) [] pos) (tCal sp t) := by
  obtain ⟨f, fd, ps, F, hm, kp, b⟩ := c.ex
  have h := pe_call (p := p) (dvs := []) F (hr.mono hk) hg hm kp b .nil pass0 ha hdb he hpl
  have e0 : tCall sp [] E0 t = tCal sp t := by
    funext σ H Q
    unfold tCall tCal
    congr 1
    funext vs H1
    rw [List.append_nil]
  rw [e0] at h
  exact h
/-- what the module's names hold -/
structure Md (mg : Str → Option Value) : Prop where
  abs : mg "abs" = none
  len : mg "len" = none
  max : mg "max" = none
  min : mg "min" = none
  divmod : mg "divmod" = none
  sorted : mg "sorted" = none
  all : mg "all" = none
  isinstance : mg "isinstance" = none
  int : mg "int" = none
  bool : mg "bool" = none
  str : mg "str" = none
  tuple : mg "tuple" = none
  list : mg "list" = none
  range : mg "range" = none
  enumerate : mg "enumerate" = none
  zip : mg "zip" = none
  reversed : mg "reversed" = none
  MOST_FACTS : ∃ u, mg "MOST_FACTS" = some u ∧ RelV (.int 40) u
  MOST_PLACES : ∃ u, mg "MOST_PLACES" = some u ∧ RelV (.int 40) u
  MOST_DEGREE : ∃ u, mg "MOST_DEGREE" = some u ∧ RelV (.int 12) u
  LONGEST_VALUES : ∃ u, mg "LONGEST_VALUES" = some u ∧ RelV (.int 40) u
  LONGEST_POINTS : ∃ u, mg "LONGEST_POINTS" = some u ∧ RelV (.int 13) u

theorem kix_tup {X : Cx} {K : PySem.W.Frag} (h : X.K = K) : IxR X (rIxT K) := by
  subst h
  exact ix_tup
theorem kix_list {X : Cx} {K : PySem.W.Frag} (h : X.K = K) : IxR X (rIxL K) := by
  subst h
  exact ix_list
theorem kpi_list {X : Cx} {K : PySem.W.Frag} {tg l : Expr} {tl : TE} (h : X.K = K) (hl : PE X l tl) : PI X tg l (iList K tl) := by
  subst h
  exact pi_list hl

/-! ### readings, one step -/
local macro_rules | `(tactic| walk_at "rd1") => `(tactic| first | refine ⟨_, rfl, ?_⟩ | refine ⟨_, _, rfl, rfl, ?_⟩ | refine ⟨rfl, ?_⟩)
local macro_rules | `(tactic| walk_at "rd") => `(tactic| repeat walk_at "rd1")

/-! ### data in the heap -/
theorem same_upd {H : Hp} {p : Addr} {o : HO} (h : H p = none) : Same H (upd H p o) := fun b x e => by
  rw [upd_ne (ne_of_none e h)]
  exact e
/-- what was not there at first may change -/
theorem _root_.L2.Same.mut {H H' : Hp} {p : Addr} {o : HO} (e : Same H H') (h : H p = none) : Same H (upd H' p o) := fun b x q => by
  rw [upd_ne (ne_of_none q h)]
  exact e b x q
theorem _root_.L2.Same.tup {K : PySem.W.Frag} {H H' : Hp} {a : Addr} {xs : List V} (e : Same H H') (h : SqT K H a xs) : SqT K H' a xs := by
  rcases h with (h | ⟨o, h⟩) | h
  · exact .inl (.inl (e _ _ h))
  · exact .inl (.inr ⟨o, e _ _ h⟩)
  · exact .inr h
/-- all but the lists stays -/
def Ext (H H' : Hp) : Prop := ∀ b o, H b = some o → (∀ xs, o ≠ .lst xs) → H' b = some o
theorem _root_.L2.Same.ext {H H' : Hp} (e : Same H H') : Ext H H' := fun b o q _ => e b o q
theorem Ext.refl (H : Hp) : Ext H H := fun _ _ h _ => h
theorem Ext.trans {H H1 H2 : Hp} (a : Ext H H1) (b : Ext H1 H2) : Ext H H2 := fun c o h n => b c o (a c o h n) n
theorem ext_lst {H : Hp} {p : Addr} {xs : List V} {o : HO} (h : H p = some (.lst xs)) : Ext H (upd H p o) := fun b u q n => by
  have hb : b ≠ p := fun e => by
    rw [e, h] at q
    exact n xs (Option.some.inj q).symm
  rw [upd_ne hb]
  exact q
theorem Ext.tup {K : PySem.W.Frag} {H H' : Hp} {a : Addr} {xs : List V} (e : Ext H H') (h : SqT K H a xs) : SqT K H' a xs := by
  rcases h with (h | ⟨o, h⟩) | h
  · exact .inl (.inl (e _ _ h (fun _ z => nomatch z)))
  · exact .inl (.inr ⟨o, e _ _ h (fun _ z => nomatch z)⟩)
  · exact .inr h
theorem sqt {K : PySem.W.Frag} {H : Hp} {a : Addr} {xs : List V} (h : H a = some (.tup xs)) : SqT K H a xs := .inl (.inl h)
theorem sql {K : PySem.W.Frag} {H : Hp} {a : Addr} {xs : List V} (h : H a = some (.lst xs)) : SqL K H a xs := .inl (.inl h)
theorem sqt_new {K : PySem.W.Frag} {H : Hp} {a : Addr} {xs : List V} : SqT K (upd H a (.tup xs)) a xs := sqt upd_same
theorem sql_new {K : PySem.W.Frag} {H : Hp} {a : Addr} {xs : List V} : SqL K (upd H a (.lst xs)) a xs := sql upd_same
theorem ty_tup {K : PySem.W.Frag} {H : Hp} {a : Addr} {xs : List V} (h : SqT K H a xs) : TyX K H (.ref a) (.type "tuple") := by
  rcases h with (h | ⟨o, h⟩) | ⟨o, its, n, h, c, _⟩
  · exact .base (.tup h)
  · exact .fTuple h
  · exact .kTuple h c
theorem ty_int {K : PySem.W.Frag} {H : Hp} (i : Int) : TyX K H (.int i) (.type "int") := .base (.int i)
/-- the items of a list or tuple stand for the items of l -/
def Els {β : Type} (R : Hp → V → β → Prop) (H : Hp) (vs : List V) (l : List β) : Prop := vs.length = l.length ∧ ∀ (i : Nat) v x, vs[i]? = some v → l[i]? = some x → R H v x
/-- R leans on no list -/
def Stb' {β : Type} (R : Hp → V → β → Prop) : Prop := ∀ H H' v x, Ext H H' → R H v x → R H' v x
theorem Els.nil {β : Type} {R : Hp → V → β → Prop} {H : Hp} : Els R H [] [] := ⟨rfl, fun i v x h => by simp at h⟩
theorem Els.ext {β : Type} {R : Hp → V → β → Prop} {H H' : Hp} {vs : List V} {l : List β} (sR : Stb' R) (e : Ext H H') (h : Els R H vs l) : Els R H' vs l := ⟨h.1, fun i v x a b => sR _ _ _ _ e (h.2 i v x a b)⟩
theorem Els.snoc {β : Type} {R : Hp → V → β → Prop} {H : Hp} {vs : List V} {l : List β} {v : V} {x : β} (h : Els R H vs l) (r : R H v x) : Els R H (vs ++ [v]) (l ++ [x]) := by
  refine ⟨by simp [h.1], fun i w y h1 h2 => ?_⟩
  by_cases hi : i < vs.length
  · rw [List.getElem?_append_left hi] at h1
    rw [List.getElem?_append_left (by rw [← h.1]; exact hi)] at h2
    exact h.2 i w y h1 h2
  · rw [List.getElem?_append_right (by omega)] at h1
    rw [List.getElem?_append_right (by rw [← h.1]; omega)] at h2
    rw [← h.1] at h2
    cases hk : i - vs.length with
    | zero =>
      rw [hk] at h1 h2
      have e1 : v = w := by simpa using h1
      have e2 : x = y := by simpa using h2
      rw [← e1, ← e2]
      exact r
    | succ k =>
      rw [hk] at h1
      simp at h1
theorem Els.append {β : Type} {R : Hp → V → β → Prop} {H : Hp} {vs ws : List V} {l m : List β} (h : Els R H vs l) (h2 : Els R H ws m) : Els R H (vs ++ ws) (l ++ m) := by
  refine ⟨by simp [h.1, h2.1], fun i w y a1 a2 => ?_⟩
  by_cases hi : i < vs.length
  · rw [List.getElem?_append_left hi] at a1
    rw [List.getElem?_append_left (by rw [← h.1]; exact hi)] at a2
    exact h.2 i w y a1 a2
  · rw [List.getElem?_append_right (by omega)] at a1
    rw [List.getElem?_append_right (by rw [← h.1]; omega)] at a2
    rw [← h.1] at a2
    exact h2.2 _ w y a1 a2
theorem Els.at {β : Type} {R : Hp → V → β → Prop} {H : Hp} {vs : List V} {l : List β} (h : Els R H vs l) {i : Nat} {x : β} (hx : l[i]? = some x) : ∃ v, vs[i]? = some v ∧ R H v x := by
  have hi : i < l.length := (List.getElem?_eq_some_iff.mp hx).1
  have hv : i < vs.length := by rw [h.1]; exact hi
  exact ⟨vs[i], List.getElem?_eq_getElem hv, h.2 i _ x (List.getElem?_eq_getElem hv) hx⟩
theorem Els.atV {β : Type} {R : Hp → V → β → Prop} {H : Hp} {vs : List V} {l : List β} (h : Els R H vs l) {i : Nat} {v : V} (hv : vs[i]? = some v) : ∃ x, l[i]? = some x ∧ R H v x := by
  have hi : i < vs.length := (List.getElem?_eq_some_iff.mp hv).1
  have hl : i < l.length := by rw [← h.1]; exact hi
  exact ⟨l[i], List.getElem?_eq_getElem hl, h.2 i v _ hv (List.getElem?_eq_getElem hl)⟩
theorem Els.take {β : Type} {R : Hp → V → β → Prop} {H : Hp} {vs : List V} {l : List β} (h : Els R H vs l) (n : Nat) : Els R H (vs.take n) (l.take n) := by
  refine ⟨by simp [h.1], fun i v x a b => ?_⟩
  by_cases hi : i < n
  · rw [List.getElem?_take, if_pos hi] at a b
    exact h.2 i v x a b
  · rw [List.getElem?_take, if_neg hi] at a
    cases a
theorem Els.drop {β : Type} {R : Hp → V → β → Prop} {H : Hp} {vs : List V} {l : List β} (h : Els R H vs l) (n : Nat) : Els R H (vs.drop n) (l.drop n) := by
  refine ⟨by simp [h.1], fun i v x a b => ?_⟩
  rw [List.getElem?_drop] at a b
  exact h.2 _ v x a b
/-- ints -/
def RI : Hp → V → Int → Prop := fun _ v x => v = .int x
theorem stb_RI : Stb' RI := fun _ _ _ _ _ h => h
theorem els_ints {H : Hp} : ∀ {vs : List V} {l : List Int}, Els RI H vs l → vs = l.map V.int := fun {vs l} h => by
  apply List.ext_getElem?
  intro i
  rw [List.getElem?_map]
  by_cases hi : i < vs.length
  · have hl : i < l.length := by rw [← h.1]; exact hi
    rw [List.getElem?_eq_getElem hi, List.getElem?_eq_getElem hl]
    have := h.2 i _ _ (List.getElem?_eq_getElem hi) (List.getElem?_eq_getElem hl)
    rw [this]
    rfl
  · have hl : ¬ i < l.length := by rw [← h.1]; exact hi
    rw [List.getElem?_eq_none (by omega), List.getElem?_eq_none (by omega)]
    rfl
theorem ints_els {H : Hp} (l : List Int) : Els RI H (l.map V.int) l := by
  refine ⟨by simp, fun i v x a b => ?_⟩
  rw [List.getElem?_map, b] at a
  exact (Option.some.inj a).symm
/-- bools -/
def RB : Hp → V → Bool → Prop := fun _ v x => v = .bl x
theorem stb_RB : Stb' RB := fun _ _ _ _ _ h => h
theorem els_bools {H : Hp} {vs : List V} {l : List Bool} (h : Els RB H vs l) : vs = l.map V.bl := by
  apply List.ext_getElem?
  intro i
  rw [List.getElem?_map]
  by_cases hi : i < vs.length
  · have hl : i < l.length := by rw [← h.1]; exact hi
    rw [List.getElem?_eq_getElem hi, List.getElem?_eq_getElem hl]
    have := h.2 i _ _ (List.getElem?_eq_getElem hi) (List.getElem?_eq_getElem hl)
    rw [this]
    rfl
  · have hl : ¬ i < l.length := by rw [← h.1]; exact hi
    rw [List.getElem?_eq_none (by omega), List.getElem?_eq_none (by omega)]
    rfl
/-- a tuple of two ints -/
def RP (K : PySem.W.Frag) : Hp → V → Int × Int → Prop := fun H v x => ∃ q, v = .ref q ∧ SqT K H q [.int x.1, .int x.2]
theorem stb_RP {K : PySem.W.Frag} : Stb' (RP K) := fun _ _ _ _ e ⟨q, h1, h2⟩ => ⟨q, h1, e.tup h2⟩
/-- .. tracked itself -/
def RPt : Hp → V → Int × Int → Prop := fun H v x => ∃ q, v = .ref q ∧ H q = some (.tup [.int x.1, .int x.2])
theorem stb_RPt : Stb' RPt := fun _ _ _ _ e ⟨q, h1, h2⟩ => ⟨q, h1, e _ _ h2 (fun _ z => nomatch z)⟩
theorem RPt.rp {K : PySem.W.Frag} {H : Hp} {v : V} {x : Int × Int} (h : RPt H v x) : RP K H v x := let ⟨q, a, b⟩ := h; ⟨q, a, sqt b⟩
/-- a tuple of three ints -/
def RT (K : PySem.W.Frag) : Hp → V → Int × Int × Int → Prop := fun H v x => ∃ q, v = .ref q ∧ SqT K H q [.int x.1, .int x.2.1, .int x.2.2]
theorem stb_RT {K : PySem.W.Frag} : Stb' (RT K) := fun _ _ _ _ e ⟨q, h1, h2⟩ => ⟨q, h1, e.tup h2⟩
/-- a tuple whose items stand for l -/
def TupOf {β : Type} (K : PySem.W.Frag) (R : Hp → V → β → Prop) (H : Hp) (a : Addr) (l : List β) : Prop := ∃ vs, SqT K H a vs ∧ Els R H vs l
def LstOf {β : Type} (K : PySem.W.Frag) (R : Hp → V → β → Prop) (H : Hp) (a : Addr) (l : List β) : Prop := ∃ vs, SqL K H a vs ∧ Els R H vs l
theorem TupOf.same {β : Type} {K : PySem.W.Frag} {R : Hp → V → β → Prop} {H H' : Hp} {a : Addr} {l : List β} (sR : Stb' R) (e : Same H H') (h : TupOf K R H a l) : TupOf K R H' a l := let ⟨vs, h1, h2⟩ := h; ⟨vs, e.tup h1, h2.ext sR e.ext⟩
theorem LstOf.same {β : Type} {K : PySem.W.Frag} {R : Hp → V → β → Prop} {H H' : Hp} {a : Addr} {l : List β} (sR : Stb' R) (e : Same H H') (h : LstOf K R H a l) : LstOf K R H' a l := let ⟨vs, h1, h2⟩ := h; ⟨vs, e.seq h1, h2.ext sR e.ext⟩
theorem tup_ints {K : PySem.W.Frag} {H : Hp} {a : Addr} {l : List Int} (h : SqT K H a (l.map V.int)) : TupOf K RI H a l := ⟨_, h, ints_els l⟩

/-! ### a comprehension over a walk, by a map and a filter -/
theorem lc_data {β : Type} (R : Hp → V → β → Prop) (sR : Stb' R) (l : List β) (pr : β → Bool) {J : It} {n : Nat} {G : Hp → Prop} {Y : Nat → Hp → V → Hp → Prop} (w : Walk J n G Y) {g : TG} {tt : TT} {te : TE} {vs : List Nat} {σ : L2.St} {H1 : Hp} {D : Addr} {Qd : Hp → Prop}
    (hn : l.length = n) (hs : n < sizeLine) (hD : H1 D = none) (hG : ∀ H, Same H1 H → G H)
    (body : ∀ (i : Nat) b x H H' (N1 : V → Hp → Prop) (N0 : Hp → Prop), l[i]? = some b → Same H1 H → Y i H x H' → (pr b = true → ∀ y H4, Same H H4 → R H4 y b → N1 y H4) → (pr b = false → ∀ H3, Same H H3 → N0 H3) →
      g x (wipe σ vs) H' fun σ2 H2 => wipe σ2 vs = wipe σ vs ∧ tt σ2 H2 fun bb H3 => if bb = true then te σ2 H3 N1 else N0 H3)
    (hd : ∀ H ws, Same H1 H → H D = some (.lst ws) → Els R H ws (l.filter pr) → Qd H) :
    ∃ W : Nat → Nat → Hp → Prop, (∃ m, W 0 m (upd H1 D (.lst []))) ∧ ∀ i m H, W i m H →
      (J.stop i H ∧ Qd H) ∨ (J.go i H ∧ ∃ Nx : Hp → Prop, (∀ H', Nx H' → ∃ m', m' < m ∧ W (i + 1) m' H') ∧ ∀ x H', J.yld i H x H' → g x (wipe σ vs) H' fun σ2 H2 => wipe σ2 vs = wipe σ vs ∧ tt σ2 H2 fun b H3 =>
        if b = true then te σ2 H3 fun y H4 => ∃ acc, H4 D = some (.lst acc) ∧ acc.length < sizeLine ∧ Nx (upd H4 D (.lst (acc ++ [y]))) else Nx H3) := by
  refine lc_it w (fun i H => Same H1 H ∧ ∃ ws, H D = some (.lst ws) ∧ Els R H ws ((l.take i).filter pr)) ⟨same_upd hD, [], upd_same, Els.nil⟩ (fun i H _ h => hG H h.1) (fun i x H H' hi hP hy => ?_) (fun H hP => ?_)
  · obtain ⟨sm, ws, hD', he⟩ := hP
    have hl : i < l.length := by omega
    have hb : l[i]? = some l[i] := List.getElem?_eq_getElem hl
    have hw : ws.length < sizeLine := by
      have h1 := he.1
      have h2 : ((l.take i).filter pr).length ≤ (l.take i).length := List.length_filter_le _ _
      rw [List.length_take] at h2
      omega
    have ef : (l.take (i + 1)).filter pr = (l.take i).filter pr ++ if pr l[i] = true then [l[i]] else [] := by
      rw [List.take_add_one, hb, List.filter_append]
      congr 1
      show List.filter pr [l[i]] = _
      by_cases hp : pr l[i] = true
      · rw [if_pos hp, List.filter_cons_of_pos hp, List.filter_nil]
      · rw [if_neg hp, List.filter_cons_of_neg hp, List.filter_nil]
    refine body i _ x H H' _ _ hb sm hy (fun hp y H4 s4 r4 => ?_) (fun hp H3 s3 => ?_)
    · rw [if_pos hp] at ef
      have hD4 := s4 _ _ hD'
      refine ⟨ws, hD4, hw, Same.mut (sm.trans s4) hD, ws ++ [y], upd_same, ?_⟩
      rw [ef]
      exact ((he.ext sR s4.ext).snoc r4).ext sR (ext_lst hD4)
    · rw [if_neg (by rw [hp]; decide), List.append_nil] at ef
      refine ⟨sm.trans s3, ws, s3 _ _ hD', ?_⟩
      rw [ef]
      exact he.ext sR s3.ext
  · obtain ⟨sm, ws, hD', he⟩ := hP
    rw [← hn, List.take_length] at he
    exact hd H ws sm hD' he
end K79

/-! Divisors, rests, integers. -/
namespace K79
open PySem PySem.Spec PyProof.Rows L2
local macro_rules | `(tactic| walk_at "rd1") => `(tactic| first | refine ⟨_, rfl, ?_⟩ | refine ⟨_, _, rfl, rfl, ?_⟩ | refine ⟨_, _, rfl, ?_⟩ | refine ⟨rfl, ?_⟩)
local macro_rules | `(tactic| walk_at "rd") => `(tactic| repeat walk_at "rd1")
section
variable {P : Program} {w : World} {K : PySem.W.Frag} {mg : Str → Option Value} {base : Heap}
theorem abs_if (a : Int) : (if a < 0 then -a else a) = (a.natAbs : Int) := by
  split <;> omega
theorem gcd_step (x y : Int) : Int.gcd y (x % y) = Int.gcd x y := by
  rw [Int.emod_def, Int.gcd_sub_mul_left_right, Int.gcd_comm]
/-! ### gcd -/
def spGcd : Sp := fun vs H Q _ => ∃ a b : Int, vs = [.int a, .int b] ∧ Q (.int (Int.gcd a b : Int)) H
theorem sc_gcd : FnScope ["one", "other"] ["one", "other"] (defScope (topS 13)) := ⟨rfl, rfl, rfl, by decide +kernel, rfl, by decide +kernel, by decide +kernel⟩
theorem c_gcd (D : Df K mg "gcd" (topS 13)) (M : Md mg) : Cal P w K mg base 1 "gcd" spGcd := by
  refine cal_of D sc_gcd (fun _ _ _ _ _ _ us hl => match us, hl with | [_, _], _ => rfl) (fun vs H Q E h => ?_) (fun f cdv A outer s H vs Q E hr h => ?_)
  · obtain ⟨a, b, rfl, _⟩ := h
    rfl
  · obtain ⟨a, b, rfl, q⟩ := h
    have nd := sc_gcd.nd
    refine ⟨_, (pss_cons (ps_par (i := 0) (j := 1) rfl nd rfl rfl (by decide) rfl rfl (pa_cons (pe_callB call_abs (by rfl) M.abs (by decide +kernel) (pa_cons (pv 0) pa_nil)) (pa_cons (pe_callB call_abs (by rfl) M.abs (by decide +kernel) (pa_cons (pv 1) pa_nil)) pa_nil)) (by rfl)) (pss_cons (ps_while PassesOwn.never (pt_cmpR op_gt (pv 1) pe_int (nomark _)) (pss_one (ps_par (i := 0) (j := 1) rfl nd rfl rfl (by decide) rfl rfl (pa_cons (pv 1) (pa_cons (pe_op op_mod (pv 0) (pv 1)) pa_nil)) (by rfl)))) (pss_one (ps_ret (pv 0))))), ?_⟩
    walk_at "rd"
    refine ⟨fun m σ H' => H' = H ∧ ∃ x y : Int, σ = [some (.int x), some (.int y)] ∧ 0 ≤ x ∧ 0 ≤ y ∧ Int.gcd x y = Int.gcd a b ∧ m = y.toNat, ⟨_, rfl, _, _, rfl, ?_, ?_, ?_, rfl⟩, fun m σ H' hW => ?_⟩
    · split <;> omega
    · split <;> omega
    · rw [abs_if, abs_if]
      unfold Int.gcd
      rw [Int.natAbs_natCast, Int.natAbs_natCast]
    · obtain ⟨rfl, x, y, rfl, hx, hy, hg, rfl⟩ := hW
      walk_at "rd"
      by_cases h0 : 0 < y
      · rw [decide_eq_true h0]
        refine iteT ⟨fun σ' H'' => H'' = H' ∧ ∃ x' y' : Int, σ' = [some (.int x'), some (.int y')] ∧ 0 ≤ x' ∧ 0 ≤ y' ∧ Int.gcd x' y' = Int.gcd a b ∧ y'.toNat < y.toNat, fun σ' H'' hn => ?_, ?_⟩
        · obtain ⟨rfl, x', y', rfl, h1, h2, h3, h4⟩ := hn
          exact ⟨_, h4, rfl, x', y', rfl, h1, h2, h3, rfl⟩
        · walk_at "rd"
          refine ⟨h0, ?_⟩
          walk_at "rd"
          have e1 := Int.emod_nonneg x (by omega : y ≠ 0)
          have e2 := Int.emod_lt_of_pos x h0
          refine ⟨by omega, e1, ?_, by omega⟩
          rw [← hg, gcd_step x y]
      · rw [decide_eq_false h0]
        refine iteF ?_
        walk_at "rd"
        have ey : y = 0 := by omega
        subst ey
        have ex : x = (Int.gcd a b : Int) := by
          rw [← hg, Int.gcd_zero_right]
          omega
        rw [ex]
        exact q

/-! ### lcm -/
abbrev Sm (i : Int) : Prop := i.natAbs < 2 ^ 1000
theorem sm_mul {i j : Int} (h1 : Sm i) (h2 : Sm j) : CMulW i j := wide_mul h1 h2 (by decide) (by decide) (by decide)
theorem sm_div {i j : Int} (h0 : 0 < j) (h2 : Sm j) : CDivW i j := wide_div h0 h2 (by decide) (by decide)
theorem sm_of {i j : Int} (h : i.natAbs ≤ j.natAbs) (hj : Sm j) : Sm i := Nat.lt_of_le_of_lt h hj
theorem sm_le {i : Int} {n : Nat} (h : i.natAbs ≤ n) (hn : n < 2 ^ 1000) : Sm i := Nat.lt_of_le_of_lt h hn
theorem dI (a b : Int) : decide (V.int a = V.int b) = decide (a = b) := by
  by_cases h : a = b
  · subst h
    rw [decide_eq_true rfl, decide_eq_true rfl]
  · rw [decide_eq_false h, decide_eq_false (fun z => h (V.int.inj z))]
theorem yesI {a b : Int} (e : decide (V.int a = V.int b) = true) : a = b := V.int.inj (of_decide_eq_true e)
theorem noI {a b : Int} (e : ¬ decide (V.int a = V.int b) = true) : a ≠ b := fun z => e (by rw [z]; exact decide_eq_true rfl)
theorem gcd_le (a b : Int) (h : a ≠ 0) : Int.gcd a b ≤ a.natAbs := Int.gcd_le_natAbs_left b h
theorem lcm_as (a b : Int) (ha : a ≠ 0) : (a.natAbs : Int) / (Int.gcd a b : Int) * (b.natAbs : Int) = (Int.lcm a b : Int) := by
  have h : a.natAbs / Int.gcd a b * b.natAbs = Int.lcm a b := by
    rw [Int.lcm_eq_mul_div, Int.gcd_eq_natAbs_gcd_natAbs]
    exact (Nat.div_mul_right_comm (Nat.gcd_dvd_left _ _) _)
  rw [← h]
  rfl
def spLcm : Sp := fun vs H Q _ => ∃ a b : Int, vs = [.int a, .int b] ∧ Sm a ∧ Sm b ∧ Q (.int (Int.lcm a b : Int)) H
theorem sc_lcm : FnScope ["one", "other"] ["one", "other"] (defScope (topS 14)) := ⟨rfl, rfl, rfl, by decide +kernel, rfl, by decide +kernel, by decide +kernel⟩
theorem c_lcm (D : Df K mg "lcm" (topS 14)) (M : Md mg) (c_gcd : Cal P w K mg base 1 "gcd" spGcd) : Cal P w K mg base 2 "lcm" spLcm := by
  refine cal_of D sc_lcm (fun _ _ _ _ _ _ us hl => match us, hl with | [_, _], _ => rfl) (fun vs H Q E h => ?_) (fun f cdv A outer s H vs Q E hr h => ?_)
  · obtain ⟨a, b, rfl, _⟩ := h
    rfl
  · obtain ⟨a, b, rfl, sa, sb, q⟩ := h
    have nd := sc_lcm.nd
    refine ⟨_, (pss_one (ps_ret (pe_ifExp (pw_or (pt_cmpR op_eq (pv 0) pe_int (nomark _)) (pw_or1 (pt_cmpR op_eq (pv 1) pe_int (nomark _)))).pt pe_int (pe_op op_mulW (pe_op op_fdivW (pe_callB call_abs (by rfl) M.abs (by decide +kernel) (pa_cons (pv 0) pa_nil)) (pe_c c_gcd hr (by decide) (by rfl) (pa_cons (pv 0) (pa_cons (pv 1) pa_nil)))) (pe_callB call_abs (by rfl) M.abs (by decide +kernel) (pa_cons (pv 1) pa_nil)))))), ?_⟩
    walk_at "rd"
    refine ite2 (fun e => ?_) (fun e => ?_)
    · refine iteT ?_
      have := yesI e
      subst this
      rw [Int.lcm_zero_left] at q
      exact q
    · have ha := noI e
      walk_at "rd"
      refine ite2 (fun e => ?_) (fun e => ?_)
      · have := yesI e
        subst this
        rw [Int.lcm_zero_right] at q
        exact q
      · have hb := noI e
        walk_at "rd"
        have hg : 0 < Int.gcd a b := Int.gcd_pos_of_ne_zero_left b ha
        have hg2 := gcd_le a b ha
        rw [abs_if]
        refine ⟨sm_div (by omega) (sm_of (i := (Int.gcd a b : Int)) (by omega) sa), ?_⟩
        walk_at "rd"
        rw [abs_if]
        rw [← lcm_as a b ha] at q
        refine ⟨sm_mul (i := (a.natAbs : Int) / (Int.gcd a b : Int)) (sm_of (j := a) ?_ sa) (sm_of (j := b) (by omega) sb), q⟩
        have h1 : (a.natAbs : Int) / (Int.gcd a b : Int) = ((a.natAbs / Int.gcd a b : Nat) : Int) := rfl
        rw [h1, Int.natAbs_natCast]
        exact Nat.div_le_self _ _
/-! ### rests -/
def restBy (n q : Int) : Int := if q = 0 then n else n % q
def spRestBy : Sp := fun vs H Q _ => ∃ n q : Int, vs = [.int n, .int q] ∧ 0 ≤ q ∧ Q (.int (restBy n q)) H
theorem sc_rest_by : FnScope ["number", "base"] ["number", "base"] (defScope (topS 15)) := ⟨rfl, rfl, rfl, by decide +kernel, rfl, by decide +kernel, by decide +kernel⟩
theorem c_rest_by (D : Df K mg "rest_by" (topS 15)) (M : Md mg) : Cal P w K mg base 1 "rest_by" spRestBy := by
  refine cal_of D sc_rest_by (fun _ _ _ _ _ _ us hl => match us, hl with | [_, _], _ => rfl) (fun vs H Q E h => ?_) (fun f cdv A outer s H vs Q E hr h => ?_)
  · obtain ⟨a, b, rfl, _⟩ := h
    rfl
  · obtain ⟨n, q, rfl, hq, q1⟩ := h
    have nd := sc_rest_by.nd
    refine ⟨_, (pss_one (ps_ret (pe_ifExp (pt_cmpR op_eq (pv 1) pe_int (nomark _)) (pv 0) (pe_op op_mod (pv 0) (pv 1))))), ?_⟩
    walk_at "rd"
    unfold restBy at q1
    refine ite2 (fun e => ?_) (fun e => ?_)
    · rw [if_pos (yesI e)] at q1
      walk_at "rd"
      exact q1
    · rw [if_neg (noI e)] at q1
      have := noI e
      walk_at "rd"
      exact ⟨by omega, q1⟩
def agreeB (a b q : Int) : Bool := decide (restBy (a - b) q = 0)
def spAgree : Sp := fun vs H Q _ => ∃ a b q : Int, vs = [.int a, .int b, .int q] ∧ 0 ≤ q ∧ Q (.bl (agreeB a b q)) H
theorem sc_agree : FnScope ["one", "other", "base"] ["one", "other", "base"] (defScope (topS 16)) := ⟨rfl, rfl, rfl, by decide +kernel, rfl, by decide +kernel, by decide +kernel⟩
theorem c_agree (D : Df K mg "agree" (topS 16)) (M : Md mg) (c_rest_by : Cal P w K mg base 1 "rest_by" spRestBy) : Cal P w K mg base 2 "agree" spAgree := by
  refine cal_of D sc_agree (fun _ _ _ _ _ _ us hl => match us, hl with | [_, _, _], _ => rfl) (fun vs H Q E h => ?_) (fun f cdv A outer s H vs Q E hr h => ?_)
  · obtain ⟨a, b, q, rfl, _⟩ := h
    rfl
  · obtain ⟨a, b, q, rfl, hq, q1⟩ := h
    have nd := sc_agree.nd
    refine ⟨_, (pss_one (ps_ret (pe_cmpR op_eq (pe_c c_rest_by hr (by decide) (by rfl) (pa_cons (pe_op op_sub (pv 0) (pv 1)) (pa_cons (pv 2) pa_nil))) pe_int (nomark _)))), ?_⟩
    walk_at "rd"
    refine ⟨hq, ?_⟩
    walk_at "rd"
    rw [dI]
    exact q1
/-! ### integers -/
def spIsInt : Sp := fun vs H Q _ => ∃ i : Int, vs = [.int i] ∧ Q (.bl true) H
theorem sc_is_integer : FnScope ["value"] ["value"] (defScope (topS 20)) := ⟨rfl, rfl, rfl, by decide +kernel, rfl, by decide +kernel, by decide +kernel⟩
theorem c_is_integer (D : Df K mg "is_integer" (topS 20)) (M : Md mg) : Cal P w K mg base 1 "is_integer" spIsInt := by
  refine cal_of D sc_is_integer (fun _ _ _ _ _ _ us hl => match us, hl with | [_], _ => rfl) (fun vs H Q E h => ?_) (fun f cdv A outer s H vs Q E hr h => ?_)
  · obtain ⟨a, rfl, _⟩ := h
    rfl
  · obtain ⟨i, rfl, q⟩ := h
    have nd := sc_is_integer.nd
    refine ⟨_, (pss_one (ps_ret (pe_and (pe_callB call_isi (by rfl) M.isinstance (by decide +kernel) (pa_cons (pv 0) (pa_cons (pe_bltn (v := .ty "int") (by rfl) M.int (by decide +kernel) rfl) pa_nil))) (pe_one (pe_not (pe_callB call_isi (by rfl) M.isinstance (by decide +kernel) (pa_cons (pv 0) (pa_cons (pe_bltn (v := .ty "bool") (by rfl) M.bool (by decide +kernel) rfl) pa_nil)))))))), ?_⟩
    walk_at "rd"
    refine ⟨_, _, _, _, true, rfl, .ty "int", ty_int i, kit_ty (by decide +kernel), ?_⟩
    walk_at "rd"
    refine ⟨_, _, _, _, false, rfl, .ty "bool", ty_int i, kit_ty (by decide +kernel), ?_⟩
    walk_at "rd"
    exact q
def spIsBase : Sp := fun vs H Q _ => ∃ i : Int, vs = [.int i] ∧ 0 ≤ i ∧ Q (.bl true) H
theorem sc_is_base : FnScope ["value"] ["value"] (defScope (topS 21)) := ⟨rfl, rfl, rfl, by decide +kernel, rfl, by decide +kernel, by decide +kernel⟩
theorem c_is_base (D : Df K mg "is_base" (topS 21)) (M : Md mg) (c_is_integer : Cal P w K mg base 1 "is_integer" spIsInt) : Cal P w K mg base 2 "is_base" spIsBase := by
  refine cal_of D sc_is_base (fun _ _ _ _ _ _ us hl => match us, hl with | [_], _ => rfl) (fun vs H Q E h => ?_) (fun f cdv A outer s H vs Q E hr h => ?_)
  · obtain ⟨a, rfl, _⟩ := h
    rfl
  · obtain ⟨i, rfl, hi, q⟩ := h
    have nd := sc_is_base.nd
    refine ⟨_, (pss_one (ps_ret (pe_and (pe_c c_is_integer hr (by decide) (by rfl) (pa_cons (pv 0) pa_nil)) (pe_one (pe_cmpR op_ge (pv 0) pe_int (nomark _)))))), ?_⟩
    walk_at "rd"
    exact (show Q (.bl (decide (0 ≤ i))) H by rw [decide_eq_true hi]; exact q)
def spChkInt : Sp := fun vs H Q _ => ∃ i : Int, vs = [.int i] ∧ Q .non H
theorem sc_check_integer : FnScope ["value"] ["value"] (defScope (topS 23)) := ⟨rfl, rfl, rfl, by decide +kernel, rfl, by decide +kernel, by decide +kernel⟩
theorem c_check_integer (D : Df K mg "check_integer" (topS 23)) (M : Md mg) (c_is_integer : Cal P w K mg base 1 "is_integer" spIsInt) : Cal P w K mg base 2 "check_integer" spChkInt := by
  refine cal_of D sc_check_integer (fun _ _ _ _ _ _ us hl => match us, hl with | [_], _ => rfl) (fun vs H Q E h => ?_) (fun f cdv A outer s H vs Q E hr h => ?_)
  · obtain ⟨a, rfl, _⟩ := h
    rfl
  · obtain ⟨i, rfl, q⟩ := h
    have nd := sc_check_integer.nd
    refine ⟨_, (pss_one (ps_if (pt_not (pt_val (pe_c c_is_integer hr (by decide) (by rfl) (pa_cons (pv 0) pa_nil)))) (pss_one ps_never) pss_nil)), ?_⟩
    walk_at "rd"
    exact iteF q
/-! ### tuples of integers -/
def spAreInts (K : PySem.W.Frag) : Sp := fun vs H Q _ => ∃ (a : Addr) (ns : List Int), vs = [.ref a, .int ns.length] ∧ ns.length < sizeLine ∧ SqT K H a (ns.map V.int) ∧ ∀ H', Same H H' → Q (.bl true) H'
theorem all_true (n : Nat) : (List.replicate n true).all id = true := by
  induction n with
  | zero => rfl
  | succ n ih => exact ih
theorem sc_are_integers : FnScope ["value", "many", "number"] ["value", "many"] (defScope (topS 22)) := ⟨rfl, rfl, rfl, by decide +kernel, rfl, by decide +kernel, by decide +kernel⟩
theorem c_are_integers (D : Df K mg "are_integers" (topS 22)) (M : Md mg) (c_is_integer : Cal P w K mg base 1 "is_integer" spIsInt) : Cal P w K mg base 2 "are_integers" (spAreInts K) := by
  refine cal_of D sc_are_integers (fun _ _ _ _ _ _ us hl => match us, hl with | [_, _], _ => rfl) (fun vs H Q E h => ?_) (fun f cdv A outer s H vs Q E hr h => ?_)
  · obtain ⟨a, ns, rfl, _⟩ := h
    rfl
  · obtain ⟨a, ns, rfl, hz, hT, q⟩ := h
    have nd := sc_are_integers.nd
    refine ⟨_, (pss_one (ps_ret (pe_and (pe_callB call_isi (by rfl) M.isinstance (by decide +kernel) (pa_cons (pv 0) (pa_cons (pe_bltn (v := .ty "tuple") (by rfl) M.tuple (by decide +kernel) rfl) pa_nil))) (pe_and (pe_cmpR op_eq (pe_callB call_len_seq (by rfl) M.len (by decide +kernel) (pa_cons (pv 0) pa_nil)) (pv 1) (nomark _)) (pe_one (pe_callB (cr_all rfl) (by rfl) M.all (by decide +kernel) (pa_cons (pe_lc (own := [("number", 2)]) (g := gName 2) rfl nd (pi_tup (pv 0)) (blkOk_by (own := [("number", 2)]) (N := ["value", "many", "number"]) (sc := defScope (topS 22)) (by decide +kernel)) (fun _ _ _ _ _ => (pg_name (i := 2) nd rfl (by first | exact Or.inl rfl | exact Or.inr rfl))) (fun _ _ _ _ _ => pts_nil) (fun _ _ _ _ _ => (pe_c c_is_integer hr (by decide) (by rfl) (pa_cons (pv 2) pa_nil)))) pa_nil))))))), ?_⟩
    walk_at "rd"
    refine ⟨_, _, _, _, true, rfl, .ty "tuple", ty_tup hT, kit_ty (by decide +kernel), ?_⟩
    walk_at "rd"
    refine ⟨_, _, rfl, .inr hT, ?_⟩
    walk_at "rd"
    rw [dI, decide_eq_true (by rw [List.length_map])]
    walk_at "rd"
    refine ⟨⟨_, hT⟩, fun D hD => ?_⟩
    refine lc_data (n := (ns.map V.int).length) RB stb_RB (List.replicate (ns.map V.int).length true) (fun _ => true) (walk_tup (xs := ns.map V.int)) (by rw [List.length_replicate]) (by rw [List.length_map]; exact hz) hD (fun H' s => s.tup hT) (fun i b x H' H'' N1 N0 hb sm hy hn1 hn0 => ?_) (fun H' ws sm hD' he => ?_)
    · obtain ⟨rfl, hx⟩ := hy
      rw [List.getElem?_map] at hx
      obtain ⟨n, hn, rfl⟩ := Option.map_eq_some_iff.mp hx
      walk_at "rd"
      have eb : b = true := List.eq_of_mem_replicate (List.mem_of_getElem? hb)
      subst eb
      exact hn1 rfl _ _ (Same.refl _) rfl
    · have ew := els_bools he
      rw [List.filter_eq_self.mpr (fun _ _ => rfl)] at ew
      subst ew
      refine ⟨_, _, rfl, sql hD', ?_⟩
      rw [all_true]
      exact q _ sm
end
end K79
/-! Inverses, met rests; the checker's small helpers. -/
namespace K79
open PySem PySem.Spec PyProof.Rows L2
local macro_rules | `(tactic| walk_at "rd1") => `(tactic| first | refine ⟨_, rfl, ?_⟩ | refine ⟨_, _, rfl, rfl, ?_⟩ | refine ⟨_, _, rfl, ?_⟩ | refine ⟨rfl, ?_⟩)
local macro_rules | `(tactic| walk_at "rd") => `(tactic| repeat walk_at "rd1")
/-! ### the mathematics of inverse -/
structure InvI (number base one other first second : Int) : Prop where
  p1 : 0 < one
  p2 : 0 ≤ other
  l1 : one ≤ base
  l2 : other ≤ base
  d1 : base ∣ one - first * number
  d2 : base ∣ other - second * number
  g : Int.gcd one other = 1
  b : (first ≤ 0 ∧ 0 ≤ second ∧ one * second - other * first = base) ∨ (0 ≤ first ∧ second ≤ 0 ∧ other * first - one * second = base)
theorem InvI.start {number base : Int} (hb : 0 < base) (hg : Int.gcd number base = 1) : InvI number base base (number % base) 0 1 := by
  have e1 := Int.emod_nonneg number (by omega : base ≠ 0)
  have e2 := Int.emod_lt_of_pos number hb
  refine ⟨hb, e1, Int.le_refl _, by omega, ⟨1, by rw [Int.zero_mul]; omega⟩, ?_, ?_, .inl ⟨by omega, by omega, ?_⟩⟩
  · refine ⟨-(number / base), ?_⟩
    have := Int.mul_ediv_add_emod number base
    rw [Int.mul_neg, Int.one_mul]
    omega
  · rw [Int.emod_def, Int.gcd_sub_mul_left_right, Int.gcd_comm]
    exact hg
  · rw [Int.mul_one, Int.mul_zero]
    omega
theorem InvI.step {number base one other first second : Int} (h : InvI number base one other first second) (ho : 0 < other) : InvI number base other (one - one / other * other) second (first - one / other * second) ∧ (one - one / other * other).toNat < other.toNat := by
  have em : one - one / other * other = one % other := by
    rw [Int.emod_def, Int.mul_comm]
  have e1 := Int.emod_nonneg one (by omega : other ≠ 0)
  have e2 := Int.emod_lt_of_pos one ho
  have ht : 0 ≤ one / other := Int.ediv_nonneg (by have := h.p1; omega) (by omega)
  refine ⟨⟨ho, by omega, h.l2, by have := h.l2; omega, h.d2, ?_, ?_, ?_⟩, by omega⟩
  · have e : one - one / other * other - (first - one / other * second) * number = (one - first * number) - one / other * (other - second * number) := by
      rw [Int.sub_mul, Int.mul_sub, Int.mul_assoc]
      omega
    rw [e]
    exact Int.dvd_sub h.d1 (Int.dvd_trans h.d2 (Int.dvd_mul_left _ _))
  · rw [em, Int.emod_def, Int.gcd_sub_mul_left_right, Int.gcd_comm]
    exact h.g
  · have key : one * second - other * first = other * -(first - one / other * second) + (one - one / other * other) * second := by
      have e1 : other * -(first - one / other * second) = -(other * first) + one / other * other * second := by
        rw [Int.neg_sub, Int.mul_sub, ← Int.mul_assoc, Int.mul_comm other (one / other)]
        omega
      rw [e1, Int.sub_mul]
      omega
    have key2 : other * -(first - one / other * second) = -(other * (first - one / other * second)) := Int.mul_neg _ _
    rcases h.b with ⟨b1, b2, b3⟩ | ⟨b1, b2, b3⟩
    · have : 0 ≤ one / other * second := Int.mul_nonneg ht b2
      exact .inr ⟨b2, by omega, by omega⟩
    · have : one / other * second ≤ 0 := Int.mul_nonpos_of_nonneg_of_nonpos ht b2
      exact .inl ⟨b2, by omega, by omega⟩
theorem InvI.second_le {number base one other first second : Int} (h : InvI number base one other first second) : second.natAbs ≤ base.natAbs := by
  have p1 := h.p1
  have p2 := h.p2
  rcases h.b with ⟨b1, b2, b3⟩ | ⟨b1, b2, b3⟩
  · have h1 : 0 ≤ other * -first := Int.mul_nonneg p2 (by omega)
    rw [Int.mul_neg] at h1
    have h2 : second ≤ one * second := by
      have := Int.mul_le_mul_of_nonneg_right (show (1 : Int) ≤ one by omega) b2
      omega
    omega
  · have h1 : 0 ≤ other * first := Int.mul_nonneg p2 b1
    have h2 : -second ≤ one * -second := by
      have := Int.mul_le_mul_of_nonneg_right (show (1 : Int) ≤ one by omega) (show 0 ≤ -second by omega)
      omega
    rw [Int.mul_neg] at h2
    omega
theorem InvI.fin {number base one first second : Int} (h : InvI number base one 0 first second) : base ∣ number * (first % base) - 1 := by
  have e1 : one = 1 := by
    have h1 := h.g
    rw [Int.gcd_zero_right] at h1
    have := h.p1
    omega
  have h1 := h.d1
  rw [e1] at h1
  have h2 : base ∣ first - first % base := ⟨first / base, by have := Int.mul_ediv_add_emod first base; omega⟩
  have e : number * (first % base) - 1 = -((1 - first * number) + number * (first - first % base)) := by
    rw [Int.mul_sub, Int.mul_comm first number]
    omega
  rw [e]
  exact (Int.dvd_neg).mpr (Int.dvd_add h1 (Int.dvd_trans h2 (Int.dvd_mul_left _ _)))
/-! ### the mathematics of met -/
theorem met_ok {r1 q1 r2 q2 inv : Int} (h1 : 0 < q1) (h2 : 0 < q2) (hd : (Int.gcd q1 q2 : Int) ∣ r2 - r1) (hi : q2 / (Int.gcd q1 q2 : Int) ∣ q1 / (Int.gcd q1 q2 : Int) * inv - 1) :
    q1 ∣ (r1 + q1 * ((r2 - r1) / (Int.gcd q1 q2 : Int) * inv % (q2 / (Int.gcd q1 q2 : Int)))) % (Int.lcm q1 q2 : Int) - r1 ∧ q2 ∣ (r1 + q1 * ((r2 - r1) / (Int.gcd q1 q2 : Int) * inv % (q2 / (Int.gcd q1 q2 : Int)))) % (Int.lcm q1 q2 : Int) - r2 := by
  have hg : (0 : Int) < (Int.gcd q1 q2 : Int) := by
    have := Int.gcd_pos_of_ne_zero_left q2 (show q1 ≠ 0 by omega)
    omega
  generalize eg : (Int.gcd q1 q2 : Int) = g at *
  have dg1 : g ∣ q1 := by rw [← eg]; exact Int.gcd_dvd_left _ _
  have dg2 : g ∣ q2 := by rw [← eg]; exact Int.gcd_dvd_right _ _
  obtain ⟨a, ea⟩ := dg1
  obtain ⟨b, eb⟩ := dg2
  obtain ⟨e, ee⟩ := hd
  have gz : g ≠ 0 := by omega
  have fa : q1 / g = a := by rw [ea]; exact Int.mul_ediv_cancel_left a gz
  have fb : q2 / g = b := by rw [eb]; exact Int.mul_ediv_cancel_left b gz
  have fe : (r2 - r1) / g = e := by rw [ee]; exact Int.mul_ediv_cancel_left e gz
  rw [fa, fb] at hi
  rw [fb, fe]
  generalize hs : e * inv % b = s
  generalize hL : (Int.lcm q1 q2 : Int) = L
  have d1 : q1 ∣ L := by rw [← hL]; exact Int.dvd_lcm_left _ _
  have d2 : q2 ∣ L := by rw [← hL]; exact Int.dvd_lcm_right _ _
  have hm : L ∣ (r1 + q1 * s) - (r1 + q1 * s) % L := ⟨(r1 + q1 * s) / L, by have := Int.mul_ediv_add_emod (r1 + q1 * s) L; omega⟩
  have hsb : b ∣ e * inv - s := by
    rw [← hs]
    exact ⟨e * inv / b, by have := Int.mul_ediv_add_emod (e * inv) b; omega⟩
  constructor
  · have e0 : (r1 + q1 * s) % L - r1 = q1 * s - ((r1 + q1 * s) - (r1 + q1 * s) % L) := by omega
    rw [e0]
    exact Int.dvd_sub (Int.dvd_mul_right _ _) (Int.dvd_trans d1 hm)
  · have e0 : (r1 + q1 * s) % L - r2 = (q1 * s - (r2 - r1)) - ((r1 + q1 * s) - (r1 + q1 * s) % L) := by omega
    rw [e0]
    refine Int.dvd_sub ?_ (Int.dvd_trans d2 hm)
    rw [ee, ea, eb]
    have e3 : g * a * s - g * e = g * (e * (a * inv - 1) - a * (e * inv - s)) := by
      rw [Int.mul_assoc, ← Int.mul_sub]
      congr 1
      have k1 : e * (a * inv - 1) = a * (e * inv) - e := by
        rw [Int.mul_sub, Int.mul_one, ← Int.mul_assoc, Int.mul_comm e a, Int.mul_assoc]
      rw [k1, Int.mul_sub]
      omega
    rw [e3]
    exact Int.mul_dvd_mul_left g (Int.dvd_sub (Int.dvd_trans hi (Int.dvd_mul_left _ _)) (Int.dvd_trans hsb (Int.dvd_mul_left _ _)))
section
variable {P : Program} {w : World} {K : PySem.W.Frag} {mg : Str → Option Value} {base : Heap}
def spInverse : Sp := fun vs H Q _ => ∃ a b : Int, vs = [.int a, .int b] ∧ 0 < b ∧ Sm b ∧ Int.gcd a b = 1 ∧ ∀ H' z, Same H H' → 0 ≤ z → z < b → b ∣ a * z - 1 → Q (.int z) H'
theorem sc_inverse : FnScope ["number", "base", "one", "other", "first", "second", "times"] ["number", "base"] (defScope (topS 17)) := ⟨rfl, rfl, rfl, by decide +kernel, rfl, by decide +kernel, by decide +kernel⟩
theorem c_inverse (D : Df K mg "inverse" (topS 17)) (M : Md mg) : Cal P w K mg base 1 "inverse" spInverse := by
  refine cal_of D sc_inverse (fun _ _ _ _ _ _ us hl => match us, hl with | [_, _], _ => rfl) (fun vs H Q E h => ?_) (fun f cdv A outer s H vs Q E hr h => ?_)
  · obtain ⟨a, b, rfl, _⟩ := h
    rfl
  · obtain ⟨a, b, rfl, hb, sb, hg, q⟩ := h
    have nd := sc_inverse.nd
    refine ⟨_, (pss_cons (ps_asg (pe_tup (pa_cons (pv 1) (pa_cons (pe_op op_mod (pv 0) (pv 1)) (pa_cons pe_int (pa_cons pe_int pa_nil))))) (pg_tup rfl (pgs_cons (pg_name (i := 2) nd rfl (by first | exact Or.inl rfl | exact Or.inr rfl)) (pgs_cons (pg_name (i := 3) nd rfl (by first | exact Or.inl rfl | exact Or.inr rfl)) (pgs_cons (pg_name (i := 4) nd rfl (by first | exact Or.inl rfl | exact Or.inr rfl)) (pgs_cons (pg_name (i := 5) nd rfl (by first | exact Or.inl rfl | exact Or.inr rfl)) pgs_nil)))))) (pss_cons (ps_while PassesOwn.never (pt_cmpR op_gt (pv 3) pe_int (nomark _)) (pss_cons (ps_set (i := 6) nd rfl (Or.inl rfl) (pe_op op_fdivW (pv 2) (pv 3))) (pss_cons (ps_par (i := 2) (j := 3) rfl nd rfl rfl (by decide) rfl rfl (pa_cons (pv 3) (pa_cons (pe_op op_sub (pv 2) (pe_op op_mulW (pv 6) (pv 3))) pa_nil)) (by rfl)) (pss_one (ps_par (i := 4) (j := 5) rfl nd rfl rfl (by decide) rfl rfl (pa_cons (pv 5) (pa_cons (pe_op op_sub (pv 4) (pe_op op_mulW (pv 6) (pv 5))) pa_nil)) (by rfl)))))) (pss_one (ps_ret (pe_op op_mod (pv 4) (pv 1)))))), ?_⟩
    walk_at "rd"
    refine ⟨hb, ?_⟩
    walk_at "rd"
    refine ⟨(show 4 ≤ sizeLine by decide), fun p hp => ?_⟩
    refine ⟨p, _, rfl, sqt_new, rfl, ?_⟩
    walk_at "rd"
    refine ⟨fun m σ H' => Same H H' ∧ ∃ (one other first second : Int) (t : Option V), σ = [some (.int a), some (.int b), some (.int one), some (.int other), some (.int first), some (.int second), t] ∧ InvI a b one other first second ∧ m = other.toNat, ⟨_, same_upd hp, _, _, _, _, _, rfl, InvI.start hb hg, rfl⟩, fun m σ H' hW => ?_⟩
    obtain ⟨sm, one, other, first, second, t, rfl, hI, rfl⟩ := hW
    walk_at "rd"
    refine ite2 (fun e => ?_) (fun e => ?_)
    · have ho : 0 < other := of_decide_eq_true e
      have hst := hI.step ho
      refine ⟨fun σ' H'' => Same H H'' ∧ ∃ (one' other' first' second' : Int) (t : Option V), σ' = [some (.int a), some (.int b), some (.int one'), some (.int other'), some (.int first'), some (.int second'), t] ∧ InvI a b one' other' first' second' ∧ other'.toNat < other.toNat, fun σ' H'' hn => ?_, ?_⟩
      · obtain ⟨s1, x1, x2, x3, x4, x5, rfl, h1, h2⟩ := hn
        exact ⟨_, h2, s1, x1, x2, x3, x4, x5, rfl, h1, rfl⟩
      · have l1 := hI.l1
        have l2 := hI.l2
        have p1 := hI.p1
        have so : Sm other := sm_of (j := b) (by omega) sb
        have st : Sm (one / other) := by
          refine sm_of (j := b) ?_ sb
          have h1 : 0 ≤ one / other := Int.ediv_nonneg (by omega) (by omega)
          have h2 : one / other ≤ one := Int.ediv_le_self _ (by omega)
          omega
        walk_at "rd"
        refine ⟨sm_div ho so, ?_⟩
        walk_at "rd"
        refine ⟨sm_mul st so, ?_⟩
        walk_at "rd"
        refine ⟨sm_mul st (sm_of hI.second_le sb), ?_⟩
        walk_at "rd"
        exact ⟨sm, _, _, _, _, _, rfl, hst.1, hst.2⟩
    · have ho : other = 0 := by
        have h1 : ¬ 0 < other := fun z => e (decide_eq_true z)
        have := hI.p2
        omega
      subst ho
      walk_at "rd"
      refine ⟨hb, ?_⟩
      exact q _ _ sm (Int.emod_nonneg _ (by omega)) (Int.emod_lt_of_pos _ hb) hI.fin
def spMet (K : PySem.W.Frag) : Sp := fun vs H Q _ => ∃ (x y : Addr) (r1 q1 r2 q2 : Int), vs = [.ref x, .ref y] ∧ SqT K H x [.int r1, .int q1] ∧ SqT K H y [.int r2, .int q2] ∧ 0 ≤ q1 ∧ 0 ≤ q2 ∧ q1.natAbs < 2 ^ 400 ∧ q2.natAbs < 2 ^ 400 ∧ r1.natAbs < 2 ^ 400 ∧ r2.natAbs < 2 ^ 400 ∧
  (Int.gcd q1 q2 : Int) ∣ r2 - r1 ∧ ∀ H' p r, Same H H' → SqT K H' p [.int r, .int (Int.lcm q1 q2 : Int)] → q1 ∣ r - r1 → q2 ∣ r - r2 → (r.natAbs ≤ r1.natAbs ∨ r.natAbs ≤ r2.natAbs ∨ r.natAbs < Int.lcm q1 q2) → Q (.ref p) H'
theorem sm400 {i : Int} (h : i.natAbs < 2 ^ 400) : Sm i := Nat.lt_trans h (by decide)
theorem sc_met : FnScope ["one", "other", "first", "base", "second", "mate", "shared", "steps"] ["one", "other"] (defScope (topS 18)) := ⟨rfl, rfl, rfl, by decide +kernel, rfl, by decide +kernel, by decide +kernel⟩
theorem c_met (D : Df K mg "met" (topS 18)) (M : Md mg) (c_gcd : Cal P w K mg base 1 "gcd" spGcd) (c_lcm : Cal P w K mg base 2 "lcm" spLcm) (c_inverse : Cal P w K mg base 1 "inverse" spInverse) : Cal P w K mg base 3 "met" (spMet K) := by
  refine cal_of D sc_met (fun _ _ _ _ _ _ us hl => match us, hl with | [_, _], _ => rfl) (fun vs H Q E h => ?_) (fun f cdv A outer s H vs Q E hr h => ?_)
  · obtain ⟨a, b, _, _, _, _, rfl, _⟩ := h
    rfl
  · obtain ⟨x, y, r1, q1, r2, q2, rfl, hx, hy, p1, p2, b1, b2, c1, c2, hd, q⟩ := h
    have nd := sc_met.nd
    refine ⟨_, (pss_cons (ps_asg (pe_tup (pa_cons (pv 0) (pa_cons (pv 1) pa_nil))) (pg_tup rfl (pgs_cons (pg_tup rfl (pgs_cons (pg_name (i := 2) nd rfl (by first | exact Or.inl rfl | exact Or.inr rfl)) (pgs_cons (pg_name (i := 3) nd rfl (by first | exact Or.inl rfl | exact Or.inr rfl)) pgs_nil))) (pgs_cons (pg_tup rfl (pgs_cons (pg_name (i := 4) nd rfl (by first | exact Or.inl rfl | exact Or.inr rfl)) (pgs_cons (pg_name (i := 5) nd rfl (by first | exact Or.inl rfl | exact Or.inr rfl)) pgs_nil))) pgs_nil)))) (pss_cons (ps_if (pw_or (pt_cmpR op_eq (pv 3) pe_int (nomark _)) (pw_or1 (pt_cmpR op_eq (pv 5) pe_int (nomark _)))).pt (pss_one (ps_ret (pe_ifExp (pt_cmpR op_eq (pv 3) pe_int (nomark _)) (pv 0) (pv 1)))) pss_nil) (pss_cons (ps_set (i := 6) nd rfl (Or.inl rfl) (pe_c c_gcd hr (by decide) (by rfl) (pa_cons (pv 3) (pa_cons (pv 5) pa_nil)))) (pss_cons (ps_set (i := 7) nd rfl (Or.inl rfl) (pe_op op_mod (pe_op op_mulW (pe_op op_fdivW (pe_op op_sub (pv 4) (pv 2)) (pv 6)) (pe_c c_inverse hr (by decide) (by rfl) (pa_cons (pe_op op_fdivW (pv 3) (pv 6)) (pa_cons (pe_op op_fdivW (pv 5) (pv 6)) pa_nil)))) (pe_op op_fdivW (pv 5) (pv 6)))) (pss_one (ps_ret (pe_tup (pa_cons (pe_op op_mod (pe_op op_add (pv 2) (pe_op op_mulW (pv 3) (pv 7))) (pe_c c_lcm hr (by decide) (by rfl) (pa_cons (pv 3) (pa_cons (pv 5) pa_nil)))) (pa_cons (pe_c c_lcm hr (by decide) (by rfl) (pa_cons (pv 3) (pa_cons (pv 5) pa_nil))) pa_nil))))))))), ?_⟩
    walk_at "rd"
    refine ⟨(show 2 ≤ sizeLine by decide), fun p hp => ?_⟩
    have s1 : Same H (upd H p (.tup [.ref x, .ref y])) := same_upd hp
    refine ⟨p, _, rfl, sqt_new, rfl, ?_⟩
    walk_at "rd"
    refine ⟨x, _, rfl, s1.tup hx, rfl, ?_⟩
    walk_at "rd"
    refine ⟨y, _, rfl, s1.tup hy, rfl, ?_⟩
    walk_at "rd"
    have hx1 := s1.tup hx
    have hy1 := s1.tup hy
    have z1 : q1 = 0 → Q (.ref x) (upd H p (.tup [.ref x, .ref y])) := fun e => by
      subst e
      rw [Int.gcd_zero_left] at hd
      refine q _ x r1 s1 ?_ ⟨0, by omega⟩ ?_ (.inl (Nat.le_refl _))
      · rw [Int.lcm_zero_left]
        exact hx1
      · have e2 : (q2.natAbs : Int) = q2 := by omega
        rw [e2] at hd
        rw [show r1 - r2 = -(r2 - r1) by omega]
        exact (Int.dvd_neg).mpr hd
    have z2 : q2 = 0 → Q (.ref y) (upd H p (.tup [.ref x, .ref y])) := fun e => by
      subst e
      rw [Int.gcd_zero_right] at hd
      refine q _ y r2 s1 ?_ ?_ ⟨0, by omega⟩ (.inr (.inl (Nat.le_refl _)))
      · rw [Int.lcm_zero_right]
        exact hy1
      · have e2 : (q1.natAbs : Int) = q1 := by omega
        rw [e2] at hd
        exact hd
    refine ite2 (fun e => ?_) (fun e => ?_)
    · refine iteT ?_
      walk_at "rd"
      refine ite2 (fun e' => ?_) (fun e' => absurd e e')
      walk_at "rd"
      exact z1 (yesI e)
    · have n1 := noI e
      walk_at "rd"
      refine ite2 (fun e' => ?_) (fun e' => ?_)
      · walk_at "rd"
        refine ite2 (fun e'' => absurd e'' e) (fun _ => ?_)
        walk_at "rd"
        exact z2 (yesI e')
      · have n2 := noI e'
        have hg : 0 < Int.gcd q1 q2 := Int.gcd_pos_of_ne_zero_left q2 n1
        have g1 : Int.gcd q1 q2 ≤ q1.natAbs := Int.gcd_le_natAbs_left q2 n1
        have g2 : Int.gcd q1 q2 ≤ q2.natAbs := Int.gcd_le_natAbs_right q1 n2
        have sg : Sm (Int.gcd q1 q2 : Int) := sm400 (Nat.lt_of_le_of_lt (by omega) b1)
        have hgi : (0 : Int) < (Int.gcd q1 q2 : Int) := by omega
        have hmate : 0 < q2 / (Int.gcd q1 q2 : Int) := Int.ediv_pos_of_pos_of_dvd (by omega) (by omega) (Int.gcd_dvd_right _ _)
        have lmate : q2 / (Int.gcd q1 q2 : Int) ≤ q2 := Int.ediv_le_self _ p2
        have smate : Sm (q2 / (Int.gcd q1 q2 : Int)) := sm400 (Nat.lt_of_le_of_lt (by omega) b2)
        walk_at "rd"
        refine ⟨sm_div hgi sg, ?_⟩
        walk_at "rd"
        refine ⟨sm_div hgi sg, ?_⟩
        walk_at "rd"
        refine ⟨sm_div hgi sg, ?_⟩
        walk_at "rd"
        refine ⟨hmate, smate, Int.gcd_ediv_gcd_ediv_gcd hg, fun H2 z s2 z0 z3 hz => ?_⟩
        walk_at "rd"
        have sz : Sm z := sm_of (j := q2) (by omega) (sm400 b2)
        have sdd : Sm ((r2 - r1) / (Int.gcd q1 q2 : Int)) := by
          have h1 : ((r2 - r1) / (Int.gcd q1 q2 : Int)).natAbs ≤ (r2 - r1).natAbs := by
            obtain ⟨k, hk⟩ := hd
            rw [hk, Int.mul_ediv_cancel_left k (by omega), Int.natAbs_mul]
            exact Nat.le_mul_of_pos_left _ (by omega)
          have h2 : (r2 - r1).natAbs < 2 ^ 400 + 2 ^ 400 := by omega
          exact Nat.lt_of_le_of_lt h1 (Nat.lt_trans h2 (by decide))
        refine ⟨sm_mul sdd sz, ?_⟩
        walk_at "rd"
        refine ⟨sm_div hgi sg, ?_⟩
        walk_at "rd"
        refine ⟨hmate, ?_⟩
        walk_at "rd"
        have ss : Sm ((r2 - r1) / (Int.gcd q1 q2 : Int) * z % (q2 / (Int.gcd q1 q2 : Int))) := by
          have h1 := Int.emod_nonneg ((r2 - r1) / (Int.gcd q1 q2 : Int) * z) (show q2 / (Int.gcd q1 q2 : Int) ≠ 0 by omega)
          have h2 := Int.emod_lt_of_pos ((r2 - r1) / (Int.gcd q1 q2 : Int) * z) hmate
          exact sm_of (j := q2) (by omega) (sm400 b2)
        refine ⟨sm_mul (sm400 b1) ss, ?_⟩
        walk_at "rd"
        refine ⟨sm400 b1, sm400 b2, ?_⟩
        walk_at "rd"
        have hl : 0 < Int.lcm q1 q2 := Int.lcm_pos n1 n2
        refine ⟨by omega, ?_⟩
        walk_at "rd"
        refine ⟨sm400 b1, sm400 b2, ?_⟩
        refine ⟨(show 2 ≤ sizeLine by decide), fun p' hp' => ?_⟩
        have s3 := same_upd (o := .tup [.int ((r1 + q1 * ((r2 - r1) / (Int.gcd q1 q2 : Int) * z % (q2 / (Int.gcd q1 q2 : Int)))) % (Int.lcm q1 q2 : Int)), .int (Int.lcm q1 q2 : Int)]) hp'
        have mk := met_ok (r1 := r1) (q1 := q1) (r2 := r2) (q2 := q2) (inv := z) (by omega) (by omega) hd hz
        refine q _ p' _ ((s1.trans s2).trans s3) sqt_new mk.1 mk.2 (.inr (.inr ?_))
        have h1 := Int.emod_nonneg (r1 + q1 * ((r2 - r1) / (Int.gcd q1 q2 : Int) * z % (q2 / (Int.gcd q1 q2 : Int)))) (show (Int.lcm q1 q2 : Int) ≠ 0 by omega)
        have h2 := Int.emod_lt_of_pos (r1 + q1 * ((r2 - r1) / (Int.gcd q1 q2 : Int) * z % (q2 / (Int.gcd q1 q2 : Int)))) (show (0 : Int) < (Int.lcm q1 q2 : Int) by omega)
        omega
end
end K79
/-! Steps of tables: checks, all_steps, steps. -/
namespace K79
open PySem PySem.Spec PyProof.Rows L2
local macro_rules | `(tactic| walk_at "rd1") => `(tactic| first | refine ⟨_, rfl, ?_⟩ | refine ⟨_, _, rfl, rfl, ?_⟩ | refine ⟨_, _, rfl, ?_⟩ | refine ⟨rfl, ?_⟩)
local macro_rules | `(tactic| walk_at "rd") => `(tactic| repeat walk_at "rd1")
/-! ### data for == -/
abbrev iD (ns : List Int) : List PyData := ns.map PyData.int
abbrev pD (ps : List (Int × Int)) : List PyData := ps.map fun p => PyData.tuple [.int p.1, .int p.2]
theorem eqvAll_nil (xs : List PyData) : PyData.eqvAll xs [] = xs.isEmpty := by cases xs <;> simp [PyData.eqvAll]
theorem canLay_ints : ∀ ns : List Int, PyData.canLayAll0 (iD ns) = true
  | [] => by simp [PyData.canLayAll0]
  | n :: ns => by
    have := canLay_ints ns
    simp [PyData.canLayAll0, PyData.canLay0] at this ⊢
    exact this
theorem depth_ints' : ∀ ns : List Int, PyData.depthAll (iD ns) = 0
  | [] => by simp [PyData.depthAll]
  | n :: ns => by
    have := depth_ints' ns
    simp [PyData.depthAll, PyData.depth] at this ⊢
    exact this
theorem canLay_pairs : ∀ ns : List (Int × Int), PyData.canLayAll0 (pD ns) = true
  | [] => by simp [PyData.canLayAll0]
  | n :: ns => by
    have := canLay_pairs ns
    simp [PyData.canLayAll0, PyData.canLay0] at this ⊢
    exact this
theorem depth_pairs : ∀ ns : List (Int × Int), PyData.depthAll (pD ns) ≤ 1
  | [] => by simp [PyData.depthAll]
  | n :: ns => by
    have := depth_pairs ns
    simp [PyData.depthAll, PyData.depth] at this ⊢
    exact Nat.max_le.mpr ⟨Nat.le_refl _, this⟩
theorem shaped_lst (ns : List Int) : SeqAt.shaped (.list (iD ns)) = true := by
  unfold SeqAt.shaped
  rw [Bool.and_eq_true]
  refine ⟨?_, decide_eq_true ?_⟩
  · have := canLay_ints ns
    simpa [PyData.canLay0] using this
  · have := depth_ints' ns
    simp only [PyData.depth]
    omega
theorem shaped_tup (ns : List Int) : SeqAt.shaped (.tuple (iD ns)) = true := by
  unfold SeqAt.shaped
  rw [Bool.and_eq_true]
  refine ⟨?_, decide_eq_true ?_⟩
  · have := canLay_ints ns
    simpa [PyData.canLay0] using this
  · have := depth_ints' ns
    simp only [PyData.depth]
    omega
theorem shaped_plst (ns : List (Int × Int)) : SeqAt.shaped (.list (pD ns)) = true := by
  unfold SeqAt.shaped
  rw [Bool.and_eq_true]
  refine ⟨?_, decide_eq_true ?_⟩
  · have := canLay_pairs ns
    simpa [PyData.canLay0] using this
  · have := depth_pairs ns
    simp only [PyData.depth]
    omega
theorem shaped_ptup (ns : List (Int × Int)) : SeqAt.shaped (.tuple (pD ns)) = true := by
  unfold SeqAt.shaped
  rw [Bool.and_eq_true]
  refine ⟨?_, decide_eq_true ?_⟩
  · have := canLay_pairs ns
    simpa [PyData.canLay0] using this
  · have := depth_pairs ns
    simp only [PyData.depth]
    omega
theorem dpa_ints {K : PySem.W.Frag} {H : Hp} : ∀ ns : List Int, DpAll K H (ns.map V.int) (iD ns)
  | [] => .nil
  | n :: ns => .cons (.int n) (dpa_ints ns)
theorem dpa_pairs {K : PySem.W.Frag} {H : Hp} : ∀ {vs : List V} {ps : List (Int × Int)}, Els (RP K) H vs ps → DpAll K H vs (pD ps)
  | [], [], _ => .nil
  | [], _ :: _, h => by
    have := h.1
    simp at this
  | _ :: _, [], h => by
    have := h.1
    simp at this
  | v :: vs, p :: ps, h => by
    obtain ⟨q, rfl, hq⟩ := h.2 0 v p rfl rfl
    refine .cons (.tup hq (dpa_ints [p.1, p.2])) (dpa_pairs (vs := vs) (ps := ps) ⟨by have := h.1; simpa using this, fun i w x a b => h.2 (i + 1) w x (by simpa using a) (by simpa using b)⟩)
theorem pair_eqv (a b c d : Int) : PyData.eqv (.tuple (iD [a, b])) (.tuple (iD [c, d])) = (decide (a = c) && decide (b = d)) := by
  simp [PyData.eqv, PyData.eqvAll]
  rfl
theorem isE_map {α β : Type} (f : α → β) (l : List α) : (l.map f).isEmpty = l.isEmpty := by cases l <;> rfl
/-! ### the mathematics of steps -/
def diffs : List Int → List Int
  | x :: y :: r => (y - x) :: diffs (y :: r)
  | _ => []
theorem diffs_len : ∀ l : List Int, (diffs l).length = l.length - 1
  | [] => rfl
  | [_] => rfl
  | x :: y :: r => by
    have := diffs_len (y :: r)
    simp only [diffs, List.length_cons] at *
    omega
theorem diffs_at : ∀ (l : List Int) (i : Nat) (x y : Int), l[i]? = some x → l[i + 1]? = some y → (diffs l)[i]? = some (y - x)
  | [], _, _, _, h, _ => by simp at h
  | [_], 0, _, _, _, h => by simp at h
  | [_], i + 1, _, _, h, _ => by simp at h
  | a :: b :: r, 0, x, y, h, h2 => by
    have e1 : a = x := by simpa using h
    have e2 : b = y := by simpa using h2
    rw [← e1, ← e2]
    rfl
  | a :: b :: r, i + 1, x, y, h, h2 => by
    have := diffs_at (b :: r) i x y (by simpa using h) (by simpa using h2)
    simpa [diffs] using this
def stepsN : Nat → List Int → List Int
  | 0, _ => []
  | _ + 1, [] => []
  | n + 1, x :: r => x :: stepsN n (diffs (x :: r))
def stepsL (l : List Int) : List Int := stepsN l.length l
theorem stepsN_len : ∀ (n : Nat) (l : List Int), l.length = n → (stepsN n l).length = n
  | 0, _, _ => rfl
  | n + 1, [], h => by simp at h
  | n + 1, x :: r, h => by
    have := stepsN_len n (diffs (x :: r)) (by rw [diffs_len, h]; rfl)
    simp only [stepsN, List.length_cons]
    omega
theorem stepsL_len (l : List Int) : (stepsL l).length = l.length := stepsN_len _ l rfl
theorem cut_from1 (xs : List V) : cutV xs (some 1) none = xs.drop 1 := by
  unfold cutV
  rw [show HT.sIx xs.length 0 (some 1) = min 1 xs.length from HT.sIx_nat xs.length 0 1, HT.sIx_none]
  cases xs with
  | nil => rfl
  | cons x r =>
    rw [show min 1 (x :: r).length = 1 by
      rw [List.length_cons]
      omega]
    show (List.take ((x :: r).length - 1) r) = r
    rw [List.length_cons, Nat.add_sub_cancel]
    exact List.take_length
theorem map_at {ns : List Int} {i : Nat} {v : V} (h : (ns.map V.int)[i]? = some v) : ∃ n, ns[i]? = some n ∧ v = .int n := by
  rw [List.getElem?_map] at h
  obtain ⟨n, hn, rfl⟩ := Option.map_eq_some_iff.mp h
  exact ⟨n, hn, rfl⟩
section
variable {P : Program} {w : World} {K : PySem.W.Frag} {mg : Str → Option Value} {base : Heap}
/-! ### check_values -/
def spChkVals (K : PySem.W.Frag) : Sp := fun vs H Q _ => ∃ (a : Addr) (ns : List Int), vs = [.ref a] ∧ SqT K H a (ns.map V.int) ∧ ns ≠ [] ∧ ns.length ≤ 40 ∧ ∀ H', Same H H' → Q .non H'
theorem sc_check_values : FnScope ["values", "at", "value"] ["values"] (defScope (topS 25)) := ⟨rfl, rfl, rfl, by decide +kernel, rfl, by decide +kernel, by decide +kernel⟩
theorem c_check_values (D : Df K mg "check_values" (topS 25)) (M : Md mg) (c_is_integer : Cal P w K mg base 1 "is_integer" spIsInt) : Cal P w K mg base 2 "check_values" (spChkVals K) := by
  refine cal_of D sc_check_values (fun _ _ _ _ _ _ us hl => match us, hl with | [_], _ => rfl) (fun vs H Q E h => ?_) (fun f cdv A outer s H vs Q E hr h => ?_)
  · obtain ⟨a, _, rfl, _⟩ := h
    rfl
  · obtain ⟨a, ns, rfl, hT, hne, hlen, q⟩ := h
    have nd := sc_check_values.nd
    refine ⟨_, (pss_cons (ps_if (pw_or (pt_not (pt_val (pe_callB call_isi (by rfl) M.isinstance (by decide +kernel) (pa_cons (pv 0) (pa_cons (pe_bltn (v := .ty "tuple") (by rfl) M.tuple (by decide +kernel) rfl) pa_nil))))) (pw_or1 (pt_cmpR (op_eqD hr.units) (pv 0) (pe_tup pa_nil) (nomark _)))).pt (pss_one ps_never) pss_nil) (pss_one (ps_for PassesOwn.never rfl (pi_enumT (by rfl) M.enumerate (pa_cons (pv 0) pa_nil)) (pg_tup rfl (pgs_cons (pg_name (i := 1) nd rfl (by first | exact Or.inl rfl | exact Or.inr rfl)) (pgs_cons (pg_name (i := 2) nd rfl (by first | exact Or.inl rfl | exact Or.inr rfl)) pgs_nil))) (pss_one (ps_if (pw_or (pt_cmpR op_eq (pv 1) (pe_gc (by rfl) M.MOST_PLACES) (nomark _)) (pw_or1 (pt_not (pt_val (pe_c c_is_integer hr (by decide) (by rfl) (pa_cons (pv 2) pa_nil)))))).pt (pss_one ps_never) pss_nil))))), ?_⟩
    walk_at "rd"
    refine ⟨_, _, _, _, true, rfl, .ty "tuple", ty_tup hT, kit_ty (by decide +kernel), ?_⟩
    walk_at "rd"
    refine ⟨(show 0 ≤ sizeLine by decide), fun p hp => ?_⟩
    have s1 : Same H (upd H p (.tup [])) := same_upd hp
    refine ⟨.tuple (iD ns), .tuple (iD []), .tup (s1.tup hT) (dpa_ints ns), .tup sqt_new .nil, shaped_tup ns, shaped_tup [], ?_⟩
    have e0 : PyData.eqv (.tuple (iD ns)) (.tuple (iD [])) = false := by
      show PyData.eqvAll (iD ns) [] = false
      rw [eqvAll_nil, isE_map]
      cases ns with
      | nil => exact absurd rfl hne
      | cons _ _ => rfl
    rw [e0]
    walk_at "rd"
    refine ⟨_, _, rfl, s1.tup hT, ?_⟩
    refine for_it (walk_enumT (xs := ns.map V.int)) (fun i σ H' => Same H H' ∧ ∃ x y : Option V, σ = [some (.ref a), x, y]) ⟨s1, _, _, rfl⟩ (fun i σ H' _ h => h.1.tup hT) (fun i x σ H' H'' hi hP hy => ?_) (fun σ H' hP => q _ hP.1)
    obtain ⟨sm, x1, x2, rfl⟩ := hP
    obtain ⟨T, u, v, rfl, hT1, rfl, hu, hv⟩ := hy
    obtain ⟨n, hn, rfl⟩ := map_at hv
    have eu : u = .int (i : Nat) := (Option.some.inj hu).symm
    subst eu
    refine ⟨T, _, rfl, sqt_new, rfl, ?_⟩
    walk_at "rd"
    refine ite2 (fun e => ?_) (fun e => ?_)
    · have := yesI e
      rw [List.length_map] at hi
      omega
    · walk_at "rd"
      exact ⟨sm.trans (same_upd hT1), _, _, rfl⟩
/-! ### all_steps -/
def spAllSteps (K : PySem.W.Frag) : Sp := fun vs H Q _ => ∃ (a : Addr) (ns : List Int), vs = [.ref a] ∧ SqT K H a (ns.map V.int) ∧ ns.length ≤ 40 ∧ ∀ H' p, Same H H' → H p = none → H' p = some (.lst ((stepsL ns).map V.int)) → Q (.ref p) H'
theorem sz1000 {n : Nat} (h : n ≤ 1000) : n < sizeLine := small1000 h
theorem sc_all_steps : FnScope ["values", "found", "row", "before", "after"] ["values"] (defScope (topS 26)) := ⟨rfl, rfl, rfl, by decide +kernel, rfl, by decide +kernel, by decide +kernel⟩
theorem c_all_steps (D : Df K mg "all_steps" (topS 26)) (M : Md mg) : Cal P w K mg base 1 "all_steps" (spAllSteps K) := by
  refine cal_of D sc_all_steps (fun _ _ _ _ _ _ us hl => match us, hl with | [_], _ => rfl) (fun vs H Q E h => ?_) (fun f cdv A outer s H vs Q E hr h => ?_)
  · obtain ⟨a, _, rfl, _⟩ := h
    rfl
  · obtain ⟨a, ns, rfl, hT, hlen, q⟩ := h
    have nd := sc_all_steps.nd
    refine ⟨_, (pss_cons (ps_par (i := 1) (j := 2) rfl nd rfl rfl (by decide) rfl rfl (pa_cons (pe_lst pa_nil) (pa_cons (pe_callTy call_list_of (by rfl) M.list (by decide +kernel) (pa_cons (pv 0) pa_nil)) pa_nil)) (by rfl)) (pss_cons (ps_while PassesOwn.never (pt_cmpR (op_neD hr.units) (pv 2) (pe_lst pa_nil) (nomark _)) (pss_cons (ps_expr (pe_bm PySem.F.plainAttrs_list PySem.F.slot_list_append PySem.F.type_list_append mt_append (pv 1) (pa_cons (pe_ix (kix_list (K := K) rfl) (pv 2) pe_int (fun _ _ => rfl)) pa_nil))) (pss_one (ps_setLc (i := 2) (own := [("before", 3), ("after", 4)]) (g := gTup K 2 (gCons (gName 3) (gCons (gName 4) gNil))) rfl nd rfl rfl (sw_true rfl rfl rfl (by decide +kernel)) (pi_zip (by rfl) M.zip (pa_cons (pv 2) (pa_cons (pe_slice sl_list (pv 2) (po_some pe_int) po_none) pa_nil))) (blkOk_by (own := [("before", 3), ("after", 4)]) (N := ["values", "found", "row", "before", "after"]) (sc := defScope (topS 26)) (by decide +kernel)) (fun _ _ _ _ _ => (pg_tup rfl (pgs_cons (pg_name (i := 3) nd rfl (by first | exact Or.inl rfl | exact Or.inr rfl)) (pgs_cons (pg_name (i := 4) nd rfl (by first | exact Or.inl rfl | exact Or.inr rfl)) pgs_nil)))) (fun _ _ _ _ _ => pts_nil) (fun _ _ _ _ _ => (pe_op op_sub (pv 4) (pv 3))))))) (pss_one (ps_ret (pv 1))))), ?_⟩
    walk_at "rd"
    refine ⟨Nat.zero_le _, fun o ho => ?_⟩
    walk_at "rd"
    have s1 : Same H (upd H o (.lst [])) := same_upd ho
    refine ⟨_, _, rfl, .inr (s1.tup hT), fun r hr' => ?_⟩
    walk_at "rd"
    have hro : o ≠ r := ne_of_none upd_same hr'
    refine ⟨fun m σ H' => Same H H' ∧ ∃ (done row : List Int) (rr : Addr) (z1 z2 : Option V), σ = [some (.ref a), some (.ref o), some (.ref rr), z1, z2] ∧ H' o = some (.lst (done.map V.int)) ∧ H' rr = some (.lst (row.map V.int)) ∧ o ≠ rr ∧ done ++ stepsN row.length row = stepsL ns ∧ done.length + row.length = ns.length ∧ m = row.length,
      ⟨ns.length, s1.trans (same_upd hr'), [], ns, r, _, _, rfl, ?_, upd_same, hro, rfl, by simp, rfl⟩, fun m σ H' hW => ?_⟩
    · rw [upd_ne hro]
      exact upd_same
    obtain ⟨sm, done, row, rr, x1, x2, rfl, h1, h2, hne, hst, hl, rfl⟩ := hW
    walk_at "rd"
    refine ⟨Nat.zero_le _, fun e he => ?_⟩
    have s2 : Same H' (upd H' e (.lst [])) := same_upd he
    refine ⟨.list (iD row), .list (iD []), .lst (sql (s2 _ _ h2)) (dpa_ints row), .lst sql_new .nil, shaped_lst row, shaped_lst [], ?_⟩
    have e0 : PyData.eqv (.list (iD row)) (.list (iD [])) = row.isEmpty := by
      show PyData.eqvAll (iD row) [] = _
      rw [eqvAll_nil, isE_map]
    rw [e0]
    cases row with
    | nil =>
      walk_at "rd"
      simp only [stepsN, List.length_nil, List.append_nil] at hst
      subst hst
      exact q _ o (sm.trans s2) ho (s2 _ _ h1)
    | cons x r =>
      walk_at "rd"
      refine ⟨fun σ' H'' => Same H H'' ∧ ∃ (done' row' : List Int) (rr : Addr) (z1 z2 : Option V), σ' = [some (.ref a), some (.ref o), some (.ref rr), z1, z2] ∧ H'' o = some (.lst (done'.map V.int)) ∧ H'' rr = some (.lst (row'.map V.int)) ∧ o ≠ rr ∧ done' ++ stepsN row'.length row' = stepsL ns ∧ done'.length + row'.length = ns.length ∧ row'.length < (x :: r).length, fun σ' H'' hn => ?_, ?_⟩
      · obtain ⟨t1, t2, t3, t4, t5, t6, rfl, u1, u2, u3, u4, u5, u6⟩ := hn
        exact ⟨_, u6, t1, t2, t3, t4, t5, t6, rfl, u1, u2, u3, u4, u5, rfl⟩
      · walk_at "rd"
        refine ⟨.inl ⟨rfl, _, sql (s2 _ _ h1)⟩, ?_⟩
        walk_at "rd"
        refine ⟨_, _, _, _, rfl, rfl, sql (s2 _ _ h2), atI_nat (j := 0) rfl, ?_⟩
        refine ⟨_, _, _, rfl, rfl, s2 _ _ h1, sz1000 (by rw [List.length_map]; omega), ?_⟩
        walk_at "rd"
        have s3 : Same H (upd (upd H' e (.lst [])) o (.lst (done.map V.int ++ [.int x]))) := Same.mut (sm.trans s2) ho
        have h2' : upd (upd H' e (.lst [])) o (.lst (done.map V.int ++ [.int x])) rr = some (.lst ((x :: r).map V.int)) := by
          rw [upd_ne (Ne.symm hne)]
          exact s2 _ _ h2
        refine ⟨_, _, rfl, sql h2', fun c hc => ?_⟩
        have s4 := same_upd (o := .lst (cutV ((x :: r).map V.int) (some 1) none)) hc
        refine ⟨rr, c, _, _, rfl, sql (s4 _ _ h2'), sql upd_same, fun D hD => ?_⟩
        have ed : (diffs (x :: r)).length = min ((x :: r).map V.int).length (cutV ((x :: r).map V.int) (some 1) none).length := by
          rw [diffs_len, cut_from1, List.length_drop, List.length_map]
          omega
        refine lc_data RI stb_RI (diffs (x :: r)) (fun _ => true) (walk_zip ed.symm.symm) rfl ?_ hD (fun H5 s5 => ⟨s5.seq (sql (s4 _ _ h2')), s5.seq (sql upd_same)⟩) (fun i b v H5 H6 N1 N0 hb s5 hy hn1 hn0 => ?_) (fun H5 ws s5 hD5 he5 => ?_)
        · refine sz1000 ?_
          rw [diffs_len]
          simp only [List.length_cons] at hl ⊢
          omega
        · obtain ⟨T, v1, v2, rfl, hT1, rfl, g1, g2⟩ := hy
          obtain ⟨n1, hn1', rfl⟩ := map_at g1
          rw [cut_from1, ← List.map_drop] at g2
          obtain ⟨n2, hn2', rfl⟩ := map_at g2
          rw [List.getElem?_drop, Nat.add_comm 1 i] at hn2'
          have hbb := diffs_at _ _ _ _ hn1' hn2'
          have eb : b = n2 - n1 := Option.some.inj (hb.symm.trans hbb)
          subst eb
          refine ⟨T, _, rfl, sqt_new, rfl, ?_⟩
          walk_at "rd"
          exact hn1 rfl _ _ (same_upd hT1) rfl
        · have ew := els_ints he5
          rw [List.filter_eq_self.mpr (fun _ _ => rfl)] at ew
          subst ew
          have hoD : o ≠ D := ne_of_none (s4 _ _ upd_same) hD
          refine ⟨(s3.trans s4).trans s5, done ++ [x], diffs (x :: r), D, _, _, rfl, ?_, hD5, hoD, ?_, ?_, ?_⟩
          · have := s5 _ _ (s4 _ _ (upd_same (H := upd H' e (.lst [])) (a := o) (o := .lst (done.map V.int ++ [.int x]))))
            rw [List.map_append]
            exact this
          · rw [← hst, List.append_assoc]
            congr 1
            show x :: stepsN (diffs (x :: r)).length (diffs (x :: r)) = stepsN (r.length + 1) (x :: r)
            rw [diffs_len]
            rfl
          · rw [diffs_len]
            simp only [List.length_append, List.length_cons, List.length_nil] at hl ⊢
            omega
          · rw [diffs_len]
            simp
/-! ### steps -/
def spSteps (K : PySem.W.Frag) : Sp := fun vs H Q _ => ∃ (a : Addr) (ns : List Int), vs = [.ref a] ∧ SqT K H a (ns.map V.int) ∧ ns ≠ [] ∧ ns.length ≤ 40 ∧ ∀ H' p, Same H H' → SqT K H' p ((stepsL ns).map V.int) → Q (.ref p) H'
theorem sc_steps : FnScope ["values"] ["values"] (defScope (topS 27)) := ⟨rfl, rfl, rfl, by decide +kernel, rfl, by decide +kernel, by decide +kernel⟩
theorem c_steps (D : Df K mg "steps" (topS 27)) (M : Md mg) (c_check_values : Cal P w K mg base 2 "check_values" (spChkVals K)) (c_all_steps : Cal P w K mg base 1 "all_steps" (spAllSteps K)) : Cal P w K mg base 3 "steps" (spSteps K) := by
  refine cal_of D sc_steps (fun _ _ _ _ _ _ us hl => match us, hl with | [_], _ => rfl) (fun vs H Q E h => ?_) (fun f cdv A outer s H vs Q E hr h => ?_)
  · obtain ⟨a, _, rfl, _⟩ := h
    rfl
  · obtain ⟨a, ns, rfl, hT, hne, hlen, q⟩ := h
    have nd := sc_steps.nd
    refine ⟨_, (pss_cons (ps_expr (pe_c c_check_values hr (by decide) (by rfl) (pa_cons (pv 0) pa_nil))) (pss_one (ps_ret (pe_callTy call_tuple_of (by rfl) M.tuple (by decide +kernel) (pa_cons (pe_c c_all_steps hr (by decide) (by rfl) (pa_cons (pv 0) pa_nil)) pa_nil))))), ?_⟩
    walk_at "rd"
    refine ⟨_, _, rfl, hT, hne, hlen, fun H1 s1 => ?_⟩
    walk_at "rd"
    refine ⟨_, _, rfl, s1.tup hT, hlen, fun H2 p s2 hp hp2 => ?_⟩
    refine ⟨_, _, rfl, .inl ⟨sql hp2, fun l hl => ?_⟩⟩
    exact q _ l ((s1.trans s2).trans (same_upd hl)) sqt_new
end
end K79
/-! The mathematics of tables: binomials, Newton's formula, kept and whole tables. -/
namespace K79
/-- the number of lots of k things out of n -/
def C : Nat → Nat → Nat
  | _, 0 => 1
  | 0, _ + 1 => 0
  | n + 1, k + 1 => C n k + C n (k + 1)
theorem C_zero (n : Nat) : C n 0 = 1 := by cases n <;> rfl
theorem C_lt : ∀ (n k : Nat), n < k → C n k = 0
  | _, 0, h => absurd h (Nat.not_lt_zero _)
  | 0, k + 1, _ => rfl
  | n + 1, k + 1, h => by
    show C n k + C n (k + 1) = 0
    rw [C_lt n k (by omega), C_lt n (k + 1) (by omega)]
theorem C_self : ∀ n : Nat, C n n = 1
  | 0 => rfl
  | n + 1 => by
    show C n n + C n (n + 1) = 1
    rw [C_self n, C_lt n (n + 1) (by omega)]
theorem C_succ (n k : Nat) : C (n + 1) (k + 1) = C n k + C n (k + 1) := rfl
/-- (k + 1) * C(n + 1, k + 1) = (n + 1) * C(n, k) -/
theorem C_abs : ∀ n k : Nat, (k + 1) * C (n + 1) (k + 1) = (n + 1) * C n k
  | 0, 0 => rfl
  | 0, k + 1 => by
    rw [C_succ, C_lt 0 (k + 1) (by omega), C_lt 0 (k + 1 + 1) (by omega)]
    simp
  | n + 1, 0 => by
    have h := C_abs n 0
    rw [C_succ, C_zero]
    rw [C_zero] at h
    omega
  | n + 1, k + 1 => by
    have h1 := C_abs n k
    have h2 := C_abs n (k + 1)
    have e1 : C (n + 1 + 1) (k + 1 + 1) = C (n + 1) (k + 1) + C (n + 1) (k + 1 + 1) := rfl
    have e2 : C (n + 1) (k + 1) = C n k + C n (k + 1) := rfl
    rw [e1, Nat.mul_add, h2]
    have e3 : (k + 1 + 1) * C (n + 1) (k + 1) = (k + 1) * C (n + 1) (k + 1) + C (n + 1) (k + 1) := by rw [Nat.add_mul, Nat.one_mul]
    rw [e3, h1]
    have e4 : (n + 1 + 1) * C (n + 1) (k + 1) = (n + 1) * C (n + 1) (k + 1) + C (n + 1) (k + 1) := by rw [Nat.add_mul, Nat.one_mul]
    rw [e4]
    have e5 : (n + 1) * C (n + 1) (k + 1) = (n + 1) * C n k + (n + 1) * C n (k + 1) := by rw [e2, Nat.mul_add]
    omega
theorem C_mulI : ∀ n k : Nat, (C n (k + 1) : Int) * ((k : Int) + 1) = (C n k : Int) * ((n : Int) - (k : Int))
  | n, k => by
    by_cases h : n < k
    · rw [C_lt n k h, C_lt n (k + 1) (by omega)]
      simp
    · cases n with
      | zero =>
        have : k = 0 := by omega
        subst this
        simp [C]
      | succ n =>
        have h1 := C_abs n k
        have h2 : C (n + 1) (k + 1) = C n k + C n (k + 1) := rfl
        cases k with
        | zero =>
          rw [C_zero] at h1 h2 ⊢
          have h3 : C (n + 1) (0 + 1) = n + 1 := by omega
          rw [h3]
          simp
        | succ k =>
          have h4 := C_abs n (k + 1)
          have h5 := C_abs n k
          have h6 : C (n + 1) (k + 1 + 1) = C n (k + 1) + C n (k + 1 + 1) := rfl
          have h7 : C (n + 1) (k + 1) = C n k + C n (k + 1) := rfl
          -- (k+2) C(n+1,k+2) = (n+1) C(n,k+1) and (k+1) C(n+1,k+1) = (n+1) C(n,k)
          have g1 : ((k : Int) + 1 + 1) * (C (n + 1) (k + 1 + 1) : Int) = ((n : Int) + 1) * (C n (k + 1) : Int) := by exact_mod_cast h4
          have g2 : ((k : Int) + 1) * (C (n + 1) (k + 1) : Int) = ((n : Int) + 1) * (C n k : Int) := by exact_mod_cast h5
          have g3 : (C (n + 1) (k + 1) : Int) = (C n k : Int) + (C n (k + 1) : Int) := by exact_mod_cast h7
          have p1 : ((n : Int) + 1) * (C n (k + 1) : Int) = ((n : Int) + 1) * (C (n + 1) (k + 1) : Int) - ((n : Int) + 1) * (C n k : Int) := by
            rw [g3, Int.mul_add]
            omega
          push_cast
          rw [Int.mul_comm, g1, p1, ← g2, ← Int.sub_mul, Int.mul_comm]
/-- the step of the running binomial -/
theorem C_step (n k : Nat) : (C n k : Int) * ((n : Int) - (k : Int)) / ((k : Int) + 1) = (C n (k + 1) : Int) := by
  rw [← C_mulI n k]
  exact Int.mul_ediv_cancel _ (by omega)
theorem C_le : ∀ (n k b : Nat), n < 2 ^ b → C n k ≤ 2 ^ (b * k)
  | n, 0, b, _ => by rw [C_zero]; exact Nat.one_le_two_pow
  | 0, k + 1, b, _ => Nat.zero_le _
  | n + 1, k + 1, b, h => by
    have h1 := C_abs n k
    have h2 := C_le n k b (by omega)
    have h3 : C (n + 1) (k + 1) ≤ (n + 1) * C n k := by
      rw [← h1]
      exact Nat.le_mul_of_pos_left _ (by omega)
    have h4 : (n + 1) * C n k ≤ 2 ^ b * 2 ^ (b * k) := Nat.mul_le_mul (by omega) h2
    have e : 2 ^ b * 2 ^ (b * k) = 2 ^ (b * (k + 1)) := by
      rw [← Nat.pow_add]
      congr 1
      rw [Nat.mul_add]
      omega
    omega
/-- the least common multiple of 1 .. k -/
def L : Nat → Nat
  | 0 => 1
  | k + 1 => Nat.lcm (L k) (k + 1)
def fact : Nat → Nat
  | 0 => 1
  | k + 1 => fact k * (k + 1)
theorem L_pos : ∀ k, 0 < L k
  | 0 => by decide
  | k + 1 => Nat.lcm_pos (L_pos k) (by omega)
theorem fact_pos : ∀ k, 0 < fact k
  | 0 => by decide
  | k + 1 => Nat.mul_pos (fact_pos k) (by omega)
theorem L_dvd_succ (k : Nat) : L k ∣ L (k + 1) := Nat.dvd_lcm_left _ _
theorem dvd_L : ∀ (k d : Nat), 1 ≤ d → d ≤ k → d ∣ L k
  | 0, d, h1, h2 => by omega
  | k + 1, d, h1, h2 => by
    by_cases h : d = k + 1
    · rw [h]
      exact Nat.dvd_lcm_right _ _
    · exact Nat.dvd_trans (dvd_L k d h1 (by omega)) (L_dvd_succ k)
theorem L_dvd : ∀ (k : Nat) (c : Int), (∀ d : Nat, 1 ≤ d → d ≤ k → (d : Int) ∣ c) → (L k : Int) ∣ c
  | 0, c, _ => by
    show ((1 : Nat) : Int) ∣ c
    exact Int.one_dvd c
  | k + 1, c, h => by
    have h1 := L_dvd k c (fun d a b => h d a (by omega))
    have h2 := h (k + 1) (by omega) (by omega)
    have h3 := Int.coe_lcm_dvd h1 h2
    rw [Int.lcm_natCast_natCast] at h3
    exact h3
theorem L_dvd_fact : ∀ k, L k ∣ fact k
  | 0 => Nat.dvd_refl _
  | k + 1 => Nat.lcm_dvd (Nat.dvd_trans (L_dvd_fact k) (Nat.dvd_mul_right _ _)) (Nat.dvd_mul_left _ _)
/-- d divides L k * (C(y + d, k) - C(y, k)) -/
theorem C_agree (d : Nat) : ∀ (y k : Nat), (d : Int) ∣ (L k : Int) * ((C (y + d) k : Int) - (C y k : Int))
  | y, 0 => by
    rw [C_zero, C_zero]
    simp
  | 0, k + 1 => by
    have e : C 0 (k + 1) = 0 := rfl
    rw [e, Nat.zero_add]
    cases d with
    | zero =>
      have e2 : C 0 (k + 1) = 0 := rfl
      rw [e2]
      simp
    | succ d =>
      have h1 : (((k + 1 : Nat) : Int)) * (C (d + 1) (k + 1) : Int) = ((d + 1 : Nat) : Int) * (C d k : Int) := by exact_mod_cast C_abs d k
      obtain ⟨m, hm⟩ := dvd_L (k + 1) (k + 1) (by omega) (Nat.le_refl _)
      rw [hm]
      refine ⟨(m : Int) * (C d k : Int), ?_⟩
      have e3 : (((k + 1) * m : Nat) : Int) = ((k + 1 : Nat) : Int) * (m : Int) := by exact_mod_cast rfl
      rw [e3, Int.mul_sub, Int.mul_comm (((k + 1 : Nat) : Int)) (m : Int), Int.mul_assoc, h1]
      simp only [Int.natCast_zero, Int.mul_zero, Int.sub_zero]
      rw [← Int.mul_assoc, Int.mul_comm (m : Int), Int.mul_assoc]
  | y + 1, k + 1 => by
    have h1 := C_agree d y k
    have h2 := C_agree d y (k + 1)
    have e1 : C (y + 1 + d) (k + 1) = C (y + d) k + C (y + d) (k + 1) := by
      rw [show y + 1 + d = (y + d) + 1 by omega]
      rfl
    have e2 : C (y + 1) (k + 1) = C y k + C y (k + 1) := rfl
    have e : (L (k + 1) : Int) * ((C (y + 1 + d) (k + 1) : Int) - (C (y + 1) (k + 1) : Int)) = (L (k + 1) : Int) * ((C (y + d) k : Int) - (C y k : Int)) + (L (k + 1) : Int) * ((C (y + d) (k + 1) : Int) - (C y (k + 1) : Int)) := by
      rw [e1, e2, ← Int.mul_add]
      congr 1
      push_cast
      omega
    rw [e]
    refine Int.dvd_add ?_ h2
    obtain ⟨m, hm⟩ := L_dvd_succ k
    rw [hm]
    push_cast
    rw [Int.mul_comm (L k : Int) (m : Int), Int.mul_assoc]
    exact Int.dvd_trans h1 (Int.dvd_mul_left _ _)
/-- the value that steps make, from the k-th on -/
def valF : Nat → List Int → Nat → Int
  | _, [], _ => 0
  | k, c :: cs, x => c * (C x k : Int) + valF (k + 1) cs x
theorem valF_append : ∀ (cs ds : List Int) (k x : Nat), valF k (cs ++ ds) x = valF k cs x + valF (k + cs.length) ds x
  | [], ds, k, x => by simp [valF]
  | c :: cs, ds, k, x => by
    show c * (C x k : Int) + valF (k + 1) (cs ++ ds) x = c * (C x k : Int) + valF (k + 1) cs x + _
    rw [valF_append cs ds (k + 1) x, List.length_cons, show k + 1 + cs.length = k + (cs.length + 1) by omega]
    omega
theorem valF_zero : ∀ (cs : List Int) (k x : Nat), x < k → valF k cs x = 0
  | [], _, _, _ => rfl
  | c :: cs, k, x, h => by
    show c * (C x k : Int) + valF (k + 1) cs x = 0
    rw [C_lt x k h, valF_zero cs (k + 1) x (by omega)]
    simp
/-- pascal -/
theorem valF_succ : ∀ (cs : List Int) (k x : Nat), valF (k + 1) cs (x + 1) = valF (k + 1) cs x + valF k cs x
  | [], _, _ => rfl
  | c :: cs, k, x => by
    show c * (C (x + 1) (k + 1) : Int) + valF (k + 1 + 1) cs (x + 1) = c * (C x (k + 1) : Int) + valF (k + 1 + 1) cs x + (c * (C x k : Int) + valF (k + 1) cs x)
    rw [valF_succ cs (k + 1) x, C_succ]
    push_cast
    rw [Int.mul_add]
    omega
theorem valF_agree : ∀ (cs : List Int) (k : Nat), (∀ i c, cs[i]? = some c → (L (k + i) : Int) ∣ c) → ∀ (y d : Nat), (d : Int) ∣ valF k cs (y + d) - valF k cs y
  | [], _, _, _, _ => by simp [valF]
  | c :: cs, k, h, y, d => by
    have h0 : (L k : Int) ∣ c := h 0 c rfl
    have ih := valF_agree cs (k + 1) (fun i e he => by rw [show k + 1 + i = k + (i + 1) by omega]; exact h (i + 1) e (by simpa using he)) y d
    have e : valF k (c :: cs) (y + d) - valF k (c :: cs) y = c * ((C (y + d) k : Int) - (C y k : Int)) + (valF (k + 1) cs (y + d) - valF (k + 1) cs y) := by
      show c * (C (y + d) k : Int) + valF (k + 1) cs (y + d) - (c * (C y k : Int) + valF (k + 1) cs y) = _
      rw [Int.mul_sub]
      omega
    rw [e]
    refine Int.dvd_add ?_ ih
    obtain ⟨m, rfl⟩ := h0
    rw [Int.mul_comm (L k : Int) m, Int.mul_assoc]
    exact Int.dvd_trans (C_agree d y k) (Int.dvd_mul_left _ _)
/-! ### Newton's formula -/
theorem stepsN_nil : ∀ n, stepsN n [] = []
  | 0 => rfl
  | _ + 1 => rfl
theorem newton : ∀ (x : Nat) (l : List Int) (v : Int), l[x]? = some v → valF 0 (stepsL l) x = v
  | 0, [], v, h => by simp at h
  | 0, a :: r, v, h => by
    have e : a = v := by simpa using h
    subst e
    show a * (C 0 0 : Int) + valF 1 (stepsN r.length (diffs (a :: r))) 0 = a
    rw [valF_zero _ 1 0 (by omega), C_zero]
    simp
  | x + 1, [], v, h => by simp at h
  | x + 1, [a], v, h => by simp at h
  | x + 1, a :: b :: r, v, h => by
    have hx : x < (a :: b :: r).length := by
      have := (List.getElem?_eq_some_iff.mp h).1
      omega
    obtain ⟨u, hu⟩ : ∃ u, (a :: b :: r)[x]? = some u := ⟨_, List.getElem?_eq_getElem hx⟩
    have h1 := newton x (a :: b :: r) u hu
    have h2 := newton x (diffs (a :: b :: r)) (v - u) (diffs_at _ _ _ _ hu h)
    have e0 : stepsL (a :: b :: r) = a :: stepsL (diffs (a :: b :: r)) := by
      show a :: stepsN (b :: r).length (diffs (a :: b :: r)) = a :: stepsN (diffs (a :: b :: r)).length (diffs (a :: b :: r))
      rw [diffs_len]
      rfl
    rw [e0] at h1 ⊢
    have e1 : valF 0 (a :: stepsL (diffs (a :: b :: r))) (x + 1) = a * (C (x + 1) 0 : Int) + valF 1 (stepsL (diffs (a :: b :: r))) (x + 1) := rfl
    have e2 : valF 0 (a :: stepsL (diffs (a :: b :: r))) x = a * (C x 0 : Int) + valF 1 (stepsL (diffs (a :: b :: r))) x := rfl
    have e3 : valF 1 (stepsL (diffs (a :: b :: r))) (x + 1) = valF 1 (stepsL (diffs (a :: b :: r))) x + valF 0 (stepsL (diffs (a :: b :: r))) x := valF_succ _ 0 x
    rw [e1, e3, C_zero, h2]
    rw [e2, C_zero] at h1
    omega
/-- kept, whole steps; agreeing tables -/
def KeptS (cs : List Int) : Prop := ∀ (i : Nat) (c : Int), cs[i]? = some c → (L i : Int) ∣ c
def WholeS (cs : List Int) : Prop := ∀ (i : Nat) (c : Int), cs[i]? = some c → (fact i : Int) ∣ c
def Agrees (ns : List Int) : Prop := ∀ (i j : Nat) (u v : Int), i < j → ns[i]? = some u → ns[j]? = some v → ((j : Int) - (i : Int)) ∣ u - v
theorem whole_kept {cs : List Int} (h : WholeS cs) : KeptS cs := fun i c hc => Int.dvd_trans (by exact_mod_cast L_dvd_fact i) (h i c hc)
theorem kept_agree {cs : List Int} (h : KeptS cs) (x y : Nat) : ((y : Int) - (x : Int)) ∣ valF 0 cs y - valF 0 cs x := by
  have h0 : ∀ (y d : Nat), (d : Int) ∣ valF 0 cs (y + d) - valF 0 cs y := valF_agree cs 0 (fun i c hc => by rw [Nat.zero_add]; exact h i c hc)
  by_cases hxy : x ≤ y
  · have := h0 x (y - x)
    rw [show x + (y - x) = y by omega, show ((y - x : Nat) : Int) = (y : Int) - (x : Int) by omega] at this
    exact this
  · have := h0 y (x - y)
    rw [show y + (x - y) = x by omega, show ((x - y : Nat) : Int) = (x : Int) - (y : Int) by omega] at this
    rw [show (y : Int) - (x : Int) = -((x : Int) - (y : Int)) by omega, show valF 0 cs y - valF 0 cs x = -(valF 0 cs x - valF 0 cs y) by omega]
    exact Int.neg_dvd.mpr ((Int.dvd_neg).mpr this)
theorem agrees_of_kept {ns : List Int} (h : KeptS (stepsL ns)) : Agrees ns := fun i j u v hij hu hv => by
  have h1 := newton i ns u hu
  have h2 := newton j ns v hv
  have h3 := kept_agree h j i
  rw [h1, h2] at h3
  rw [show (j : Int) - (i : Int) = -((i : Int) - (j : Int)) by omega]
  exact Int.neg_dvd.mpr h3
theorem kept_of_agrees {ns : List Int} (h : Agrees ns) : KeptS (stepsL ns) := by
  intro i
  induction i using Nat.strongRecOn with
  | _ i ih =>
    intro c hc
    have hi : i < (stepsL ns).length := (List.getElem?_eq_some_iff.mp hc).1
    have hn : i < ns.length := by
      rw [stepsL_len] at hi
      exact hi
    have hk : KeptS ((stepsL ns).take i) := fun j e he => by
      by_cases hj : j < i
      · rw [List.getElem?_take, if_pos hj] at he
        exact ih j hj e he
      · rw [List.getElem?_take, if_neg hj] at he
        cases he
    have hsplit : stepsL ns = (stepsL ns).take i ++ c :: (stepsL ns).drop (i + 1) := by
      have e1 : (stepsL ns).drop i = c :: (stepsL ns).drop (i + 1) := by
        rw [List.drop_eq_getElem_cons hi]
        congr 1
        have := List.getElem?_eq_getElem hi
        rw [hc] at this
        exact (Option.some.inj this).symm
      rw [← e1, List.take_append_drop]
    have hlen : ((stepsL ns).take i).length = i := by
      rw [List.length_take]
      omega
    have val : ∀ x, x ≤ i → valF 0 (stepsL ns) x = valF 0 ((stepsL ns).take i) x + c * (C x i : Int) := fun x hx => by
      rw [hsplit, valF_append, ← hsplit, hlen, Nat.zero_add]
      show _ + (c * (C x i : Int) + valF (i + 1) _ x) = _
      rw [valF_zero _ (i + 1) x (by omega)]
      omega
    refine L_dvd i c (fun d d1 d2 => ?_)
    obtain ⟨v, hv⟩ : ∃ v, ns[i]? = some v := ⟨_, List.getElem?_eq_getElem hn⟩
    obtain ⟨u, hu⟩ : ∃ u, ns[i - d]? = some u := ⟨_, List.getElem?_eq_getElem (by omega)⟩
    have f1 := newton i ns v hv
    have f2 := newton (i - d) ns u hu
    rw [val i (Nat.le_refl _), C_self] at f1
    rw [val (i - d) (by omega), C_lt (i - d) i (by omega)] at f2
    have h1 := h (i - d) i u v (by omega) hu hv
    have h2 := kept_agree hk (i - d) i
    have e : (i : Int) - ((i - d : Nat) : Int) = (d : Int) := by omega
    rw [e] at h1 h2
    have e3 : c = -(u - v) - (valF 0 ((stepsL ns).take i) i - valF 0 ((stepsL ns).take i) (i - d)) := by
      simp at f1 f2
      omega
    rw [e3]
    exact Int.dvd_sub ((Int.dvd_neg).mpr h1) h2
end K79
/-! Kept and whole steps, sorts of tables, loose pairs, values from steps. -/
namespace K79
open PySem PySem.Spec PyProof.Rows L2
local macro_rules | `(tactic| walk_at "rd1") => `(tactic| first | refine ⟨_, rfl, ?_⟩ | refine ⟨_, _, rfl, rfl, ?_⟩ | refine ⟨_, _, rfl, ?_⟩ | refine ⟨rfl, ?_⟩)
local macro_rules | `(tactic| walk_at "rd") => `(tactic| repeat walk_at "rd1")
theorem yesN {a b : Int} (e : (!decide (V.int a = V.int b)) = true) : a ≠ b := fun z => by
  subst z
  simp at e
theorem noN {a b : Int} (e : ¬ (!decide (V.int a = V.int b)) = true) : a = b := by
  by_cases h : a = b
  · exact h
  · exact absurd (by simp [h]) e
theorem max_if (i : Nat) : (if (1 : Int) > (i : Int) then (1 : Int) else (i : Int)) = ((max i 1 : Nat) : Int) := by
  split <;> omega
theorem L_next (i : Nat) : (Int.lcm (L (i - 1) : Int) ((max i 1 : Nat) : Int) : Int) = (L i : Int) := by
  rw [Int.lcm_natCast_natCast]
  cases i with
  | zero => rfl
  | succ k =>
    rw [show max (k + 1) 1 = k + 1 by omega]
    rfl
theorem fact_next (i : Nat) : (fact (i - 1) : Int) * ((max i 1 : Nat) : Int) = (fact i : Int) := by
  cases i with
  | zero => rfl
  | succ k =>
    rw [show max (k + 1) 1 = k + 1 by omega]
    exact_mod_cast rfl
theorem fact_le : ∀ i, i ≤ 13 → fact i ≤ 6227020800
  | 0, _ => by decide
  | 1, _ => by decide
  | 2, _ => by decide
  | 3, _ => by decide
  | 4, _ => by decide
  | 5, _ => by decide
  | 6, _ => by decide
  | 7, _ => by decide
  | 8, _ => by decide
  | 9, _ => by decide
  | 10, _ => by decide
  | 11, _ => by decide
  | 12, _ => by decide
  | 13, _ => by decide
  | n + 14, h => by omega
theorem L_le (i : Nat) (h : i ≤ 13) : L i ≤ 6227020800 := Nat.le_trans (Nat.le_of_dvd (fact_pos i) (L_dvd_fact i)) (fact_le i h)
theorem sm_nat {n : Nat} (h : n ≤ 6227020800) : Sm (n : Int) := by
  show (n : Int).natAbs < 2 ^ 1000
  rw [Int.natAbs_natCast]
  exact Nat.lt_of_le_of_lt h (by decide)
section
variable {P : Program} {w : World} {K : PySem.W.Frag} {mg : Str → Option Value} {base : Heap}
def spKept (K : PySem.W.Frag) : Sp := fun vs H Q _ => ∃ (a : Addr) (cs : List Int), vs = [.ref a] ∧ SqL K H a (cs.map V.int) ∧ cs.length ≤ 13 ∧ ∀ H' b, Same H H' → (b = true ↔ KeptS cs) → Q (.bl b) H'
theorem sc_are_kept : FnScope ["numbers", "part", "at", "step"] ["numbers"] (defScope (topS 28)) := ⟨rfl, rfl, rfl, by decide +kernel, rfl, by decide +kernel, by decide +kernel⟩
theorem c_are_kept (D : Df K mg "are_kept" (topS 28)) (M : Md mg) (c_lcm : Cal P w K mg base 2 "lcm" spLcm) : Cal P w K mg base 3 "are_kept" (spKept K) := by
  refine cal_of D sc_are_kept (fun _ _ _ _ _ _ us hl => match us, hl with | [_], _ => rfl) (fun vs H Q E h => ?_) (fun f cdv A outer s H vs Q E hr h => ?_)
  · obtain ⟨a, _, rfl, _⟩ := h
    rfl
  · obtain ⟨a, cs, rfl, hT, hlen, q⟩ := h
    have nd := sc_are_kept.nd
    refine ⟨_, (pss_cons (ps_set (i := 1) nd rfl (Or.inl rfl) pe_int) (pss_cons (ps_for PassesOwn.never rfl (pi_enum (by rfl) M.enumerate (pa_cons (pv 0) pa_nil)) (pg_tup rfl (pgs_cons (pg_name (i := 2) nd rfl (by first | exact Or.inl rfl | exact Or.inr rfl)) (pgs_cons (pg_name (i := 3) nd rfl (by first | exact Or.inl rfl | exact Or.inr rfl)) pgs_nil))) (pss_cons (ps_set (i := 1) nd rfl (Or.inl rfl) (pe_c c_lcm hr (by decide) (by rfl) (pa_cons (pv 1) (pa_cons (pe_callB (call_max2 rfl) (by rfl) M.max (by decide +kernel) (pa_cons (pv 2) (pa_cons pe_int pa_nil))) pa_nil)))) (pss_one (ps_if (pt_cmpR op_ne (pe_op op_mod (pv 3) (pv 1)) pe_int (nomark _)) (pss_one (ps_ret pe_bl)) pss_nil)))) (pss_one (ps_ret pe_bl)))), ?_⟩
    walk_at "rd"
    refine ⟨_, _, rfl, hT, ?_⟩
    refine for_it (walk_enum (xs := cs.map V.int)) (fun i σ H' => Same H H' ∧ (∀ (j : Nat) (c : Int), j < i → cs[j]? = some c → (L j : Int) ∣ c) ∧ ∃ t1 t2 : Option V, σ = [some (.ref a), some (.int (L (i - 1) : Int)), t1, t2]) ⟨Same.refl _, fun j c hj => by omega, _, _, rfl⟩ (fun i σ H' _ h => h.1.seq hT) (fun i x σ H' H'' hi hP hy => ?_) (fun σ H' hP => ?_)
    · obtain ⟨sm, hd, x1, x2, rfl⟩ := hP
      obtain ⟨T, u, v, rfl, hT1, rfl, hu, hv⟩ := hy
      obtain ⟨n, hn, rfl⟩ := map_at hv
      have eu : u = .int (i : Nat) := (Option.some.inj hu).symm
      subst eu
      rw [List.length_map] at hi
      refine ⟨T, _, rfl, sqt_new, rfl, ?_⟩
      walk_at "rd"
      rw [max_if]
      refine ⟨sm_nat (L_le _ (by omega)), sm_nat (by omega), ?_⟩
      rw [L_next]
      walk_at "rd"
      have hp : (0 : Int) < (L i : Int) := by exact_mod_cast L_pos i
      refine ⟨hp, ?_⟩
      walk_at "rd"
      have s2 := sm.trans (same_upd (o := .tup [.int (i : Nat), .int n]) hT1)
      refine ite2 (fun e => ?_) (fun e => ?_)
      · walk_at "rd"
        refine q _ false s2 ⟨(fun z => Bool.noConfusion z), fun hk => ?_⟩
        exact absurd (Int.emod_eq_zero_of_dvd (hk i n hn)) (yesN e)
      · walk_at "rd"
        refine ⟨s2, fun j c hj hc => ?_, _, _, rfl⟩
        by_cases hji : j < i
        · exact hd j c hji hc
        · have ej : j = i := by omega
          subst ej
          have ec : n = c := Option.some.inj (hn.symm.trans hc)
          subst ec
          exact Int.dvd_of_emod_eq_zero (noN e)
    · obtain ⟨sm, hd, x1, x2, rfl⟩ := hP
      rw [List.length_map] at hd
      refine q _ true sm ⟨fun _ j c hc => hd j c (List.getElem?_eq_some_iff.mp hc).1 hc, fun _ => rfl⟩
def spWhole (K : PySem.W.Frag) : Sp := fun vs H Q _ => ∃ (a : Addr) (cs : List Int), vs = [.ref a] ∧ SqL K H a (cs.map V.int) ∧ cs.length ≤ 13 ∧ ∀ H' b, Same H H' → (b = true ↔ WholeS cs) → Q (.bl b) H'
theorem sc_are_whole : FnScope ["numbers", "part", "at", "step"] ["numbers"] (defScope (topS 29)) := ⟨rfl, rfl, rfl, by decide +kernel, rfl, by decide +kernel, by decide +kernel⟩
theorem c_are_whole (D : Df K mg "are_whole" (topS 29)) (M : Md mg) : Cal P w K mg base 1 "are_whole" (spWhole K) := by
  refine cal_of D sc_are_whole (fun _ _ _ _ _ _ us hl => match us, hl with | [_], _ => rfl) (fun vs H Q E h => ?_) (fun f cdv A outer s H vs Q E hr h => ?_)
  · obtain ⟨a, _, rfl, _⟩ := h
    rfl
  · obtain ⟨a, cs, rfl, hT, hlen, q⟩ := h
    have nd := sc_are_whole.nd
    refine ⟨_, (pss_cons (ps_set (i := 1) nd rfl (Or.inl rfl) pe_int) (pss_cons (ps_for PassesOwn.never rfl (pi_enum (by rfl) M.enumerate (pa_cons (pv 0) pa_nil)) (pg_tup rfl (pgs_cons (pg_name (i := 2) nd rfl (by first | exact Or.inl rfl | exact Or.inr rfl)) (pgs_cons (pg_name (i := 3) nd rfl (by first | exact Or.inl rfl | exact Or.inr rfl)) pgs_nil))) (pss_cons (ps_set (i := 1) nd rfl (Or.inl rfl) (pe_op op_mulW (pv 1) (pe_callB (call_max2 rfl) (by rfl) M.max (by decide +kernel) (pa_cons (pv 2) (pa_cons pe_int pa_nil))))) (pss_one (ps_if (pt_cmpR op_ne (pe_op op_mod (pv 3) (pv 1)) pe_int (nomark _)) (pss_one (ps_ret pe_bl)) pss_nil)))) (pss_one (ps_ret pe_bl)))), ?_⟩
    walk_at "rd"
    refine ⟨_, _, rfl, hT, ?_⟩
    refine for_it (walk_enum (xs := cs.map V.int)) (fun i σ H' => Same H H' ∧ (∀ (j : Nat) (c : Int), j < i → cs[j]? = some c → (fact j : Int) ∣ c) ∧ ∃ t1 t2 : Option V, σ = [some (.ref a), some (.int (fact (i - 1) : Int)), t1, t2]) ⟨Same.refl _, fun j c hj => by omega, _, _, rfl⟩ (fun i σ H' _ h => h.1.seq hT) (fun i x σ H' H'' hi hP hy => ?_) (fun σ H' hP => ?_)
    · obtain ⟨sm, hd, x1, x2, rfl⟩ := hP
      obtain ⟨T, u, v, rfl, hT1, rfl, hu, hv⟩ := hy
      obtain ⟨n, hn, rfl⟩ := map_at hv
      have eu : u = .int (i : Nat) := (Option.some.inj hu).symm
      subst eu
      rw [List.length_map] at hi
      refine ⟨T, _, rfl, sqt_new, rfl, ?_⟩
      walk_at "rd"
      rw [max_if]
      refine ⟨sm_mul (sm_nat (fact_le _ (by omega))) (sm_nat (by omega)), ?_⟩
      walk_at "rd"
      have hp : (0 : Int) < (fact i : Int) := by exact_mod_cast fact_pos i
      have ef := fact_next i
      refine ⟨show (0 : Int) < (fact (i - 1) : Int) * ((max i 1 : Nat) : Int) by rw [ef]; exact hp, ?_⟩
      walk_at "rd"
      have s2 := sm.trans (same_upd (o := .tup [.int (i : Nat), .int n]) hT1)
      refine ite2 (fun e => ?_) (fun e => ?_)
      · walk_at "rd"
        refine q _ false s2 ⟨(fun z => Bool.noConfusion z), fun hk => ?_⟩
        have e' := yesN e
        rw [ef] at e'
        exact absurd (Int.emod_eq_zero_of_dvd (hk i n hn)) e'
      · walk_at "rd"
        have e' := noN e
        rw [ef] at e'
        refine ⟨s2, fun j c hj hc => ?_, some (.int (i : Nat)), some (.int n), ?_⟩
        · by_cases hji : j < i
          · exact hd j c hji hc
          · have ej : j = i := by omega
            subst ej
            have ec : n = c := Option.some.inj (hn.symm.trans hc)
            subst ec
            exact Int.dvd_of_emod_eq_zero e'
        · rw [Nat.add_sub_cancel, ← ef]
          rfl
    · obtain ⟨sm, hd, x1, x2, rfl⟩ := hP
      rw [List.length_map] at hd
      refine q _ true sm ⟨fun _ j c hc => hd j c (List.getElem?_eq_some_iff.mp hc).1 hc, fun _ => rfl⟩
/-! ### sort_of -/
def spSort (K : PySem.W.Frag) : Sp := fun vs H Q _ => ∃ (a : Addr) (ns : List Int), vs = [.ref a] ∧ SqT K H a (ns.map V.int) ∧ ns ≠ [] ∧ ns.length ≤ 13 ∧ ∀ H', Same H H' → (WholeS (stepsL ns) → Q (.str "whole") H') ∧ (¬ WholeS (stepsL ns) → KeptS (stepsL ns) → Q (.str "kept") H') ∧ (¬ WholeS (stepsL ns) → ¬ KeptS (stepsL ns) → Q (.str "loose") H')
theorem sc_sort_of : FnScope ["values", "numbers"] ["values"] (defScope (topS 30)) := ⟨rfl, rfl, rfl, by decide +kernel, rfl, by decide +kernel, by decide +kernel⟩
theorem c_sort_of (D : Df K mg "sort_of" (topS 30)) (M : Md mg) (c_check_values : Cal P w K mg base 2 "check_values" (spChkVals K)) (c_all_steps : Cal P w K mg base 1 "all_steps" (spAllSteps K)) (c_are_kept : Cal P w K mg base 3 "are_kept" (spKept K)) (c_are_whole : Cal P w K mg base 1 "are_whole" (spWhole K)) : Cal P w K mg base 4 "sort_of" (spSort K) := by
  refine cal_of D sc_sort_of (fun _ _ _ _ _ _ us hl => match us, hl with | [_], _ => rfl) (fun vs H Q E h => ?_) (fun f cdv A outer s H vs Q E hr h => ?_)
  · obtain ⟨a, _, rfl, _⟩ := h
    rfl
  · obtain ⟨a, ns, rfl, hT, hne, hlen, q⟩ := h
    have nd := sc_sort_of.nd
    refine ⟨_, (pss_cons (ps_expr (pe_c c_check_values hr (by decide) (by rfl) (pa_cons (pv 0) pa_nil))) (pss_cons (ps_set (i := 1) nd rfl (Or.inl rfl) (pe_c c_all_steps hr (by decide) (by rfl) (pa_cons (pv 0) pa_nil))) (pss_cons (ps_if (pt_val (pe_c c_are_whole hr (by decide) (by rfl) (pa_cons (pv 1) pa_nil))) (pss_one (ps_ret pe_str)) pss_nil) (pss_one (ps_ret (pe_ifExp (pt_val (pe_c c_are_kept hr (by decide) (by rfl) (pa_cons (pv 1) pa_nil))) pe_str pe_str)))))), ?_⟩
    walk_at "rd"
    refine ⟨_, _, rfl, hT, hne, by omega, fun H1 s1 => ?_⟩
    walk_at "rd"
    refine ⟨_, _, rfl, s1.tup hT, by omega, fun H2 p s2 hp hp2 => ?_⟩
    walk_at "rd"
    refine ⟨_, _, rfl, sql hp2, by rw [stepsL_len]; exact hlen, fun H3 b s3 hb => ?_⟩
    walk_at "rd"
    cases b with
    | true =>
      walk_at "rd"
      exact (q _ ((s1.trans s2).trans s3)).1 (hb.mp rfl)
    | false =>
      have nw : ¬ WholeS (stepsL ns) := fun z => nomatch hb.mpr z
      walk_at "rd"
      refine ⟨_, _, rfl, sql (s3 _ _ hp2), by rw [stepsL_len]; exact hlen, fun H4 b4 s4 hb4 => ?_⟩
      walk_at "rd"
      cases b4 with
      | true =>
        walk_at "rd"
        exact (q _ (((s1.trans s2).trans s3).trans s4)).2.1 nw (hb4.mp rfl)
      | false =>
        walk_at "rd"
        exact (q _ (((s1.trans s2).trans s3).trans s4)).2.2 nw fun z => nomatch hb4.mpr z
/-! ### value_from -/
theorem valF_take : ∀ (cs : List Int) (k i x : Nat) (c : Int), cs[i]? = some c → valF k (cs.take (i + 1)) x = valF k (cs.take i) x + c * (C x (k + i) : Int)
  | [], _, i, _, _, h => by simp at h
  | a :: cs, k, 0, x, c, h => by
    have e : a = c := by simpa using h
    subst e
    simp [valF]
  | a :: cs, k, i + 1, x, c, h => by
    have := valF_take cs (k + 1) i x c (by simpa using h)
    show a * (C x k : Int) + valF (k + 1) (cs.take (i + 1)) x = a * (C x k : Int) + valF (k + 1) (cs.take i) x + c * (C x (k + (i + 1)) : Int)
    rw [this, show k + 1 + i = k + (i + 1) by omega]
    omega
def spValFrom (K : PySem.W.Frag) : Sp := fun vs H Q _ => ∃ (a : Addr) (ns : List Int) (x : Nat), vs = [.ref a, .int (x : Int)] ∧ SqT K H a (ns.map V.int) ∧ ns ≠ [] ∧ ns.length ≤ 13 ∧ (∀ c ∈ stepsL ns, c.natAbs < 2 ^ 100) ∧ x < 2 ^ 20 ∧ ∀ H', Same H H' → Q (.int (valF 0 (stepsL ns) x)) H'
theorem sc_value_from : FnScope ["values", "place", "found", "lots", "at", "step"] ["values", "place"] (defScope (topS 33)) := ⟨rfl, rfl, rfl, by decide +kernel, rfl, by decide +kernel, by decide +kernel⟩
theorem c_value_from (D : Df K mg "value_from" (topS 33)) (M : Md mg) (c_check_values : Cal P w K mg base 2 "check_values" (spChkVals K)) (c_is_base : Cal P w K mg base 2 "is_base" spIsBase) (c_all_steps : Cal P w K mg base 1 "all_steps" (spAllSteps K)) : Cal P w K mg base 3 "value_from" (spValFrom K) := by
  refine cal_of D sc_value_from (fun _ _ _ _ _ _ us hl => match us, hl with | [_, _], _ => rfl) (fun vs H Q E h => ?_) (fun f cdv A outer s H vs Q E hr h => ?_)
  · obtain ⟨a, _, _, rfl, _⟩ := h
    rfl
  · obtain ⟨a, ns, x, rfl, hT, hne, hlen, hcs, hx, q⟩ := h
    have nd := sc_value_from.nd
    refine ⟨_, (pss_cons (ps_expr (pe_c c_check_values hr (by decide) (by rfl) (pa_cons (pv 0) pa_nil))) (pss_cons (ps_if (pt_not (pt_val (pe_c c_is_base hr (by decide) (by rfl) (pa_cons (pv 1) pa_nil)))) (pss_one ps_never) pss_nil) (pss_cons (ps_asg (pe_tup (pa_cons pe_int (pa_cons pe_int pa_nil))) (pg_tup rfl (pgs_cons (pg_name (i := 2) nd rfl (by first | exact Or.inl rfl | exact Or.inr rfl)) (pgs_cons (pg_name (i := 3) nd rfl (by first | exact Or.inl rfl | exact Or.inr rfl)) pgs_nil)))) (pss_cons (ps_for PassesOwn.never rfl (pi_enum (by rfl) M.enumerate (pa_cons (pe_c c_all_steps hr (by decide) (by rfl) (pa_cons (pv 0) pa_nil)) pa_nil)) (pg_tup rfl (pgs_cons (pg_name (i := 4) nd rfl (by first | exact Or.inl rfl | exact Or.inr rfl)) (pgs_cons (pg_name (i := 5) nd rfl (by first | exact Or.inl rfl | exact Or.inr rfl)) pgs_nil))) (pss_cons (ps_set (i := 2) nd rfl (Or.inl rfl) (pe_op op_add (pv 2) (pe_op op_mulW (pv 5) (pv 3)))) (pss_one (ps_set (i := 3) nd rfl (Or.inl rfl) (pe_op op_fdivW (pe_op op_mulW (pv 3) (pe_op op_sub (pv 1) (pv 4))) (pe_op op_add (pv 4) pe_int)))))) (pss_one (ps_ret (pv 2))))))), ?_⟩
    walk_at "rd"
    refine ⟨_, _, rfl, hT, hne, by omega, fun H1 s1 => ?_⟩
    walk_at "rd"
    refine ⟨by omega, ?_⟩
    walk_at "rd"
    refine ⟨(show 2 ≤ sizeLine by decide), fun p hp => ?_⟩
    have s2 := s1.trans (same_upd (o := .tup [.int 0, .int 1]) hp)
    refine ⟨p, _, rfl, sqt_new, rfl, ?_⟩
    walk_at "rd"
    refine ⟨_, _, rfl, s2.tup hT, by omega, fun H3 r s3 hr1 hr2 => ?_⟩
    refine ⟨_, _, rfl, sql hr2, ?_⟩
    have s4 := s2.trans s3
    refine for_it (walk_enum (xs := (stepsL ns).map V.int)) (fun i σ H' => Same H3 H' ∧ ∃ t1 t2 : Option V, σ = [some (.ref a), some (.int (x : Int)), some (.int (valF 0 ((stepsL ns).take i) x)), some (.int (C x i : Int)), t1, t2]) ⟨Same.refl _, none, none, ?_⟩ (fun i σ H' _ h => h.1.seq (sql hr2)) (fun i y σ H' H'' hi hP hy => ?_) (fun σ H' hP => ?_)
    · rw [C_zero]
      rfl
    · obtain ⟨sm, x1, x2, rfl⟩ := hP
      obtain ⟨T, u, v, rfl, hT1, rfl, hu, hv⟩ := hy
      obtain ⟨c, hc, rfl⟩ := map_at hv
      have eu : u = .int (i : Nat) := (Option.some.inj hu).symm
      subst eu
      rw [List.length_map, stepsL_len] at hi
      have hb : ∀ k, k ≤ 13 → Sm (C x k : Int) := fun k hk => by
        have h1 := C_le x k 20 hx
        have h2 : 2 ^ (20 * k) ≤ 2 ^ 260 := Nat.pow_le_pow_right (by decide) (by omega)
        refine sm_le (n := 2 ^ 260) ?_ (by decide)
        rw [Int.natAbs_natCast]
        omega
      have hcm := hcs c (List.mem_of_getElem? hc)
      refine ⟨T, _, rfl, sqt_new, rfl, ?_⟩
      walk_at "rd"
      refine ⟨sm_mul (Nat.lt_trans hcm (by decide)) (hb i (by omega)), ?_⟩
      walk_at "rd"
      refine ⟨sm_mul (hb i (by omega)) (sm_le (n := 2 ^ 20 + 13) (by omega) (by decide)), ?_⟩
      walk_at "rd"
      refine ⟨sm_div (by omega) (sm_le (n := 14) (by omega) (by decide)), ?_⟩
      walk_at "rd"
      refine ⟨sm.trans (same_upd hT1), some (.int (i : Nat)), some (.int c), ?_⟩
      rw [valF_take _ 0 i x c hc, ← C_step, Nat.zero_add]
      rfl
    · obtain ⟨sm, x1, x2, rfl⟩ := hP
      walk_at "rd"
      rw [List.length_map, List.take_length]
      exact q _ (s4.trans sm)
end
end K79
/-! The mathematics of pairs of places. -/
namespace K79
open PySem PySem.Spec PyProof.Rows L2
def rowP (n i : Nat) : List (Int × Int) := ((List.range n).filter fun j => decide (i < j)).map fun (j : Nat) => ((i : Int), (j : Int))
def allP (n : Nat) : List (Int × Int) := (List.range n).flatMap (rowP n)
def badP (ns : List Int) (p : Int × Int) : Bool := !decide ((ns.getD p.1.toNat 0 - ns.getD p.2.toNat 0) % (p.2 - p.1) = 0)
def looseL (ns : List Int) : List (Int × Int) := (allP ns.length).filter (badP ns)
theorem mem_rowP {n i : Nat} {p : Int × Int} : p ∈ rowP n i ↔ ∃ j : Nat, i < j ∧ j < n ∧ p = ((i : Int), (j : Int)) := by
  unfold rowP
  simp only [List.mem_map, List.mem_filter, List.mem_range, decide_eq_true_eq]
  constructor
  · rintro ⟨j, ⟨h1, h2⟩, rfl⟩
    exact ⟨j, h2, h1, rfl⟩
  · rintro ⟨j, h1, h2, rfl⟩
    exact ⟨j, ⟨h2, h1⟩, rfl⟩
theorem mem_allP {n : Nat} {p : Int × Int} : p ∈ allP n ↔ ∃ i j : Nat, i < j ∧ j < n ∧ p = ((i : Int), (j : Int)) := by
  unfold allP
  simp only [List.mem_flatMap, List.mem_range, mem_rowP]
  constructor
  · rintro ⟨i, _, j, h1, h2, rfl⟩
    exact ⟨i, j, h1, h2, rfl⟩
  · rintro ⟨i, j, h1, h2, rfl⟩
    exact ⟨i, by omega, j, h1, h2, rfl⟩
theorem mem_looseL {ns : List Int} {p : Int × Int} : p ∈ looseL ns ↔ (∃ i j : Nat, i < j ∧ j < ns.length ∧ p = ((i : Int), (j : Int))) ∧ badP ns p = true := by
  unfold looseL
  rw [List.mem_filter, mem_allP]
def ltL (p q : Int × Int) : Prop := p.1 < q.1 ∨ (p.1 = q.1 ∧ p.2 < q.2)
theorem range_lt (n : Nat) : (List.range n).Pairwise (· < ·) := List.pairwise_lt_range
theorem rowP_sorted (n i : Nat) : (rowP n i).Pairwise ltL := by
  unfold rowP
  rw [List.pairwise_map]
  exact ((range_lt n).filter _).imp fun {a b} h => .inr ⟨rfl, by show (a : Int) < (b : Int); omega⟩
theorem allP_sorted (n : Nat) : (allP n).Pairwise ltL := by
  unfold allP
  rw [List.pairwise_flatMap]
  refine ⟨fun i _ => rowP_sorted n i, (range_lt n).imp fun {a b} h p hp q hq => ?_⟩
  obtain ⟨j, _, _, rfl⟩ := mem_rowP.mp hp
  obtain ⟨k, _, _, rfl⟩ := mem_rowP.mp hq
  exact .inl (by show (a : Int) < (b : Int); omega)
theorem looseL_sorted (ns : List Int) : (looseL ns).Pairwise ltL := (allP_sorted _).filter _
theorem ltL_ne {p q : Int × Int} (h : ltL p q) : p ≠ q := fun e => by
  subst e
  rcases h with h | ⟨_, h⟩ <;> omega
/-- the quarrels as they are found -/
def colP (ns : List Int) (j : Nat) : List (Int × Int) := ((List.range j).filter fun (i : Nat) => badP ns ((i : Int), (j : Int))).map fun (i : Nat) => ((i : Int), (j : Int))
def foundL (ns : List Int) : List (Int × Int) := (List.range ns.length).flatMap (colP ns)
theorem mem_colP {ns : List Int} {j : Nat} {p : Int × Int} : p ∈ colP ns j ↔ ∃ i : Nat, i < j ∧ p = ((i : Int), (j : Int)) ∧ badP ns p = true := by
  unfold colP
  simp only [List.mem_map, List.mem_filter, List.mem_range]
  constructor
  · rintro ⟨i, ⟨h1, h2⟩, rfl⟩
    exact ⟨i, h1, rfl, h2⟩
  · rintro ⟨i, h1, rfl, h2⟩
    exact ⟨i, ⟨h1, h2⟩, rfl⟩
theorem mem_foundL {ns : List Int} {p : Int × Int} : p ∈ foundL ns ↔ p ∈ looseL ns := by
  rw [mem_looseL]
  unfold foundL
  simp only [List.mem_flatMap, List.mem_range, mem_colP]
  constructor
  · rintro ⟨j, hj, i, hi, rfl, hb⟩
    exact ⟨⟨i, j, hi, hj, rfl⟩, hb⟩
  · rintro ⟨⟨i, j, hi, hj, rfl⟩, hb⟩
    exact ⟨j, hj, i, hi, rfl, hb⟩
theorem foundL_nodup (ns : List Int) : (foundL ns).Nodup := by
  unfold foundL List.Nodup
  rw [List.pairwise_flatMap]
  refine ⟨fun j _ => ?_, (range_lt _).imp fun {a b} h p hp q hq => ?_⟩
  · unfold colP
    rw [List.pairwise_map]
    refine ((range_lt j).filter _).imp fun {a b} h => ?_
    intro e
    have := congrArg Prod.fst e
    have h2 : (a : Int) = (b : Int) := this
    omega
  · obtain ⟨i, _, rfl, _⟩ := mem_colP.mp hp
    obtain ⟨k, _, rfl, _⟩ := mem_colP.mp hq
    intro e
    have := congrArg Prod.snd e
    have h2 : (a : Int) = (b : Int) := this
    omega
theorem looseL_nodup (ns : List Int) : (looseL ns).Nodup := (looseL_sorted ns).imp fun h => ltL_ne h
theorem found_perm (ns : List Int) : (foundL ns).Perm (looseL ns) := (List.perm_ext_iff_of_nodup (foundL_nodup ns) (looseL_nodup ns)).mpr fun _ => mem_foundL
/-- what is sorted out of the found ones -/
theorem sorted_is {ns : List Int} {l : List (Int × Int)} (h : l.Perm (foundL ns)) (hs : l.Pairwise fun x y => SrtO.lexB y x = false) : l = looseL ns := by
  refine List.Perm.eq_of_pairwise (le := fun x y => SrtO.lexB y x = false) (fun a b _ _ h1 h2 => ?_) hs ((looseL_sorted ns).imp fun {a b} h => ?_) (h.trans (found_perm ns))
  · have e1 := SrtO.lexB_no.mp h1
    have e2 := SrtO.lexB_no.mp h2
    exact Prod.ext (by omega) (by omega)
  · refine SrtO.lexB_no.mpr ?_
    rcases h with h | ⟨h, h2⟩ <;> omega
theorem getD_some {ns : List Int} {i : Nat} {u : Int} (h : ns[i]? = some u) : ns.getD i 0 = u := by
  rw [List.getD_eq_getElem?_getD, h]
  rfl
theorem bad_at {ns : List Int} {i j : Nat} {u v : Int} (hu : ns[i]? = some u) (hv : ns[j]? = some v) : badP ns ((i : Int), (j : Int)) = !decide ((u - v) % ((j : Int) - (i : Int)) = 0) := by
  unfold badP
  show (!decide ((ns.getD (i : Int).toNat 0 - ns.getD (j : Int).toNat 0) % ((j : Int) - (i : Int)) = 0)) = _
  rw [Int.toNat_natCast, Int.toNat_natCast, getD_some hu, getD_some hv]
theorem loose_nil {ns : List Int} : looseL ns = [] ↔ Agrees ns := by
  constructor
  · intro h i j u v hij hu hv
    have hj := (List.getElem?_eq_some_iff.mp hv).1
    by_cases hb : badP ns ((i : Int), (j : Int)) = true
    · have := mem_looseL.mpr ⟨⟨i, j, hij, hj, rfl⟩, hb⟩
      rw [h] at this
      cases this
    · rw [bad_at hu hv] at hb
      simp at hb
      exact Int.dvd_of_emod_eq_zero hb
  · intro h
    cases e : looseL ns with
    | nil => rfl
    | cons p t =>
      have hp : p ∈ looseL ns := by rw [e]; exact List.mem_cons_self
      obtain ⟨⟨i, j, hij, hj, rfl⟩, hb⟩ := mem_looseL.mp hp
      have hu : ns[i]? = some ns[i] := List.getElem?_eq_getElem (by omega)
      have hv : ns[j]? = some ns[j] := List.getElem?_eq_getElem hj
      rw [bad_at hu hv, Int.emod_eq_zero_of_dvd (h i j _ _ hij hu hv)] at hb
      simp at hb
theorem loose_iff {ns : List Int} : looseL ns = [] ↔ KeptS (stepsL ns) := loose_nil.trans ⟨kept_of_agrees, agrees_of_kept⟩
theorem rowP_len (n i : Nat) : (rowP n i).length ≤ n := by
  unfold rowP
  rw [List.length_map]
  have := List.length_filter_le (fun j => decide (i < j)) (List.range n)
  rw [List.length_range] at this
  exact this
theorem flat_len {f : Nat → List (Int × Int)} {n : Nat} (h : ∀ i, (f i).length ≤ n) : ∀ m : Nat, ((List.range m).flatMap f).length ≤ m * n
  | 0 => by simp
  | m + 1 => by
    have := flat_len h m
    rw [List.range_succ, List.flatMap_append, List.length_append, Nat.add_mul]
    have h2 := h m
    simp only [List.flatMap_cons, List.flatMap_nil, List.append_nil]
    omega
end K79
/-! Loose pairs, the first loose one, certificates of values. -/
namespace K79
open PySem PySem.Spec PyProof.Rows L2
local macro_rules | `(tactic| walk_at "rd1") => `(tactic| first | refine ⟨_, rfl, ?_⟩ | refine ⟨_, _, rfl, rfl, ?_⟩ | refine ⟨_, _, rfl, ?_⟩ | refine ⟨rfl, ?_⟩)
local macro_rules | `(tactic| walk_at "rd") => `(tactic| repeat walk_at "rd1")
theorem rgV_at {n i : Nat} {v : V} (h : (rgV 0 (n : Int))[i]? = some v) : i < n ∧ v = .int (i : Int) := by
  unfold rgV at h
  rw [List.getElem?_map] at h
  obtain ⟨k, hk, rfl⟩ := Option.map_eq_some_iff.mp h
  obtain ⟨hi, rfl⟩ := List.getElem?_eq_some_iff.mp hk
  rw [List.length_range] at hi
  refine ⟨by omega, ?_⟩
  rw [List.getElem_range, Int.zero_add]
theorem rgV_len (n : Nat) : (rgV 0 (n : Int)).length = n := by
  rw [rgV_length]
  omega
theorem rgOk {n : Nat} (h : n ≤ 40) : RgOk 0 (n : Int) := RgOk.of_le (by omega) (by omega) (by omega) (by omega)
theorem rowP_upto (n i j : Nat) : rowP (j + 1) i = rowP j i ++ if i < j then [((i : Int), (j : Int))] else [] := by
  unfold rowP
  rw [List.range_succ, List.filter_append, List.map_append]
  congr 1
  by_cases h : i < j
  · rw [if_pos h, List.filter_cons_of_pos (by simpa using h)]
    rfl
  · rw [if_neg h, List.filter_cons_of_neg (by simpa using h)]
    rfl
theorem flat_succ (f : Nat → List (Int × Int)) (i : Nat) : (List.range (i + 1)).flatMap f = (List.range i).flatMap f ++ f i := by
  rw [List.range_succ, List.flatMap_append]
  simp
section
variable {P : Program} {w : World} {K : PySem.W.Frag} {mg : Str → Option Value} {base : Heap}
def spLoose (K : PySem.W.Frag) : Sp := fun vs H Q _ => ∃ (a : Addr) (ns : List Int), vs = [.ref a] ∧ SqT K H a (ns.map V.int) ∧ ns.length ≤ 40 ∧ ∀ H' p ws, Same H H' → H p = none → H' p = some (.lst ws) → Els RPt H' ws (looseL ns) → Q (.ref p) H'
theorem sc_loose_pairs : FnScope ["values", "many", "pairs", "first", "second", "pair"] ["values"] (defScope (topS 31)) := ⟨rfl, rfl, rfl, by decide +kernel, rfl, by decide +kernel, by decide +kernel⟩
theorem c_loose_pairs (D : Df K mg "loose_pairs" (topS 31)) (M : Md mg) : Cal P w K mg base 1 "loose_pairs" (spLoose K) := by
  refine cal_of D sc_loose_pairs (fun _ _ _ _ _ _ us hl => match us, hl with | [_], _ => rfl) (fun vs H Q E h => ?_) (fun f cdv A outer s H vs Q E hr h => ?_)
  · obtain ⟨a, _, rfl, _⟩ := h
    rfl
  · obtain ⟨a, ns, rfl, hT, hlen, q⟩ := h
    have nd := sc_loose_pairs.nd
    refine ⟨_, (pss_cons (ps_set (i := 1) nd rfl (Or.inr rfl) (pe_listRg rfl (by rfl) M.list (prg_1 (by rfl) M.range (pe_callB call_len_seq (by rfl) M.len (by decide +kernel) (pa_cons (pv 0) pa_nil))))) (pss_cons (ps_setLc2 (i := 2) (own := [("first", 3), ("second", 4)]) (vs1 := [4]) (g := gName 3) (g1 := gName 4) rfl nd rfl rfl (sw_true rfl rfl rfl (by decide +kernel)) (pi_list (pv 1)) (blkOk_by (own := [("first", 3), ("second", 4)]) (N := ["values", "many", "pairs", "first", "second", "pair"]) (sc := defScope (topS 31)) (by decide +kernel)) (by decide) (fun _ _ _ _ _ => (pg_name (i := 3) nd rfl (by first | exact Or.inl rfl | exact Or.inr rfl))) (fun _ _ _ _ _ => pts_nil) (fun _ _ _ _ _ => (kpi_list (K := K) rfl (pv 1))) (fun _ _ _ _ _ => (pg_name (i := 4) nd rfl (by first | exact Or.inl rfl | exact Or.inr rfl))) (fun _ _ _ _ _ => (pts_one (pt_cmpR op_lt (pv 3) (pv 4) (nomark _)))) (fun _ _ _ _ _ => (pe_tup (pa_cons (pv 3) (pa_cons (pv 4) pa_nil))))) (pss_one (ps_ret (pe_lc (own := [("pair", 5)]) (g := gName 5) rfl nd (pi_list (pv 2)) (blkOk_by (own := [("pair", 5)]) (N := ["values", "many", "pairs", "first", "second", "pair"]) (sc := defScope (topS 31)) (by decide +kernel)) (fun _ _ _ _ _ => (pg_name (i := 5) nd rfl (by first | exact Or.inl rfl | exact Or.inr rfl))) (fun _ _ _ _ _ => (pts_one (pt_cmpR op_ne (pe_op op_mod (pe_op op_sub (pe_ix (kix_tup (K := K) rfl) (pv 0) (pe_ix (kix_tup (K := K) rfl) (pv 5) pe_int (fun _ _ => rfl)) (fun _ _ => rfl)) (pe_ix (kix_tup (K := K) rfl) (pv 0) (pe_ix (kix_tup (K := K) rfl) (pv 5) pe_int (fun _ _ => rfl)) (fun _ _ => rfl))) (pe_op op_sub (pe_ix (kix_tup (K := K) rfl) (pv 5) pe_int (fun _ _ => rfl)) (pe_ix (kix_tup (K := K) rfl) (pv 5) pe_int (fun _ _ => rfl)))) pe_int (nomark _)))) (fun _ _ _ _ _ => (pv 5))))))), ?_⟩
    walk_at "rd"
    refine ⟨_, _, rfl, .inr hT, ?_⟩
    walk_at "rd"
    rw [List.length_map]
    refine ⟨rgOk hlen, fun r hr1 => ?_⟩
    have s1 : Same H (upd H r (.lst (rgV 0 (ns.length : Int)))) := same_upd hr1
    walk_at "rd"
    refine ⟨⟨_, sql_new⟩, fun D hD => ?_⟩
    generalize hH1 : upd H r (.lst (rgV 0 (ns.length : Int))) = H1 at *
    have hR1 : SqL K H1 r (rgV 0 (ns.length : Int)) := by
      rw [← hH1]
      exact sql_new
    have hn : (rgV 0 (ns.length : Int)).length = ns.length := rgV_len _
    have wl := walk_list (K := K) (a := r) (xs := rgV 0 (ns.length : Int))
    rw [hn] at wl
    refine ⟨fun i m H' => m = ns.length - i ∧ i ≤ ns.length ∧ Same H1 H' ∧ ∃ ws, H' D = some (.lst ws) ∧ Els RPt H' ws ((List.range i).flatMap (rowP ns.length)), ⟨ns.length, rfl, Nat.zero_le _, same_upd hD, [], upd_same, Els.nil⟩, ?_⟩
    rintro i m H' ⟨rfl, hi, sm, ws, hw, he⟩
    by_cases hlt : i < ns.length
    · refine .inr ⟨wl.goes i H' hlt (sm.seq hR1), fun H'' => Same H1 H'' ∧ ∃ ws, H'' D = some (.lst ws) ∧ Els RPt H'' ws ((List.range (i + 1)).flatMap (rowP ns.length)), fun H'' h => ⟨ns.length - (i + 1), by omega, rfl, hlt, h⟩, fun x H'' hy => ?_⟩
      obtain ⟨rfl, hx⟩ := wl.yields i H' x H'' hlt (sm.seq hR1) hy
      obtain ⟨_, rfl⟩ := rgV_at hx
      walk_at "rd"
      refine ⟨⟨_, sm.seq hR1⟩, ?_⟩
      refine ⟨fun j k H2 => k = ns.length - j ∧ j ≤ ns.length ∧ Same H1 H2 ∧ ∃ ws, H2 D = some (.lst ws) ∧ Els RPt H2 ws ((List.range i).flatMap (rowP ns.length) ++ rowP j i), ⟨ns.length, rfl, Nat.zero_le _, sm, ws, hw, ?_⟩, ?_⟩
      · rw [show rowP 0 i = [] from rfl, List.append_nil]
        exact he
      rintro j k H2 ⟨rfl, hj, sm2, ws2, hw2, he2⟩
      by_cases hjt : j < ns.length
      · refine .inr ⟨wl.goes j H2 hjt (sm2.seq hR1), fun H3 => Same H1 H3 ∧ ∃ ws, H3 D = some (.lst ws) ∧ Els RPt H3 ws ((List.range i).flatMap (rowP ns.length) ++ rowP (j + 1) i), fun H3 h => ⟨ns.length - (j + 1), by omega, rfl, hjt, h⟩, fun y H3 hy2 => ?_⟩
        obtain ⟨rfl, hyv⟩ := wl.yields j H2 y H3 hjt (sm2.seq hR1) hy2
        obtain ⟨_, rfl⟩ := rgV_at hyv
        walk_at "rd"
        refine ite2 (fun e => ?_) (fun e => ?_)
        · have hij : i < j := by
            have h1 : (i : Int) < (j : Int) := of_decide_eq_true e
            omega
          walk_at "rd"
          refine ⟨(show 2 ≤ sizeLine by decide), fun t ht => ?_⟩
          have st := same_upd (o := .tup [.int (i : Int), .int (j : Int)]) ht
          have hlw : ws2.length ≤ 1640 := by
            rw [he2.1, List.length_append]
            have h1 := flat_len (rowP_len ns.length) i
            have h2 := rowP_len j i
            have h3 : i * ns.length ≤ 40 * 40 := Nat.mul_le_mul (by omega) hlen
            omega
          refine ⟨ws2, st _ _ hw2, Nat.lt_of_le_of_lt hlw (by decide), Same.mut (sm2.trans st) hD, ws2 ++ [.ref t], upd_same, ?_⟩
          rw [rowP_upto ns.length, if_pos hij, ← List.append_assoc]
          refine Els.ext stb_RPt (ext_lst (st _ _ hw2)) ((he2.ext stb_RPt st.ext).snoc ⟨t, rfl, upd_same⟩)
        · have hij : ¬ i < j := fun h => e (decide_eq_true (by omega))
          refine ⟨sm2, ws2, hw2, ?_⟩
          rw [rowP_upto ns.length, if_neg hij, List.append_nil]
          exact he2
      · have ej : j = ns.length := by omega
        subst ej
        refine .inl ⟨wl.stops H2 (sm2.seq hR1), sm2, ws2, hw2, ?_⟩
        rw [flat_succ]
        exact he2
    · have ei : i = ns.length := by omega
      subst ei
      refine .inl ⟨wl.stops H' (sm.seq hR1), ?_⟩
      walk_at "rd"
      have sHH : Same H H' := s1.trans sm
      refine ⟨⟨_, sql hw⟩, fun D2 hD2 => ?_⟩
      refine lc_data RPt stb_RPt (allP ns.length) (badP ns) (walk_list (xs := ws)) he.1.symm ?_ hD2 (fun H3 s3 => s3.seq (sql hw)) (fun k b x H3 H4 N1 N0 hb s3 hy hn1 hn0 => ?_) (fun H3 ws3 s3 hD3 he3 => ?_)
      · rw [he.1]
        exact Nat.lt_of_le_of_lt (flat_len (rowP_len ns.length) ns.length) (Nat.lt_of_le_of_lt (Nat.mul_le_mul hlen hlen) (by decide))
      · obtain ⟨rfl, hx⟩ := hy
        obtain ⟨tq, rfl, htq⟩ := he.2 k x b hx hb
        obtain ⟨i, j, hij, hj, rfl⟩ := mem_allP.mp (List.mem_of_getElem? hb)
        have hq3 := s3 _ _ htq
        have hT3 := (sHH.trans s3).tup hT
        have hu : (ns.map V.int)[i]? = some (.int ns[i]) := by
          rw [List.getElem?_map, List.getElem?_eq_getElem (by omega)]
          rfl
        have hv : (ns.map V.int)[j]? = some (.int ns[j]) := by
          rw [List.getElem?_map, List.getElem?_eq_getElem hj]
          rfl
        have eb := bad_at (ns := ns) (i := i) (j := j) (List.getElem?_eq_getElem (by omega)) (List.getElem?_eq_getElem hj)
        walk_at "rd"
        refine ⟨_, _, _, _, rfl, rfl, sqt hq3, atI_nat (j := 0) rfl, ?_⟩
        refine ⟨_, _, _, _, rfl, rfl, hT3, atI_nat hu, ?_⟩
        walk_at "rd"
        refine ⟨_, _, _, _, rfl, rfl, sqt hq3, atI_nat (j := 1) rfl, ?_⟩
        refine ⟨_, _, _, _, rfl, rfl, hT3, atI_nat hv, ?_⟩
        walk_at "rd"
        refine ⟨_, _, _, _, rfl, rfl, sqt hq3, atI_nat (j := 1) rfl, ?_⟩
        walk_at "rd"
        refine ⟨_, _, _, _, rfl, rfl, sqt hq3, atI_nat (j := 0) rfl, ?_⟩
        walk_at "rd"
        refine ⟨by show (0 : Int) < (j : Int) - (i : Int); omega, ?_⟩
        walk_at "rd"
        refine ite2 (fun e => ?_) (fun e => ?_)
        · walk_at "rd"
          have hbt : badP ns ((i : Int), (j : Int)) = true := by
            rw [eb]
            simp [yesN e]
          exact hn1 hbt _ _ (Same.refl _) ⟨tq, rfl, hq3⟩
        · have hbf : badP ns ((i : Int), (j : Int)) = false := by
            rw [eb]
            simp [noN e]
          exact hn0 hbf _ (Same.refl _)
      · exact q _ D2 ws3 (sHH.trans s3) (sHH.free hD2) hD3 he3
/-! ### first_loose -/
theorem ne_nilP {l : List (Int × Int)} : PyData.eqv (.list (pD l)) (.list (iD [])) = l.isEmpty := by
  show PyData.eqvAll (pD l) [] = _
  rw [eqvAll_nil, isE_map]
def spFirstLoose (K : PySem.W.Frag) : Sp := fun vs H Q _ => ∃ (a : Addr) (ns : List Int), vs = [.ref a] ∧ SqT K H a (ns.map V.int) ∧ ns ≠ [] ∧ ns.length ≤ 40 ∧ ∀ H', Same H H' → (looseL ns = [] → Q .non H') ∧ ∀ v p t, looseL ns = p :: t → RPt H' v p → Q v H'
theorem sc_first_loose : FnScope ["values", "found"] ["values"] (defScope (topS 32)) := ⟨rfl, rfl, rfl, by decide +kernel, rfl, by decide +kernel, by decide +kernel⟩
theorem c_first_loose (D : Df K mg "first_loose" (topS 32)) (M : Md mg) (c_check_values : Cal P w K mg base 2 "check_values" (spChkVals K)) (c_loose_pairs : Cal P w K mg base 1 "loose_pairs" (spLoose K)) : Cal P w K mg base 3 "first_loose" (spFirstLoose K) := by
  refine cal_of D sc_first_loose (fun _ _ _ _ _ _ us hl => match us, hl with | [_], _ => rfl) (fun vs H Q E h => ?_) (fun f cdv A outer s H vs Q E hr h => ?_)
  · obtain ⟨a, _, rfl, _⟩ := h
    rfl
  · obtain ⟨a, ns, rfl, hT, hne, hlen, q⟩ := h
    have nd := sc_first_loose.nd
    refine ⟨_, (pss_cons (ps_expr (pe_c c_check_values hr (by decide) (by rfl) (pa_cons (pv 0) pa_nil))) (pss_cons (ps_set (i := 1) nd rfl (Or.inl rfl) (pe_c c_loose_pairs hr (by decide) (by rfl) (pa_cons (pv 0) pa_nil))) (pss_one (ps_ret (pe_ifExp (pt_cmpR (op_neD hr.units) (pv 1) (pe_lst pa_nil) (nomark _)) (pe_ix (kix_list (K := K) rfl) (pv 1) pe_int (fun _ _ => rfl)) pe_non))))), ?_⟩
    walk_at "rd"
    refine ⟨_, _, rfl, hT, hne, hlen, fun H1 s1 => ?_⟩
    walk_at "rd"
    refine ⟨_, _, rfl, s1.tup hT, hlen, fun H2 p ws s2 hp hp2 he => ?_⟩
    walk_at "rd"
    refine ⟨Nat.zero_le _, fun e he' => ?_⟩
    have s3 := same_upd (o := .lst []) he'
    have hp3 := s3 _ _ hp2
    have he3 := he.ext stb_RPt s3.ext
    refine ⟨.list (pD (looseL ns)), .list (iD []), .lst (sql hp3) (dpa_pairs ⟨he3.1, fun i v x h1 h2 => (he3.2 i v x h1 h2).rp⟩), .lst sql_new .nil, shaped_plst _, shaped_lst [], ?_⟩
    rw [ne_nilP]
    have sA := (s1.trans s2).trans s3
    cases hl : looseL ns with
    | nil =>
      walk_at "rd"
      exact (q _ sA).1 hl
    | cons x t =>
      walk_at "rd"
      rw [hl] at he3
      obtain ⟨v, hv, hr3⟩ := he3.at (i := 0) rfl
      refine ⟨_, _, _, _, rfl, rfl, sql hp3, atI_nat (j := 0) hv, ?_⟩
      exact (q _ sA).2 v x t hl hr3
/-! ### certify_values -/
def spCertV (K : PySem.W.Frag) : Sp := fun vs H Q _ => ∃ (a : Addr) (ns : List Int), vs = [.ref a] ∧ SqT K H a (ns.map V.int) ∧ ns ≠ [] ∧ ns.length ≤ 40 ∧ ∀ H' r c, Same H H' →
  (looseL ns = [] → ∀ s, SqT K H' r [.ref c, .ref s] → SqT K H' c [.str "kept", .ref a] → SqT K H' s ((stepsL ns).map V.int) → Q (.ref r) H') ∧
  (∀ v p t, looseL ns = p :: t → SqT K H' r [.ref c, v] → SqT K H' c [.str "loose", .ref a] → RPt H' v p → Q (.ref r) H')
theorem sc_certify_values : FnScope ["values", "found"] ["values"] (defScope (topS 59)) := ⟨rfl, rfl, rfl, by decide +kernel, rfl, by decide +kernel, by decide +kernel⟩
theorem c_certify_values (D : Df K mg "certify_values" (topS 59)) (M : Md mg) (c_check_values : Cal P w K mg base 2 "check_values" (spChkVals K)) (c_loose_pairs : Cal P w K mg base 1 "loose_pairs" (spLoose K)) (c_all_steps : Cal P w K mg base 1 "all_steps" (spAllSteps K)) : Cal P w K mg base 3 "certify_values" (spCertV K) := by
  refine cal_of D sc_certify_values (fun _ _ _ _ _ _ us hl => match us, hl with | [_], _ => rfl) (fun vs H Q E h => ?_) (fun f cdv A outer s H vs Q E hr h => ?_)
  · obtain ⟨a, _, rfl, _⟩ := h
    rfl
  · obtain ⟨a, ns, rfl, hT, hne, hlen, q⟩ := h
    have nd := sc_certify_values.nd
    refine ⟨_, (pss_cons (ps_expr (pe_c c_check_values hr (by decide) (by rfl) (pa_cons (pv 0) pa_nil))) (pss_cons (ps_set (i := 1) nd rfl (Or.inl rfl) (pe_c c_loose_pairs hr (by decide) (by rfl) (pa_cons (pv 0) pa_nil))) (pss_one (ps_ret (pe_ifExp (pt_cmpR (op_eqD hr.units) (pv 1) (pe_lst pa_nil) (nomark _)) (pe_tup (pa_cons (pe_tup (pa_cons pe_str (pa_cons (pv 0) pa_nil))) (pa_cons (pe_callTy call_tuple_of (by rfl) M.tuple (by decide +kernel) (pa_cons (pe_c c_all_steps hr (by decide) (by rfl) (pa_cons (pv 0) pa_nil)) pa_nil)) pa_nil))) (pe_tup (pa_cons (pe_tup (pa_cons pe_str (pa_cons (pv 0) pa_nil))) (pa_cons (pe_ix (kix_list (K := K) rfl) (pv 1) pe_int (fun _ _ => rfl)) pa_nil)))))))), ?_⟩
    walk_at "rd"
    refine ⟨_, _, rfl, hT, hne, hlen, fun H1 s1 => ?_⟩
    walk_at "rd"
    refine ⟨_, _, rfl, s1.tup hT, hlen, fun H2 p ws s2 hp hp2 he => ?_⟩
    walk_at "rd"
    refine ⟨Nat.zero_le _, fun e he' => ?_⟩
    have s3 := same_upd (o := .lst []) he'
    have hp3 := s3 _ _ hp2
    have he3 := he.ext stb_RPt s3.ext
    refine ⟨.list (pD (looseL ns)), .list (iD []), .lst (sql hp3) (dpa_pairs ⟨he3.1, fun i v x h1 h2 => (he3.2 i v x h1 h2).rp⟩), .lst sql_new .nil, shaped_plst _, shaped_lst [], ?_⟩
    rw [ne_nilP]
    have sA := (s1.trans s2).trans s3
    cases hl : looseL ns with
    | nil =>
      walk_at "rd"
      refine ⟨(show 2 ≤ sizeLine by decide), fun c hc => ?_⟩
      have s4 := same_upd (o := .tup [.str "kept", .ref a]) hc
      walk_at "rd"
      refine ⟨_, _, rfl, (sA.trans s4).tup hT, hlen, fun H5 l s5 hl5 hl5' => ?_⟩
      refine ⟨_, _, rfl, .inl ⟨sql hl5', fun s hs => ?_⟩⟩
      have s6 := same_upd (o := .tup ((stepsL ns).map V.int)) hs
      walk_at "rd"
      refine ⟨(show 2 ≤ sizeLine by decide), fun r hr6 => ?_⟩
      have s7 := same_upd (o := .tup [.ref c, .ref s]) hr6
      exact (q _ r c ((((sA.trans s4).trans s5).trans s6).trans s7)).1 hl s sqt_new (((s5.trans s6).trans s7).tup sqt_new) (s7.tup sqt_new)
    | cons x t =>
      walk_at "rd"
      refine ⟨(show 2 ≤ sizeLine by decide), fun c hc => ?_⟩
      have s4 := same_upd (o := .tup [.str "loose", .ref a]) hc
      rw [hl] at he3
      obtain ⟨v, hv, hr3⟩ := he3.at (i := 0) rfl
      walk_at "rd"
      refine ⟨_, _, _, _, rfl, rfl, sql (s4 _ _ hp3), atI_nat (j := 0) hv, ?_⟩
      walk_at "rd"
      refine ⟨(show 2 ≤ sizeLine by decide), fun r hr6 => ?_⟩
      have s7 := same_upd (o := .tup [.ref c, v]) hr6
      exact (q _ r c ((sA.trans s4).trans s7)).2 v x t hl sqt_new (s7.tup sqt_new) (stb_RPt _ _ _ _ (s4.trans s7).ext hr3)
end
end K79
/-! Facts: the exact facts of a table, their quarrels, what is known by them. -/
namespace K79
open PySem PySem.Spec PyProof.Rows L2
local macro_rules | `(tactic| walk_at "rd1") => `(tactic| first | refine ⟨_, rfl, ?_⟩ | refine ⟨_, _, rfl, rfl, ?_⟩ | refine ⟨_, _, rfl, ?_⟩ | refine ⟨rfl, ?_⟩)
local macro_rules | `(tactic| walk_at "rd") => `(tactic| repeat walk_at "rd1")
/-- the exact facts of a table -/
def rowsL (ns : List Int) : List (Int × Int × Int) := (List.range ns.length).map fun (i : Nat) => ((i : Int), ns.getD i 0, (0 : Int))
theorem rowsL_len (ns : List Int) : (rowsL ns).length = ns.length := by
  unfold rowsL
  rw [List.length_map, List.length_range]
theorem rowsL_at {ns : List Int} {i : Nat} {u : Int} (h : ns[i]? = some u) : (rowsL ns)[i]? = some ((i : Int), u, 0) := by
  have hi := (List.getElem?_eq_some_iff.mp h).1
  unfold rowsL
  rw [List.getElem?_map, List.getElem?_range hi]
  show some ((i : Int), ns.getD i 0, (0 : Int)) = _
  rw [getD_some h]
theorem rowsL_of {ns : List Int} {i : Nat} {x : Int × Int × Int} (h : (rowsL ns)[i]? = some x) : ∃ u, ns[i]? = some u ∧ x = ((i : Int), u, 0) := by
  have hi := (List.getElem?_eq_some_iff.mp h).1
  rw [rowsL_len] at hi
  have hu : ns[i]? = some ns[i] := List.getElem?_eq_getElem hi
  rw [rowsL_at hu] at h
  exact ⟨_, hu, (Option.some.inj h).symm⟩
/-- these facts stand at a -/
abbrev RowsAt (K : PySem.W.Frag) (H : Hp) (a : Addr) (ns : List Int) : Prop := TupOf K (RT K) H a (rowsL ns)
theorem RowsAt.len {K : PySem.W.Frag} {H : Hp} {ns : List Int} {vs : List V} (h : Els (RT K) H vs (rowsL ns)) : vs.length = ns.length := by rw [h.1, rowsL_len]
theorem RowsAt.at {K : PySem.W.Frag} {H : Hp} {ns : List Int} {vs : List V} (h : Els (RT K) H vs (rowsL ns)) {i : Nat} {v : V} (hv : vs[i]? = some v) : ∃ q u, v = .ref q ∧ ns[i]? = some u ∧ SqT K H q [.int (i : Int), .int u, .int 0] := by
  obtain ⟨x, hx, q, rfl, hq⟩ := h.atV hv
  obtain ⟨u, hu, rfl⟩ := rowsL_of hx
  exact ⟨q, u, rfl, hu, hq⟩
section
variable {P : Program} {w : World} {K : PySem.W.Frag} {mg : Str → Option Value} {base : Heap}
def spIsFact (K : PySem.W.Frag) : Sp := fun vs H Q _ => ∃ (q : Addr) (x y z : Int), vs = [.ref q] ∧ SqT K H q [.int x, .int y, .int z] ∧ 0 ≤ z ∧ ∀ H', Same H H' → Q (.bl true) H'
theorem sc_is_fact : FnScope ["value"] ["value"] (defScope (topS 35)) := ⟨rfl, rfl, rfl, by decide +kernel, rfl, by decide +kernel, by decide +kernel⟩
theorem c_is_fact (D : Df K mg "is_fact" (topS 35)) (M : Md mg) (c_are_integers : Cal P w K mg base 2 "are_integers" (spAreInts K)) : Cal P w K mg base 3 "is_fact" (spIsFact K) := by
  refine cal_of D sc_is_fact (fun _ _ _ _ _ _ us hl => match us, hl with | [_], _ => rfl) (fun vs H Q E h => ?_) (fun f cdv A outer s H vs Q E hr h => ?_)
  · obtain ⟨a, _, _, _, rfl, _⟩ := h
    rfl
  · obtain ⟨a, x, y, z, rfl, hT, hz, q⟩ := h
    have nd := sc_is_fact.nd
    refine ⟨_, (pss_one (ps_ret (pe_and (pe_c c_are_integers hr (by decide) (by rfl) (pa_cons (pv 0) (pa_cons pe_int pa_nil))) (pe_one (pe_cmpR op_ge (pe_ix (kix_tup (K := K) rfl) (pv 0) pe_int (fun _ _ => rfl)) pe_int (nomark _)))))), ?_⟩
    walk_at "rd"
    refine ⟨a, [x, y, z], rfl, (show 3 < sizeLine by decide), hT, fun H1 s1 => ?_⟩
    walk_at "rd"
    refine ⟨_, _, _, _, rfl, rfl, s1.tup hT, atI_nat (j := 2) rfl, ?_⟩
    walk_at "rd"
    exact (show Q (.bl (decide (0 ≤ z))) H1 by rw [decide_eq_true hz]; exact q _ s1)
def spChkFacts (K : PySem.W.Frag) : Sp := fun vs H Q _ => ∃ (a : Addr) (ns : List Int), vs = [.ref a, .int 40] ∧ RowsAt K H a ns ∧ ns.length ≤ 40 ∧ ∀ H', Same H H' → Q .non H'
theorem sc_check_facts : FnScope ["facts", "most", "at", "fact"] ["facts", "most"] (defScope (topS 36)) := ⟨rfl, rfl, rfl, by decide +kernel, rfl, by decide +kernel, by decide +kernel⟩
theorem c_check_facts (D : Df K mg "check_facts" (topS 36)) (M : Md mg) (c_is_fact : Cal P w K mg base 3 "is_fact" (spIsFact K)) : Cal P w K mg base 4 "check_facts" (spChkFacts K) := by
  refine cal_of D sc_check_facts (fun _ _ _ _ _ _ us hl => match us, hl with | [_, _], _ => rfl) (fun vs H Q E h => ?_) (fun f cdv A outer s H vs Q E hr h => ?_)
  · obtain ⟨a, _, rfl, _⟩ := h
    rfl
  · obtain ⟨a, ns, rfl, ⟨ws, hT, he⟩, hlen, q⟩ := h
    have nd := sc_check_facts.nd
    refine ⟨_, (pss_cons (ps_if (pt_not (pt_val (pe_callB call_isi (by rfl) M.isinstance (by decide +kernel) (pa_cons (pv 0) (pa_cons (pe_bltn (v := .ty "tuple") (by rfl) M.tuple (by decide +kernel) rfl) pa_nil))))) (pss_one ps_never) pss_nil) (pss_one (ps_for PassesOwn.never rfl (pi_enumT (by rfl) M.enumerate (pa_cons (pv 0) pa_nil)) (pg_tup rfl (pgs_cons (pg_name (i := 2) nd rfl (by first | exact Or.inl rfl | exact Or.inr rfl)) (pgs_cons (pg_name (i := 3) nd rfl (by first | exact Or.inl rfl | exact Or.inr rfl)) pgs_nil))) (pss_one (ps_if (pw_or (pt_cmpR op_eq (pv 2) (pv 1) (nomark _)) (pw_or1 (pt_not (pt_val (pe_c c_is_fact hr (by decide) (by rfl) (pa_cons (pv 3) pa_nil)))))).pt (pss_one ps_never) pss_nil))))), ?_⟩
    walk_at "rd"
    refine ⟨_, _, _, _, true, rfl, .ty "tuple", ty_tup hT, kit_ty (by decide +kernel), ?_⟩
    walk_at "rd"
    refine ⟨_, _, rfl, hT, ?_⟩
    refine for_it (walk_enumT (xs := ws)) (fun i σ H' => Same H H' ∧ ∃ t1 t2 : Option V, σ = [some (.ref a), some (.int 40), t1, t2]) ⟨Same.refl _, none, none, rfl⟩ (fun i σ H' _ h => h.1.tup hT) (fun i x σ H' H'' hi hP hy => ?_) (fun σ H' hP => q _ hP.1)
    obtain ⟨sm, x1, x2, rfl⟩ := hP
    obtain ⟨T, u, v, rfl, hT1, rfl, hu, hv⟩ := hy
    have eu : u = .int (i : Nat) := (Option.some.inj hu).symm
    subst eu
    obtain ⟨t, uu, rfl, hn, ht⟩ := RowsAt.at he hv
    have hi2 := (List.getElem?_eq_some_iff.mp hn).1
    refine ⟨T, _, rfl, sqt_new, rfl, ?_⟩
    walk_at "rd"
    refine ite2 (fun e => ?_) (fun e => ?_)
    · have := yesI e
      omega
    · have s2 := sm.trans (same_upd (o := .tup [.int (i : Nat), .ref t]) hT1)
      walk_at "rd"
      refine ⟨_, _, _, _, rfl, s2.tup ht, Int.le_refl _, fun H3 s3 => ?_⟩
      walk_at "rd"
      exact ⟨s2.trans s3, _, _, rfl⟩
/-! ### do_quarrel -/
def spQuarrel (K : PySem.W.Frag) : Sp := fun vs H Q _ => ∃ (p q : Addr) (x u y v : Int), vs = [.ref p, .ref q] ∧ SqT K H p [.int x, .int u, .int 0] ∧ SqT K H q [.int y, .int v, .int 0] ∧ Q (.bl (!decide (restBy (u - v) ((x - y).natAbs : Int) = 0))) H
theorem sc_do_quarrel : FnScope ["one", "other"] ["one", "other"] (defScope (topS 37)) := ⟨rfl, rfl, rfl, by decide +kernel, rfl, by decide +kernel, by decide +kernel⟩
theorem c_do_quarrel (D : Df K mg "do_quarrel" (topS 37)) (M : Md mg) (c_agree : Cal P w K mg base 2 "agree" spAgree) (c_gcd : Cal P w K mg base 1 "gcd" spGcd) : Cal P w K mg base 3 "do_quarrel" (spQuarrel K) := by
  refine cal_of D sc_do_quarrel (fun _ _ _ _ _ _ us hl => match us, hl with | [_, _], _ => rfl) (fun vs H Q E h => ?_) (fun f cdv A outer s H vs Q E hr h => ?_)
  · obtain ⟨_, _, _, _, _, _, rfl, _⟩ := h
    rfl
  · obtain ⟨p, r, x, u, y, v, rfl, h1, h2, q⟩ := h
    have nd := sc_do_quarrel.nd
    refine ⟨_, (pss_one (ps_ret (pe_not (pe_c c_agree hr (by decide) (by rfl) (pa_cons (pe_ix (kix_tup (K := K) rfl) (pv 0) pe_int (fun _ _ => rfl)) (pa_cons (pe_ix (kix_tup (K := K) rfl) (pv 1) pe_int (fun _ _ => rfl)) (pa_cons (pe_c c_gcd hr (by decide) (by rfl) (pa_cons (pe_c c_gcd hr (by decide) (by rfl) (pa_cons (pe_ix (kix_tup (K := K) rfl) (pv 0) pe_int (fun _ _ => rfl)) (pa_cons (pe_ix (kix_tup (K := K) rfl) (pv 1) pe_int (fun _ _ => rfl)) pa_nil))) (pa_cons (pe_op op_sub (pe_ix (kix_tup (K := K) rfl) (pv 0) pe_int (fun _ _ => rfl)) (pe_ix (kix_tup (K := K) rfl) (pv 1) pe_int (fun _ _ => rfl))) pa_nil))) pa_nil))))))), ?_⟩
    walk_at "rd"
    refine ⟨_, _, _, _, rfl, rfl, h1, atI_nat (j := 1) rfl, ?_⟩
    walk_at "rd"
    refine ⟨_, _, _, _, rfl, rfl, h2, atI_nat (j := 1) rfl, ?_⟩
    walk_at "rd"
    refine ⟨_, _, _, _, rfl, rfl, h1, atI_nat (j := 2) rfl, ?_⟩
    walk_at "rd"
    refine ⟨_, _, _, _, rfl, rfl, h2, atI_nat (j := 2) rfl, ?_⟩
    walk_at "rd"
    refine ⟨_, _, _, _, rfl, rfl, h1, atI_nat (j := 0) rfl, ?_⟩
    walk_at "rd"
    refine ⟨_, _, _, _, rfl, rfl, h2, atI_nat (j := 0) rfl, ?_⟩
    walk_at "rd"
    refine ⟨_, _, _, rfl, by omega, ?_⟩
    walk_at "rd"
    have e : Int.gcd (Int.gcd 0 0 : Int) (x - y) = (x - y).natAbs := by
      rw [show ((Int.gcd 0 0 : Nat) : Int) = 0 from rfl, Int.gcd_zero_left]
    unfold agreeB
    rw [e]
    exact q
/-! ### all_quarrels -/
theorem quar_bad {ns : List Int} {i j : Nat} {u v : Int} (hij : i < j) (hu : ns[i]? = some u) (hv : ns[j]? = some v) : (!decide (restBy (u - v) (((i : Int) - (j : Int)).natAbs : Int) = 0)) = badP ns ((i : Int), (j : Int)) := by
  rw [bad_at hu hv]
  unfold restBy
  rw [if_neg (by omega), show (((i : Int) - (j : Int)).natAbs : Int) = (j : Int) - (i : Int) by omega]
/-- which pair stands at a value -/
def pairAt (H : Hp) (v : V) : Int × Int := match v with
  | .ref q => (match H q with
    | some (.tup [.int a, .int b]) => (a, b)
    | _ => (0, 0))
  | _ => (0, 0)
theorem pairAt_ok {H : Hp} {v : V} {x : Int × Int} (h : RPt H v x) : pairAt H v = x ∧ ∃ q, v = .ref q ∧ H q = some (.tup [.int (pairAt H v).1, .int (pairAt H v).2]) := by
  obtain ⟨q, rfl, hq⟩ := h
  have e : pairAt H (.ref q) = x := by
    unfold pairAt
    simp only [hq]
  rw [e]
  exact ⟨rfl, q, rfl, hq⟩
theorem els_map {H : Hp} {ws : List V} {l : List (Int × Int)} (h : Els RPt H ws l) : ws.map (pairAt H) = l := by
  apply List.ext_getElem?
  intro i
  rw [List.getElem?_map]
  by_cases hi : i < ws.length
  · have hl : i < l.length := by rw [← h.1]; exact hi
    rw [List.getElem?_eq_getElem hi, List.getElem?_eq_getElem hl]
    have := pairAt_ok (h.2 i _ _ (List.getElem?_eq_getElem hi) (List.getElem?_eq_getElem hl))
    rw [Option.map_some, this.1]
  · have hl : ¬ i < l.length := by rw [← h.1]; exact hi
    rw [List.getElem?_eq_none (by omega), List.getElem?_eq_none (by omega)]
    rfl
theorem flat_len' {f : Nat → List (Int × Int)} {n : Nat} : ∀ m : Nat, (∀ i, i < m → (f i).length ≤ n) → ((List.range m).flatMap f).length ≤ m * n
  | 0, _ => by simp
  | m + 1, h => by
    have := flat_len' m fun i hi => h i (by omega)
    rw [flat_succ, List.length_append, Nat.add_mul]
    have h2 := h m (by omega)
    omega
theorem colP_len (ns : List Int) (j : Nat) : (colP ns j).length ≤ j := by
  unfold colP
  rw [List.length_map]
  have := List.length_filter_le (fun (i : Nat) => badP ns ((i : Int), (j : Int))) (List.range j)
  rw [List.length_range] at this
  exact this
def spAllQ (K : PySem.W.Frag) : Sp := fun vs H Q _ => ∃ (a : Addr) (ns : List Int), vs = [.ref a] ∧ RowsAt K H a ns ∧ ns.length ≤ 40 ∧ ∀ H' p ws, Same H H' → H p = none → H' p = some (.lst ws) → Els RPt H' ws (looseL ns) → Q (.ref p) H'
theorem sc_all_quarrels : FnScope ["facts", "found", "second", "fact", "first"] ["facts"] (defScope (topS 38)) := ⟨rfl, rfl, rfl, by decide +kernel, rfl, by decide +kernel, by decide +kernel⟩
theorem c_all_quarrels (D : Df K mg "all_quarrels" (topS 38)) (M : Md mg) (c_do_quarrel : Cal P w K mg base 3 "do_quarrel" (spQuarrel K)) : Cal P w K mg base 4 "all_quarrels" (spAllQ K) := by
  refine cal_of D sc_all_quarrels (fun _ _ _ _ _ _ us hl => match us, hl with | [_], _ => rfl) (fun vs H Q E h => ?_) (fun f cdv A outer s H vs Q E hr h => ?_)
  · obtain ⟨a, _, rfl, _⟩ := h
    rfl
  · obtain ⟨a, ns, rfl, ⟨ws, hT, he⟩, hlen, q⟩ := h
    have nd := sc_all_quarrels.nd
    refine ⟨_, (pss_cons (ps_set (i := 1) nd rfl (Or.inl rfl) (pe_lst pa_nil)) (pss_cons (ps_for PassesOwn.never rfl (pi_enumT (by rfl) M.enumerate (pa_cons (pv 0) pa_nil)) (pg_tup rfl (pgs_cons (pg_name (i := 2) nd rfl (by first | exact Or.inl rfl | exact Or.inr rfl)) (pgs_cons (pg_name (i := 3) nd rfl (by first | exact Or.inl rfl | exact Or.inr rfl)) pgs_nil))) (pss_one (ps_expr (pe_bm PySem.F.plainAttrs_list PySem.F.slot_list_extend PySem.F.type_list_extend mt_extend (pv 1) (pa_cons (pe_lc (own := [("first", 4)]) (g := gName 4) rfl nd (pi_range1 (by rfl) M.range (pa_cons (pv 2) pa_nil)) (blkOk_by (own := [("first", 4)]) (N := ["facts", "found", "second", "fact", "first"]) (sc := defScope (topS 38)) (by decide +kernel)) (fun _ _ _ _ _ => (pg_name (i := 4) nd rfl (by first | exact Or.inl rfl | exact Or.inr rfl))) (fun _ _ _ _ _ => (pts_one (pt_val (pe_c c_do_quarrel hr (by decide) (by rfl) (pa_cons (pe_ix (kix_tup (K := K) rfl) (pv 0) (pv 4) (fun _ _ => rfl)) (pa_cons (pv 3) pa_nil)))))) (fun _ _ _ _ _ => (pe_tup (pa_cons (pv 4) (pa_cons (pv 2) pa_nil))))) pa_nil))))) (pss_one (ps_ret (pe_callB cr_sortedPO (by rfl) M.sorted (by decide +kernel) (pa_cons (pv 1) pa_nil)))))), ?_⟩
    walk_at "rd"
    refine ⟨Nat.zero_le _, fun o ho => ?_⟩
    have s1 : Same H (upd H o (.lst [])) := same_upd ho
    walk_at "rd"
    refine ⟨_, _, rfl, s1.tup hT, ?_⟩
    have wl : ws.length = ns.length := RowsAt.len he
    refine for_it (walk_enumT (xs := ws)) (fun j σ H' => Same H H' ∧ ∃ fs, H' o = some (.lst fs) ∧ Els RPt H' fs ((List.range j).flatMap (colP ns)) ∧ ∃ t1 t2 t3 : Option V, σ = [some (.ref a), some (.ref o), t1, t2, t3]) ⟨s1, [], upd_same, Els.nil, none, none, none, rfl⟩ (fun i σ H' _ h => h.1.tup hT) (fun j x σ H' H'' hj hP hy => ?_) (fun σ H' hP => ?_)
    · obtain ⟨sm, fs, hf, hef, x1, x2, x3, rfl⟩ := hP
      obtain ⟨T, u, v, rfl, hT1, rfl, hu, hv⟩ := hy
      have eu : u = .int (j : Nat) := (Option.some.inj hu).symm
      subst eu
      obtain ⟨tj, vj, rfl, hnj, htj⟩ := RowsAt.at he hv
      have sT := same_upd (o := .tup [.int (j : Nat), .ref tj]) hT1
      have s2 := sm.trans sT
      refine ⟨T, _, rfl, sqt_new, rfl, ?_⟩
      walk_at "rd"
      refine ⟨.inl ⟨rfl, _, sql (sT _ _ hf)⟩, ?_⟩
      walk_at "rd"
      refine ⟨by omega, by omega, fun D hD => ?_⟩
      refine lc_data RPt stb_RPt ((List.range j).map fun (i : Nat) => ((i : Int), (j : Int))) (badP ns) (walk_range (lo := 0) (n := ((j : Nat) : Int).toNat)) (by simp) (Nat.lt_of_le_of_lt (show _ ≤ 1000 by omega) (by decide)) hD (fun _ _ => trivial) (fun i b x H3 H4 N1 N0 hb s3 hy hn1 hn0 => ?_) (fun H3 ws3 s3 hD3 he3 => ?_)
      · obtain ⟨rfl, rfl⟩ := hy
        rw [List.getElem?_map] at hb
        obtain ⟨i', hi', rfl⟩ := Option.map_eq_some_iff.mp hb
        obtain ⟨hlt, e'⟩ := List.getElem?_eq_some_iff.mp hi'
        rw [List.getElem_range] at e'
        subst e'
        rw [List.length_range] at hlt
        have hwi : ws[i]? = some ws[i] := List.getElem?_eq_getElem (by omega)
        obtain ⟨ti, vi, eti, hni, hti⟩ := RowsAt.at he hwi
        rw [eti] at hwi
        have sA := s2.trans s3
        walk_at "rd"
        refine ⟨_, _, _, _, rfl, rfl, sA.tup hT, at_of (Int.zero_add _) hwi, ?_⟩
        walk_at "rd"
        refine ⟨_, _, _, _, _, _, rfl, sA.tup hti, sA.tup htj, ?_⟩
        walk_at "rd"
        rw [quar_bad hlt hni hnj]
        refine ite2 (fun e => ?_) (fun e => ?_)
        · walk_at "rd"
          refine ⟨(show 2 ≤ sizeLine by decide), fun t ht => ?_⟩
          refine hn1 e _ _ (same_upd ht) ⟨t, rfl, ?_⟩
          rw [upd_same]
          show some (HO.tup [V.int (0 + (i : Int)), V.int (j : Int)]) = some (HO.tup [V.int (i : Int), V.int (j : Int)])
          rw [Int.zero_add]
        · exact hn0 (by simpa using e) _ (Same.refl _)
      · have hf3 := s3 _ _ (sT _ _ hf)
        have hfl : fs.length ≤ 1600 := by
          rw [hef.1]
          have h1 := flat_len' (f := colP ns) (n := 40) j (fun i hi => Nat.le_trans (colP_len ns i) (by omega))
          omega
        have hwl : ws3.length ≤ 40 := by
          rw [he3.1]
          refine Nat.le_trans (List.length_filter_le _ _) ?_
          rw [List.length_map, List.length_range]
          omega
        have ecol : ((List.range j).map fun (i : Nat) => ((i : Int), (j : Int))).filter (badP ns) = colP ns j := by
          rw [List.filter_map]
          rfl
        rw [ecol] at he3
        refine ⟨_, _, _, _, rfl, rfl, hf3, hD3, Nat.le_of_lt (Nat.lt_of_le_of_lt (show _ ≤ 1640 by omega) (by decide)), ?_⟩
        walk_at "rd"
        have sE : Ext H' H3 := (sT.trans s3).ext
        refine ⟨Same.mut (s2.trans s3) ho, fs ++ ws3, upd_same, ?_, _, _, _, rfl⟩
        rw [flat_succ]
        exact ((hef.ext stb_RPt sE).append he3).ext stb_RPt (ext_lst hf3)
    · obtain ⟨sm, fs, hf, hef, x1, x2, x3, rfl⟩ := hP
      rw [wl] at hef
      walk_at "rd"
      have hef' : Els RPt H' fs (foundL ns) := hef
      have hall : ∀ x ∈ fs, ∃ t, x = V.ref t ∧ H' t = some (.tup [.int (pairAt H' x).1, .int (pairAt H' x).2]) := fun x hx => by
        obtain ⟨i, hi⟩ := List.getElem?_of_mem hx
        obtain ⟨y, _, hr⟩ := hef'.atV hi
        exact (pairAt_ok hr).2
      refine ⟨_, _, pairAt H', rfl, sql hf, hall, fun ys p hs hst hp => ?_⟩
      have hl : ys.map (pairAt H') = looseL ns := by
        refine sorted_is ?_ ?_
        · rw [← els_map hef']
          exact hst.perm.map _
        · rw [List.pairwise_map]
          exact hs
      have sp := same_upd (o := .lst ys) hp
      refine q _ p ys (sm.trans sp) (sm.free hp) upd_same ?_
      rw [← hl]
      refine ⟨by rw [List.length_map], fun i v x h1 h2 => ?_⟩
      rw [List.getElem?_map, h1] at h2
      have ex : pairAt H' v = x := Option.some.inj h2
      obtain ⟨t, e1, e2⟩ := hall v (hst.perm.mem_iff.mp (List.mem_of_getElem? h1))
      rw [ex] at e2
      exact ⟨t, e1, sp _ _ e2⟩
/-! ### quarrels, fits, check_machine -/
def spQuarrels (K : PySem.W.Frag) : Sp := fun vs H Q _ => ∃ (a : Addr) (ns : List Int), vs = [.ref a] ∧ RowsAt K H a ns ∧ ns.length ≤ 40 ∧ ∀ H' p, Same H H' → TupOf K RPt H' p (looseL ns) → Q (.ref p) H'
theorem sc_quarrels : FnScope ["facts"] ["facts"] (defScope (topS 39)) := ⟨rfl, rfl, rfl, by decide +kernel, rfl, by decide +kernel, by decide +kernel⟩
theorem c_quarrels (D : Df K mg "quarrels" (topS 39)) (M : Md mg) (c_check_facts : Cal P w K mg base 4 "check_facts" (spChkFacts K)) (c_all_quarrels : Cal P w K mg base 4 "all_quarrels" (spAllQ K)) : Cal P w K mg base 5 "quarrels" (spQuarrels K) := by
  refine cal_of D sc_quarrels (fun _ _ _ _ _ _ us hl => match us, hl with | [_], _ => rfl) (fun vs H Q E h => ?_) (fun f cdv A outer s H vs Q E hr h => ?_)
  · obtain ⟨a, _, rfl, _⟩ := h
    rfl
  · obtain ⟨a, ns, rfl, hT, hlen, q⟩ := h
    have nd := sc_quarrels.nd
    refine ⟨_, (pss_cons (ps_expr (pe_c c_check_facts hr (by decide) (by rfl) (pa_cons (pv 0) (pa_cons (pe_gc (by rfl) M.MOST_FACTS) pa_nil)))) (pss_one (ps_ret (pe_callTy call_tuple_of (by rfl) M.tuple (by decide +kernel) (pa_cons (pe_c c_all_quarrels hr (by decide) (by rfl) (pa_cons (pv 0) pa_nil)) pa_nil))))), ?_⟩
    walk_at "rd"
    refine ⟨_, _, rfl, hT, hlen, fun H1 s1 => ?_⟩
    walk_at "rd"
    refine ⟨_, _, rfl, hT.same stb_RT s1, hlen, fun H2 p ws s2 hp hp2 he => ?_⟩
    refine ⟨_, _, rfl, .inl ⟨sql hp2, fun l hl => ?_⟩⟩
    have s3 := same_upd (o := .tup ws) hl
    exact q _ l ((s1.trans s2).trans s3) ⟨ws, sqt_new, he.ext stb_RPt s3.ext⟩
def spFits (K : PySem.W.Frag) : Sp := fun vs H Q _ => ∃ (a : Addr) (ns : List Int), vs = [.ref a] ∧ RowsAt K H a ns ∧ ns.length ≤ 40 ∧ ∀ H', Same H H' → Q (.bl (looseL ns).isEmpty) H'
theorem sc_fits : FnScope ["facts"] ["facts"] (defScope (topS 40)) := ⟨rfl, rfl, rfl, by decide +kernel, rfl, by decide +kernel, by decide +kernel⟩
theorem c_fits (D : Df K mg "fits" (topS 40)) (M : Md mg) (c_check_facts : Cal P w K mg base 4 "check_facts" (spChkFacts K)) (c_all_quarrels : Cal P w K mg base 4 "all_quarrels" (spAllQ K)) : Cal P w K mg base 5 "fits" (spFits K) := by
  refine cal_of D sc_fits (fun _ _ _ _ _ _ us hl => match us, hl with | [_], _ => rfl) (fun vs H Q E h => ?_) (fun f cdv A outer s H vs Q E hr h => ?_)
  · obtain ⟨a, _, rfl, _⟩ := h
    rfl
  · obtain ⟨a, ns, rfl, hT, hlen, q⟩ := h
    have nd := sc_fits.nd
    refine ⟨_, (pss_cons (ps_expr (pe_c c_check_facts hr (by decide) (by rfl) (pa_cons (pv 0) (pa_cons (pe_gc (by rfl) M.MOST_FACTS) pa_nil)))) (pss_one (ps_ret (pe_cmpR (op_eqD hr.units) (pe_c c_all_quarrels hr (by decide) (by rfl) (pa_cons (pv 0) pa_nil)) (pe_lst pa_nil) (nomark _))))), ?_⟩
    walk_at "rd"
    refine ⟨_, _, rfl, hT, hlen, fun H1 s1 => ?_⟩
    walk_at "rd"
    refine ⟨_, _, rfl, hT.same stb_RT s1, hlen, fun H2 p ws s2 hp hp2 he => ?_⟩
    walk_at "rd"
    refine ⟨Nat.zero_le _, fun e he' => ?_⟩
    have s3 := same_upd (o := .lst []) he'
    have he3 := he.ext stb_RPt s3.ext
    refine ⟨.list (pD (looseL ns)), .list (iD []), .lst (sql (s3 _ _ hp2)) (dpa_pairs ⟨he3.1, fun i v x h1 h2 => (he3.2 i v x h1 h2).rp⟩), .lst sql_new .nil, shaped_plst _, shaped_lst [], ?_⟩
    rw [ne_nilP]
    exact q _ ((s1.trans s2).trans s3)
def spChkM (K : PySem.W.Frag) : Sp := fun vs H Q _ => ∃ (a : Addr) (ns : List Int), vs = [.ref a] ∧ RowsAt K H a ns ∧ ns.length ≤ 40 ∧ looseL ns = [] ∧ ∀ H', Same H H' → Q .non H'
theorem sc_check_machine : FnScope ["facts", "found"] ["facts"] (defScope (topS 41)) := ⟨rfl, rfl, rfl, by decide +kernel, rfl, by decide +kernel, by decide +kernel⟩
theorem c_check_machine (D : Df K mg "check_machine" (topS 41)) (M : Md mg) (c_all_quarrels : Cal P w K mg base 4 "all_quarrels" (spAllQ K)) : Cal P w K mg base 5 "check_machine" (spChkM K) := by
  refine cal_of D sc_check_machine (fun _ _ _ _ _ _ us hl => match us, hl with | [_], _ => rfl) (fun vs H Q E h => ?_) (fun f cdv A outer s H vs Q E hr h => ?_)
  · obtain ⟨a, _, rfl, _⟩ := h
    rfl
  · obtain ⟨a, ns, rfl, hT, hlen, hno, q⟩ := h
    have nd := sc_check_machine.nd
    refine ⟨_, (pss_cons (ps_set (i := 1) nd rfl (Or.inl rfl) (pe_c c_all_quarrels hr (by decide) (by rfl) (pa_cons (pv 0) pa_nil))) (pss_one (ps_if (pt_cmpR (op_neD hr.units) (pv 1) (pe_lst pa_nil) (nomark _)) (pss_one ps_never) pss_nil))), ?_⟩
    walk_at "rd"
    refine ⟨_, _, rfl, hT, hlen, fun H2 p ws s2 hp hp2 he => ?_⟩
    walk_at "rd"
    refine ⟨Nat.zero_le _, fun e he' => ?_⟩
    have s3 := same_upd (o := .lst []) he'
    have he3 := he.ext stb_RPt s3.ext
    refine ⟨.list (pD (looseL ns)), .list (iD []), .lst (sql (s3 _ _ hp2)) (dpa_pairs ⟨he3.1, fun i v x h1 h2 => (he3.2 i v x h1 h2).rp⟩), .lst sql_new .nil, shaped_plst _, shaped_lst [], ?_⟩
    rw [ne_nilP, hno]
    walk_at "rd"
    exact q _ (s2.trans s3)
end
end K79
/-! What is known by the exact facts of a table. -/
namespace K79
open PySem PySem.Spec PyProof.Rows L2
local macro_rules | `(tactic| walk_at "rd1") => `(tactic| first | refine ⟨_, rfl, ?_⟩ | refine ⟨_, _, rfl, rfl, ?_⟩ | refine ⟨_, _, rfl, ?_⟩ | refine ⟨rfl, ?_⟩)
local macro_rules | `(tactic| walk_at "rd") => `(tactic| repeat walk_at "rd1")
theorem restBy_dvd (v q : Int) : q ∣ restBy v q - v := by
  unfold restBy
  split
  · rename_i h
    rw [h]
    exact ⟨0, by omega⟩
  · exact ⟨-(v / q), by have := Int.mul_ediv_add_emod v q; rw [Int.mul_neg]; omega⟩
theorem restBy_le (v q : Int) (hq : 0 ≤ q) : (restBy v q).natAbs ≤ max v.natAbs q.natAbs := by
  unfold restBy
  split
  · omega
  · have h1 := Int.emod_nonneg v (by assumption : ¬ q = 0)
    have h2 := Int.emod_lt_of_pos v (by omega : 0 < q)
    omega
/-- the table's own values agree with what its steps make -/
theorem kept_far {ns : List Int} (h : Agrees ns) {i : Nat} {v : Int} (hv : ns[i]? = some v) (x : Nat) : ((x : Int) - (i : Int)) ∣ v - valF 0 (stepsL ns) x := by
  have h1 := kept_agree (kept_of_agrees h) i x
  rw [newton i ns v hv] at h1
  rw [show v - valF 0 (stepsL ns) x = -(valF 0 (stepsL ns) x - v) by omega]
  exact (Int.dvd_neg).mpr h1
theorem lcm_mul_le (a b : Int) : Int.lcm a b ≤ a.natAbs * b.natAbs := by
  by_cases ha : a = 0
  · subst ha
    rw [Int.lcm_zero_left]
    exact Nat.zero_le _
  · by_cases hb : b = 0
    · subst hb
      rw [Int.lcm_zero_right]
      exact Nat.zero_le _
    · exact Int.lcm_le_natAbs_mul ha hb
section
variable {P : Program} {w : World} {K : PySem.W.Frag} {mg : Str → Option Value} {base : Heap}
structure Far (ns : List Int) (x : Nat) : Prop where
  len : ns.length ≤ 13
  small : ∀ v ∈ ns, v.natAbs < 2 ^ 100
  hx : x < 2 ^ 20
  no : looseL ns = []
def spKnown (K : PySem.W.Frag) : Sp := fun vs H Q _ => ∃ (a : Addr) (ns : List Int) (x : Nat), vs = [.ref a, .int (x : Int)] ∧ RowsAt K H a ns ∧ Far ns x ∧ ∀ H' p r m, Same H H' → SqT K H' p [.int r, .int m] → 0 ≤ m → m ∣ r - valF 0 (stepsL ns) x → Q (.ref p) H'
theorem sc_known_by : FnScope ["facts", "place", "found", "spot", "rest", "base", "shared"] ["facts", "place"] (defScope (topS 42)) := ⟨rfl, rfl, rfl, by decide +kernel, rfl, by decide +kernel, by decide +kernel⟩
theorem c_known_by (D : Df K mg "known_by" (topS 42)) (M : Md mg) (c_gcd : Cal P w K mg base 1 "gcd" spGcd) (c_met : Cal P w K mg base 3 "met" (spMet K)) (c_rest_by : Cal P w K mg base 1 "rest_by" spRestBy) : Cal P w K mg base 4 "known_by" (spKnown K) := by
  refine cal_of D sc_known_by (fun _ _ _ _ _ _ us hl => match us, hl with | [_, _], _ => rfl) (fun vs H Q E h => ?_) (fun f cdv A outer s H vs Q E hr h => ?_)
  · obtain ⟨a, _, _, rfl, _⟩ := h
    rfl
  · obtain ⟨a, ns, x, rfl, ⟨ws, hT, he⟩, hF, q⟩ := h
    have nd := sc_known_by.nd
    refine ⟨_, (pss_cons (ps_set (i := 2) nd rfl (Or.inl rfl) (pe_tup (pa_cons pe_int (pa_cons pe_int pa_nil)))) (pss_cons (ps_for PassesOwn.never rfl (pi_tup (pv 0)) (pg_tup rfl (pgs_cons (pg_name (i := 3) nd rfl (by first | exact Or.inl rfl | exact Or.inr rfl)) (pgs_cons (pg_name (i := 4) nd rfl (by first | exact Or.inl rfl | exact Or.inr rfl)) (pgs_cons (pg_name (i := 5) nd rfl (by first | exact Or.inl rfl | exact Or.inr rfl)) pgs_nil)))) (pss_cons (ps_set (i := 6) nd rfl (Or.inl rfl) (pe_c c_gcd hr (by decide) (by rfl) (pa_cons (pv 5) (pa_cons (pe_op op_sub (pv 1) (pv 3)) pa_nil)))) (pss_one (ps_set (i := 2) nd rfl (Or.inl rfl) (pe_c c_met hr (by decide) (by rfl) (pa_cons (pv 2) (pa_cons (pe_tup (pa_cons (pe_c c_rest_by hr (by decide) (by rfl) (pa_cons (pv 4) (pa_cons (pv 6) pa_nil))) (pa_cons (pv 6) pa_nil))) pa_nil))))))) (pss_one (ps_ret (pv 2))))), ?_⟩
    walk_at "rd"
    refine ⟨(show 2 ≤ sizeLine by decide), fun o ho => ?_⟩
    have s1 : Same H (upd H o (.tup [.int 0, .int 1])) := same_upd ho
    walk_at "rd"
    refine ⟨⟨_, s1.tup hT⟩, ?_⟩
    have wl : ws.length = ns.length := RowsAt.len he
    have hag := loose_nil.mp hF.no
    have hlen := hF.len
    have hx := hF.hx
    generalize hV : valF 0 (stepsL ns) x = V0 at *
    refine for_it (walk_tup (xs := ws)) (fun i σ H' => Same H H' ∧ ∃ (p : Addr) (r m : Int) (t1 t2 t3 t4 : Option V), σ = [some (.ref a), some (.int (x : Int)), some (.ref p), t1, t2, t3, t4] ∧ SqT K H' p [.int r, .int m] ∧ 0 ≤ m ∧ m ∣ r - V0 ∧ r.natAbs < 2 ^ 300 ∧ m.natAbs < 2 ^ (20 * i + 1))
      ⟨s1, o, 0, 1, none, none, none, none, rfl, sqt_new, by decide, Int.one_dvd _, by decide, by decide⟩ (fun i σ H' _ h => h.1.tup hT) (fun i y σ H' H'' hi hP hy => ?_) (fun σ H' hP => ?_)
    · obtain ⟨sm, p, r, m, t1, t2, t3, t4, rfl, hp, hm0, hmd, hrb, hmb⟩ := hP
      obtain ⟨rfl, hy⟩ := hy
      obtain ⟨t, u, rfl, hu, ht⟩ := RowsAt.at he hy
      refine ⟨t, _, rfl, sm.tup ht, rfl, ?_⟩
      walk_at "rd"
      have eg : (Int.gcd 0 ((x : Int) - (i : Int)) : Int) = (((x : Int) - (i : Int)).natAbs : Int) := by rw [Int.gcd_zero_left]
      rw [eg]
      generalize hq2 : (((x : Int) - (i : Int)).natAbs : Int) = q2
      have q20 : 0 ≤ q2 := by omega
      have hq2d : q2 ∣ u - V0 := by
        have h1 := kept_far hag hu x
        rw [hV] at h1
        rw [← hq2]
        exact Int.natAbs_dvd.mpr h1
      have hr2d : q2 ∣ restBy u q2 - V0 := by
        have h1 := restBy_dvd u q2
        rw [show restBy u q2 - V0 = (restBy u q2 - u) + (u - V0) by omega]
        exact Int.dvd_add h1 hq2d
      have hub := hF.small u (List.mem_of_getElem? hu)
      have hq2b : q2.natAbs < 2 ^ 20 := by omega
      refine ⟨q20, ?_⟩
      walk_at "rd"
      refine ⟨(show 2 ≤ sizeLine by decide), fun z hz => ?_⟩
      have sz := same_upd (o := .tup [.int (restBy u q2), .int q2]) hz
      have hr2b : (restBy u q2).natAbs < 2 ^ 300 := Nat.lt_of_le_of_lt (restBy_le u q2 q20) (Nat.max_lt.mpr ⟨Nat.lt_trans hub (by decide), Nat.lt_trans hq2b (by decide)⟩)
      have hmb2 : m.natAbs < 2 ^ 400 := Nat.lt_of_lt_of_le hmb (Nat.pow_le_pow_right (by decide) (by omega))
      have hgd : (Int.gcd m q2 : Int) ∣ restBy u q2 - r := by
        rw [show restBy u q2 - r = (restBy u q2 - V0) - (r - V0) by omega]
        exact Int.dvd_sub (Int.dvd_trans (Int.gcd_dvd_right _ _) hr2d) (Int.dvd_trans (Int.gcd_dvd_left _ _) hmd)
      refine ⟨p, z, r, m, restBy u q2, q2, rfl, sz.tup hp, sqt_new, hm0, q20, hmb2, Nat.lt_trans hq2b (by decide), Nat.lt_trans hrb (by decide), Nat.lt_trans hr2b (by decide), hgd, fun H3 p' r' s3 hp' d1 d2 hb => ?_⟩
      have hlb : Int.lcm m q2 ≤ m.natAbs * q2.natAbs := lcm_mul_le m q2
      have hlb2 : Int.lcm m q2 < 2 ^ (20 * (i + 1) + 1) := by
        refine Nat.lt_of_le_of_lt hlb ?_
        have e : 2 ^ (20 * (i + 1) + 1) = 2 ^ (20 * i + 1) * 2 ^ 20 := by
          rw [← Nat.pow_add]
          congr 1
        rw [e]
        exact Nat.mul_lt_mul'' hmb hq2b
      refine ⟨(sm.trans sz).trans s3, p', r', _, _, _, _, _, rfl, hp', by omega, ?_, ?_, ?_⟩
      · refine Int.coe_lcm_dvd ?_ ?_
        · rw [show r' - V0 = (r' - r) + (r - V0) by omega]
          exact Int.dvd_add d1 hmd
        · rw [show r' - V0 = (r' - restBy u q2) + (restBy u q2 - V0) by omega]
          exact Int.dvd_add d2 hr2d
      · rcases hb with hb | hb | hb
        · omega
        · omega
        · refine Nat.lt_trans hb (Nat.lt_of_lt_of_le hlb2 (Nat.pow_le_pow_right (by decide) (by omega)))
      · rw [Int.natAbs_natCast]
        exact hlb2
    · obtain ⟨sm, p, r, m, t1, t2, t3, t4, rfl, hp, hm0, hmd, hrb, hmb⟩ := hP
      walk_at "rd"
      exact q _ p r m sm hp hm0 hmd
theorem sc_known : FnScope ["facts", "place"] ["facts", "place"] (defScope (topS 43)) := ⟨rfl, rfl, rfl, by decide +kernel, rfl, by decide +kernel, by decide +kernel⟩
theorem c_known (D : Df K mg "known" (topS 43)) (M : Md mg) (c_check_facts : Cal P w K mg base 4 "check_facts" (spChkFacts K)) (c_check_integer : Cal P w K mg base 2 "check_integer" spChkInt) (c_check_machine : Cal P w K mg base 5 "check_machine" (spChkM K)) (c_known_by : Cal P w K mg base 4 "known_by" (spKnown K)) : Cal P w K mg base 6 "known" (spKnown K) := by
  refine cal_of D sc_known (fun _ _ _ _ _ _ us hl => match us, hl with | [_, _], _ => rfl) (fun vs H Q E h => ?_) (fun f cdv A outer s H vs Q E hr h => ?_)
  · obtain ⟨a, _, _, rfl, _⟩ := h
    rfl
  · obtain ⟨a, ns, x, rfl, hT, hF, q⟩ := h
    have nd := sc_known.nd
    refine ⟨_, (pss_cons (ps_expr (pe_c c_check_facts hr (by decide) (by rfl) (pa_cons (pv 0) (pa_cons (pe_gc (by rfl) M.MOST_FACTS) pa_nil)))) (pss_cons (ps_expr (pe_c c_check_integer hr (by decide) (by rfl) (pa_cons (pv 1) pa_nil))) (pss_cons (ps_expr (pe_c c_check_machine hr (by decide) (by rfl) (pa_cons (pv 0) pa_nil))) (pss_one (ps_ret (pe_c c_known_by hr (by decide) (by rfl) (pa_cons (pv 0) (pa_cons (pv 1) pa_nil)))))))), ?_⟩
    have hlen := hF.len
    walk_at "rd"
    refine ⟨_, _, rfl, hT, by omega, fun H1 s1 => ?_⟩
    walk_at "rd"
    refine ⟨_, _, rfl, hT.same stb_RT s1, by omega, hF.no, fun H2 s2 => ?_⟩
    walk_at "rd"
    exact ⟨_, _, _, rfl, hT.same stb_RT (s1.trans s2), hF, fun H3 p r m s3 => q H3 p r m ((s1.trans s2).trans s3)⟩
end
end K79
/-! The mathematics of polynomials with whole factors. -/
namespace K79
def evalP : List Int → Int → Int
  | [], _ => 0
  | a :: r, x => evalP r x * x + a
def zipM (t : Int) (as bs : List Int) : List Int := List.zipWith (fun a b => a + t * b) as bs
def grownL (ns ss : List Int) (t : Int) : List Int := zipM t (ns ++ [0]) ss
def strL (ss : List Int) (pl : Int) : List Int := List.zipWith (fun b h => b - pl * h) (0 :: ss) (ss ++ [0])
theorem evalP_snoc0 (x : Int) : ∀ l : List Int, evalP (l ++ [0]) x = evalP l x
  | [] => by simp [evalP]
  | a :: r => by
    show evalP (r ++ [0]) x * x + a = evalP r x * x + a
    rw [evalP_snoc0 x r]
theorem evalP_zeros (x : Int) (l : List Int) : ∀ m : Nat, evalP (l ++ List.replicate m 0) x = evalP l x
  | 0 => by simp
  | m + 1 => by
    rw [List.replicate_succ', ← List.append_assoc, evalP_snoc0, evalP_zeros x l m]
theorem evalP_zip (t x : Int) : ∀ as bs : List Int, as.length = bs.length → evalP (zipM t as bs) x = evalP as x + t * evalP bs x
  | [], [], _ => by simp [zipM, evalP]
  | [], _ :: _, h => by simp at h
  | _ :: _, [], h => by simp at h
  | a :: as, b :: bs, h => by
    have ih := evalP_zip t x as bs (by simpa using h)
    show evalP (zipM t as bs) x * x + (a + t * b) = evalP as x * x + a + t * (evalP bs x * x + b)
    rw [ih, Int.add_mul, Int.mul_add, Int.mul_assoc]
    omega
theorem evalP_grown {ns ss : List Int} (t x : Int) (h : ss.length = ns.length + 1) : evalP (grownL ns ss t) x = evalP ns x + t * evalP ss x := by
  unfold grownL
  rw [evalP_zip t x _ _ (by simp [h]), evalP_snoc0]
theorem strL_zip (ss : List Int) (pl : Int) : strL ss pl = zipM (-pl) (0 :: ss) (ss ++ [0]) := by
  unfold strL zipM
  congr 1
  funext b h
  rw [Int.neg_mul]
  omega
theorem evalP_str (ss : List Int) (pl x : Int) : evalP (strL ss pl) x = evalP ss x * (x - pl) := by
  rw [strL_zip, evalP_zip _ _ _ _ (by simp), evalP_snoc0]
  show evalP ss x * x + 0 + -pl * evalP ss x = _
  rw [Int.mul_sub, Int.neg_mul, Int.mul_comm pl]
  omega
theorem grownL_len {ns ss : List Int} (t : Int) (h : ss.length = ns.length + 1) : (grownL ns ss t).length = ns.length + 1 := by
  unfold grownL zipM
  simp [h]
theorem strL_len (ss : List Int) (pl : Int) : (strL ss pl).length = ss.length + 1 := by
  unfold strL
  simp
def ffP : Nat → List Int
  | 0 => [1]
  | k + 1 => strL (ffP k) (k : Int)
def ff (x : Int) : Nat → Int
  | 0 => 1
  | k + 1 => ff x k * (x - (k : Int))
theorem ffP_len : ∀ k, (ffP k).length = k + 1
  | 0 => rfl
  | k + 1 => by
    show (strL (ffP k) (k : Int)).length = _
    rw [strL_len, ffP_len k]
theorem evalP_ff (x : Int) : ∀ k, evalP (ffP k) x = ff x k
  | 0 => by simp [ffP, evalP, ff]
  | k + 1 => by
    show evalP (strL (ffP k) (k : Int)) x = ff x k * (x - (k : Int))
    rw [evalP_str, evalP_ff x k]
theorem ff_C (x : Nat) : ∀ k, ff (x : Int) k = (fact k : Int) * (C x k : Int)
  | 0 => by
    rw [C_zero]
    simp [ff, fact]
  | k + 1 => by
    show ff (x : Int) k * ((x : Int) - (k : Int)) = ((fact k * (k + 1) : Nat) : Int) * (C x (k + 1) : Int)
    rw [ff_C x k, Int.mul_assoc, ← C_mulI x k]
    push_cast
    rw [Int.mul_assoc, Int.mul_comm (C x (k + 1) : Int)]
theorem ff_self (k : Nat) : ff (k : Int) k = (fact k : Int) := by
  rw [ff_C, C_self]
  simp
/-- Newton's factors -/
def polyN (cs : List Int) : Nat → List Int
  | 0 => []
  | k + 1 => grownL (polyN cs k) (ffP k) (cs.getD k 0 / (fact k : Int))
def newtS (cs : List Int) (x : Int) : Nat → Int
  | 0 => 0
  | k + 1 => newtS cs x k + cs.getD k 0 / (fact k : Int) * ff x k
theorem polyN_len (cs : List Int) : ∀ k, (polyN cs k).length = k
  | 0 => rfl
  | k + 1 => by
    show (grownL (polyN cs k) (ffP k) _).length = k + 1
    rw [grownL_len _ (by rw [ffP_len, polyN_len cs k]), polyN_len cs k]
theorem evalP_poly (cs : List Int) (x : Int) : ∀ k, evalP (polyN cs k) x = newtS cs x k
  | 0 => rfl
  | k + 1 => by
    show evalP (grownL (polyN cs k) (ffP k) _) x = newtS cs x k + _
    rw [evalP_grown _ _ (by rw [ffP_len, polyN_len cs k]), evalP_poly cs x k, evalP_ff]
/-- the first k steps are multiples of the products -/
def WholeTo (cs : List Int) (k : Nat) : Prop := ∀ (j : Nat) (c : Int), j < k → cs[j]? = some c → (fact j : Int) ∣ c
theorem take_succ {cs : List Int} {k : Nat} {c : Int} (h : cs[k]? = some c) (x : Nat) : valF 0 (cs.take (k + 1)) x = valF 0 (cs.take k) x + c * (C x k : Int) := by
  rw [List.take_add_one, h, valF_append]
  have hk := (List.getElem?_eq_some_iff.mp h).1
  have e : (cs.take k).length = k := by
    rw [List.length_take]
    omega
  rw [e, Nat.zero_add]
  show _ + (c * (C x k : Int) + 0) = _
  omega
theorem newt_val {cs : List Int} (x : Nat) : ∀ k, k ≤ cs.length → WholeTo cs k → newtS cs (x : Int) k = valF 0 (cs.take k) x
  | 0, _, _ => by simp [newtS, valF]
  | k + 1, hk, h => by
    have hc : cs[k]? = some cs[k] := List.getElem?_eq_getElem (by omega)
    have ih := newt_val x k (by omega) fun j c hj hc => h j c (by omega) hc
    obtain ⟨t, ht⟩ := h k _ (by omega) hc
    have eg : cs.getD k 0 = cs[k] := by
      rw [List.getD_eq_getElem?_getD, hc]
      rfl
    have hf : (fact k : Int) ≠ 0 := by
      have := fact_pos k
      omega
    show newtS cs (x : Int) k + cs.getD k 0 / (fact k : Int) * ff (x : Int) k = _
    rw [take_succ hc, ih, eg, ht, Int.mul_ediv_cancel_left t hf, ff_C, ← Int.mul_assoc, Int.mul_comm t]
/-- what is left at the next place is the next step -/
theorem next_step {ns : List Int} {k : Nat} {v c : Int} (hv : ns[k]? = some v) (hc : (stepsL ns)[k]? = some c) : v - valF 0 ((stepsL ns).take k) k = c := by
  have h1 := newton k ns v hv
  have hk := (List.getElem?_eq_some_iff.mp hc).1
  have hsplit : stepsL ns = (stepsL ns).take k ++ c :: (stepsL ns).drop (k + 1) := by
    have e1 : (stepsL ns).drop k = c :: (stepsL ns).drop (k + 1) := by
      rw [List.drop_eq_getElem_cons hk]
      congr 1
      have := List.getElem?_eq_getElem hk
      rw [hc] at this
      exact (Option.some.inj this).symm
    rw [← e1, List.take_append_drop]
  have e : ((stepsL ns).take k).length = k := by
    rw [List.length_take]
    omega
  rw [hsplit, valF_append, e, Nat.zero_add] at h1
  have e2 : valF k (c :: (stepsL ns).drop (k + 1)) k = c := by
    show c * (C k k : Int) + valF (k + 1) _ k = c
    rw [valF_zero _ (k + 1) k (by omega), C_self]
    simp
  rw [e2] at h1
  omega
theorem next_eval {ns : List Int} {k : Nat} {v c : Int} (hv : ns[k]? = some v) (hc : (stepsL ns)[k]? = some c) (h : WholeTo (stepsL ns) k) : v - evalP (polyN (stepsL ns) k) (k : Int) = c := by
  have hk := (List.getElem?_eq_some_iff.mp hc).1
  rw [evalP_poly, newt_val k k (by omega) h]
  exact next_step hv hc
/-- a whole table's polynomial -/
theorem poly_val {ns : List Int} (h : WholeS (stepsL ns)) (x : Nat) : evalP (polyN (stepsL ns) ns.length) (x : Int) = valF 0 (stepsL ns) x := by
  have e := stepsL_len ns
  rw [evalP_poly, newt_val x ns.length (by omega) fun j c _ hc => h j c hc, ← e, List.take_length]
theorem poly_at {ns : List Int} (h : WholeS (stepsL ns)) {i : Nat} {v : Int} (hv : ns[i]? = some v) : evalP (polyN (stepsL ns) ns.length) (i : Int) = v := by
  rw [poly_val h, newton i ns v hv]
theorem evalP_agree (x y : Int) : ∀ l : List Int, x - y ∣ evalP l x - evalP l y
  | [] => by simp [evalP]
  | a :: r => by
    have e : evalP (a :: r) x - evalP (a :: r) y = (evalP r x - evalP r y) * x + evalP r y * (x - y) := by
      show evalP r x * x + a - (evalP r y * y + a) = _
      rw [Int.sub_mul, Int.mul_sub]
      omega
    rw [e]
    exact Int.dvd_add (Int.dvd_trans (evalP_agree x y r) (Int.dvd_mul_right _ _)) (Int.dvd_mul_left _ _)
/-! ### sizes -/
def Bnd (b : Nat) (l : List Int) : Prop := ∀ a ∈ l, a.natAbs < 2 ^ b
theorem Bnd.mono {b c : Nat} {l : List Int} (h : Bnd b l) (hbc : b ≤ c) : Bnd c l := fun a ha => Nat.lt_of_lt_of_le (h a ha) (Nat.pow_le_pow_right (by decide) hbc)
theorem zipM_mem {f : Int → Int → Int} {x : Int} : ∀ {as bs : List Int}, x ∈ List.zipWith f as bs → ∃ a b, a ∈ as ∧ b ∈ bs ∧ x = f a b
  | [], _, h => by simp at h
  | _ :: _, [], h => by simp at h
  | a :: as, b :: bs, h => by
    rw [List.zipWith_cons_cons] at h
    rcases List.mem_cons.mp h with e | h
    · exact ⟨a, b, List.mem_cons_self, List.mem_cons_self, e⟩
    · obtain ⟨a', b', h1, h2, h3⟩ := zipM_mem h
      exact ⟨a', b', List.mem_cons_of_mem _ h1, List.mem_cons_of_mem _ h2, h3⟩
theorem strL_bnd {ss : List Int} {b k : Nat} (h : Bnd b ss) (hk : k ≤ 14) : Bnd (b + 4) (strL ss (k : Int)) := fun x hx => by
  obtain ⟨u, v, hu, hv, rfl⟩ := zipM_mem hx
  have h0 : 0 < 2 ^ b := Nat.two_pow_pos b
  have h1 : u.natAbs < 2 ^ b := by
    rcases List.mem_cons.mp hu with e | hu
    · rw [e]
      exact h0
    · exact h u hu
  have h2 : v.natAbs < 2 ^ b := by
    rcases List.mem_append.mp hv with hv | hv
    · exact h v hv
    · have e : v = 0 := by simpa using hv
      rw [e]
      exact h0
  have h3 : ((k : Int) * v).natAbs ≤ 14 * v.natAbs := by
    rw [Int.natAbs_mul, Int.natAbs_natCast]
    exact Nat.mul_le_mul hk (Nat.le_refl _)
  have e : 2 ^ (b + 4) = 2 ^ b * 16 := by rw [Nat.pow_add]
  rw [e]
  omega
theorem ffP_bnd : ∀ k, k ≤ 14 → Bnd (4 * k + 1) (ffP k)
  | 0, _ => fun x hx => by
    have e : x = 1 := by simpa [ffP] using hx
    subst e
    decide
  | k + 1, hk => by
    have := strL_bnd (ffP_bnd k (by omega)) (show k ≤ 14 by omega)
    exact this.mono (by omega)
theorem polyN_bnd {cs : List Int} (h : Bnd 100 cs) : ∀ k, k ≤ 14 → ∀ a ∈ polyN cs k, a.natAbs ≤ k * 2 ^ 170
  | 0, _, a, ha => by simp [polyN] at ha
  | k + 1, hk, a, ha => by
    have ih := polyN_bnd h k (by omega)
    obtain ⟨u, v, hu, hv, rfl⟩ := zipM_mem (show a ∈ List.zipWith _ _ _ from ha)
    have h1 : u.natAbs ≤ k * 2 ^ 170 := by
      rcases List.mem_append.mp hu with hu | hu
      · exact ih u hu
      · have e : u = 0 := by simpa using hu
        rw [e]
        exact Nat.zero_le _
    have h2 : v.natAbs < 2 ^ 57 := (ffP_bnd k (by omega)).mono (show 4 * k + 1 ≤ 57 by omega) v hv
    have h3 : (cs.getD k 0 / (fact k : Int)).natAbs ≤ 2 ^ 100 := by
      have h4 : (cs.getD k 0).natAbs ≤ 2 ^ 100 := by
        rw [List.getD_eq_getElem?_getD]
        cases hc : cs[k]? with
        | none => exact Nat.zero_le _
        | some c => exact Nat.le_of_lt (h c (List.mem_of_getElem? hc))
      have h5 : (cs.getD k 0 / (fact k : Int)).natAbs ≤ (cs.getD k 0).natAbs := Int.natAbs_ediv_le_natAbs _ _
      omega
    have h6 : (cs.getD k 0 / (fact k : Int) * v).natAbs ≤ 2 ^ 100 * 2 ^ 57 := by
      rw [Int.natAbs_mul]
      exact Nat.mul_le_mul h3 (Nat.le_of_lt h2)
    have h7 : 2 ^ 100 * 2 ^ 57 ≤ 2 ^ 170 := by decide
    have h8 : (u + cs.getD k 0 / (fact k : Int) * v).natAbs ≤ u.natAbs + (cs.getD k 0 / (fact k : Int) * v).natAbs := Int.natAbs_add_le _ _
    rw [Nat.add_mul, Nat.one_mul]
    omega
theorem polyN_bnd2 {cs : List Int} (h : Bnd 100 cs) {k : Nat} (hk : k ≤ 14) : Bnd 180 (polyN cs k) := fun a ha => by
  have h1 := polyN_bnd h k hk a ha
  have h2 : k * 2 ^ 170 ≤ 14 * 2 ^ 170 := Nat.mul_le_mul hk (Nat.le_refl _)
  exact Nat.lt_of_le_of_lt (Nat.le_trans h1 h2) (by decide)
theorem evalP_bnd {b : Nat} {x : Int} (hx : x.natAbs < 2 ^ 20) : ∀ l : List Int, Bnd b l → (evalP l x).natAbs < 2 ^ (b + 21 * l.length)
  | [], _ => Nat.two_pow_pos _
  | a :: r, h => by
    have ih := evalP_bnd hx r fun c hc => h c (List.mem_cons_of_mem _ hc)
    have h1 := h a List.mem_cons_self
    have h2 : (evalP r x * x).natAbs < 2 ^ (b + 21 * r.length) * 2 ^ 20 := by
      rw [Int.natAbs_mul]
      exact Nat.mul_lt_mul'' ih hx
    have h3 : (evalP r x * x + a).natAbs ≤ (evalP r x * x).natAbs + a.natAbs := Int.natAbs_add_le _ _
    have h4 : 2 ^ b ≤ 2 ^ (b + 21 * r.length) * 2 ^ 20 := by
      rw [← Nat.pow_add]
      exact Nat.pow_le_pow_right (by decide) (by omega)
    have e : 2 ^ (b + 21 * (a :: r).length) = 2 ^ (b + 21 * r.length) * 2 ^ 20 * 2 := by
      rw [List.length_cons, ← Nat.pow_add, ← Nat.pow_succ]
      congr 1
    show (evalP r x * x + a).natAbs < _
    omega
end K79
/-! Polynomials: fractions, values, points. -/
namespace K79
open PySem PySem.Spec PyProof.Rows L2
local macro_rules | `(tactic| walk_at "rd1") => `(tactic| first | refine ⟨_, rfl, ?_⟩ | refine ⟨_, _, rfl, rfl, ?_⟩ | refine ⟨_, _, rfl, ?_⟩ | refine ⟨rfl, ?_⟩)
local macro_rules | `(tactic| walk_at "rd") => `(tactic| repeat walk_at "rd1")
/-- whole factors as fractions -/
def fracL (as : List Int) : List (Int × Int) := as.map fun a => (a, 1)
theorem fracL_len (as : List Int) : (fracL as).length = as.length := by
  unfold fracL
  rw [List.length_map]
theorem fracL_of {as : List Int} {i : Nat} {x : Int × Int} (h : (fracL as)[i]? = some x) : ∃ a, as[i]? = some a ∧ x = (a, 1) := by
  unfold fracL at h
  rw [List.getElem?_map] at h
  obtain ⟨a, ha, rfl⟩ := Option.map_eq_some_iff.mp h
  exact ⟨a, ha, rfl⟩
abbrev FracAt (K : PySem.W.Frag) (H : Hp) (a : Addr) (as : List Int) : Prop := TupOf K (RP K) H a (fracL as)
theorem FracAt.at {K : PySem.W.Frag} {H : Hp} {as : List Int} {vs : List V} (h : Els (RP K) H vs (fracL as)) {i : Nat} {v : V} (hv : vs[i]? = some v) : ∃ q u, v = .ref q ∧ as[i]? = some u ∧ SqT K H q [.int u, .int 1] := by
  obtain ⟨x, hx, q, rfl, hq⟩ := h.atV hv
  obtain ⟨u, hu, rfl⟩ := fracL_of hx
  exact ⟨q, u, rfl, hu, hq⟩
/-- the points of a table -/
def ptsL (ns : List Int) : List (Int × Int) := (List.range ns.length).map fun (i : Nat) => ((i : Int), ns.getD i 0)
theorem ptsL_len (ns : List Int) : (ptsL ns).length = ns.length := by
  unfold ptsL
  rw [List.length_map, List.length_range]
theorem ptsL_at {ns : List Int} {i : Nat} {u : Int} (h : ns[i]? = some u) : (ptsL ns)[i]? = some ((i : Int), u) := by
  have hi := (List.getElem?_eq_some_iff.mp h).1
  unfold ptsL
  rw [List.getElem?_map, List.getElem?_range hi]
  show some ((i : Int), ns.getD i 0) = _
  rw [getD_some h]
theorem ptsL_of {ns : List Int} {i : Nat} {x : Int × Int} (h : (ptsL ns)[i]? = some x) : ∃ u, ns[i]? = some u ∧ x = ((i : Int), u) := by
  have hi := (List.getElem?_eq_some_iff.mp h).1
  rw [ptsL_len] at hi
  have hu : ns[i]? = some ns[i] := List.getElem?_eq_getElem hi
  rw [ptsL_at hu] at h
  exact ⟨_, hu, (Option.some.inj h).symm⟩
abbrev PtsAt (K : PySem.W.Frag) (H : Hp) (a : Addr) (ns : List Int) : Prop := TupOf K (RP K) H a (ptsL ns)
theorem PtsAt.at {K : PySem.W.Frag} {H : Hp} {ns : List Int} {vs : List V} (h : Els (RP K) H vs (ptsL ns)) {i : Nat} {v : V} (hv : vs[i]? = some v) : ∃ q u, v = .ref q ∧ ns[i]? = some u ∧ SqT K H q [.int (i : Int), .int u] := by
  obtain ⟨x, hx, q, rfl, hq⟩ := h.atV hv
  obtain ⟨u, hu, rfl⟩ := ptsL_of hx
  exact ⟨q, u, rfl, hu, hq⟩
theorem ne_nilPt {l : List (Int × Int)} : PyData.eqv (.tuple (pD l)) (.tuple (iD [])) = l.isEmpty := by
  show PyData.eqvAll (pD l) [] = _
  rw [eqvAll_nil, isE_map]
theorem isE_false {α : Type} {l : List α} (h : l ≠ []) : l.isEmpty = false := by
  cases l with
  | nil => exact absurd rfl h
  | cons _ _ => rfl
theorem len_ne {α : Type} {l : List α} (h : 0 < l.length) : l ≠ [] := fun e => by
  subst e
  simp at h
section
variable {P : Program} {w : World} {K : PySem.W.Frag} {mg : Str → Option Value} {base : Heap}
def spIsFrac (K : PySem.W.Frag) : Sp := fun vs H Q _ => ∃ (q : Addr) (a : Int), vs = [.ref q] ∧ SqT K H q [.int a, .int 1] ∧ ∀ H', Same H H' → Q (.bl true) H'
theorem sc_is_fraction : FnScope ["value"] ["value"] (defScope (topS 45)) := ⟨rfl, rfl, rfl, by decide +kernel, rfl, by decide +kernel, by decide +kernel⟩
theorem c_is_fraction (D : Df K mg "is_fraction" (topS 45)) (M : Md mg) (c_are_integers : Cal P w K mg base 2 "are_integers" (spAreInts K)) (c_gcd : Cal P w K mg base 1 "gcd" spGcd) : Cal P w K mg base 3 "is_fraction" (spIsFrac K) := by
  refine cal_of D sc_is_fraction (fun _ _ _ _ _ _ us hl => match us, hl with | [_], _ => rfl) (fun vs H Q E h => ?_) (fun f cdv A outer s H vs Q E hr h => ?_)
  · obtain ⟨a, _, rfl, _⟩ := h
    rfl
  · obtain ⟨a, x, rfl, hT, q⟩ := h
    have nd := sc_is_fraction.nd
    refine ⟨_, (pss_one (ps_ret (pe_and (pe_c c_are_integers hr (by decide) (by rfl) (pa_cons (pv 0) (pa_cons pe_int pa_nil))) (pe_and (pe_cmpR op_ge (pe_ix (kix_tup (K := K) rfl) (pv 0) pe_int (fun _ _ => rfl)) pe_int (nomark _)) (pe_one (pe_cmpR op_eq (pe_c c_gcd hr (by decide) (by rfl) (pa_cons (pe_ix (kix_tup (K := K) rfl) (pv 0) pe_int (fun _ _ => rfl)) (pa_cons (pe_ix (kix_tup (K := K) rfl) (pv 0) pe_int (fun _ _ => rfl)) pa_nil))) pe_int (nomark _))))))), ?_⟩
    walk_at "rd"
    refine ⟨a, [x, 1], rfl, (show 2 < sizeLine by decide), hT, fun H1 s1 => ?_⟩
    walk_at "rd"
    refine ⟨_, _, _, _, rfl, rfl, s1.tup hT, atI_nat (j := 1) rfl, ?_⟩
    walk_at "rd"
    refine ⟨_, _, _, _, rfl, rfl, s1.tup hT, atI_nat (j := 0) rfl, ?_⟩
    walk_at "rd"
    refine ⟨_, _, _, _, rfl, rfl, s1.tup hT, atI_nat (j := 1) rfl, ?_⟩
    walk_at "rd"
    have e : (Int.gcd x 1 : Int) = 1 := by rw [Int.gcd_one_right]; rfl
    rw [e]
    exact q _ s1
def spChkFac (K : PySem.W.Frag) : Sp := fun vs H Q _ => ∃ (a : Addr) (as : List Int), vs = [.ref a] ∧ FracAt K H a as ∧ as ≠ [] ∧ as.length ≤ 13 ∧ ∀ H', Same H H' → Q .non H'
theorem sc_check_factors : FnScope ["factors", "at", "factor"] ["factors"] (defScope (topS 46)) := ⟨rfl, rfl, rfl, by decide +kernel, rfl, by decide +kernel, by decide +kernel⟩
theorem c_check_factors (D : Df K mg "check_factors" (topS 46)) (M : Md mg) (c_is_fraction : Cal P w K mg base 3 "is_fraction" (spIsFrac K)) : Cal P w K mg base 4 "check_factors" (spChkFac K) := by
  refine cal_of D sc_check_factors (fun _ _ _ _ _ _ us hl => match us, hl with | [_], _ => rfl) (fun vs H Q E h => ?_) (fun f cdv A outer s H vs Q E hr h => ?_)
  · obtain ⟨a, _, rfl, _⟩ := h
    rfl
  · obtain ⟨a, as, rfl, ⟨ws, hT, he⟩, hne, hlen, q⟩ := h
    have nd := sc_check_factors.nd
    refine ⟨_, (pss_cons (ps_if (pw_or (pt_not (pt_val (pe_callB call_isi (by rfl) M.isinstance (by decide +kernel) (pa_cons (pv 0) (pa_cons (pe_bltn (v := .ty "tuple") (by rfl) M.tuple (by decide +kernel) rfl) pa_nil))))) (pw_or1 (pt_cmpR (op_eqD hr.units) (pv 0) (pe_tup pa_nil) (nomark _)))).pt (pss_one ps_never) pss_nil) (pss_one (ps_for PassesOwn.never rfl (pi_enumT (by rfl) M.enumerate (pa_cons (pv 0) pa_nil)) (pg_tup rfl (pgs_cons (pg_name (i := 1) nd rfl (by first | exact Or.inl rfl | exact Or.inr rfl)) (pgs_cons (pg_name (i := 2) nd rfl (by first | exact Or.inl rfl | exact Or.inr rfl)) pgs_nil))) (pss_one (ps_if (pw_or (pt_cmpR op_gt (pv 1) (pe_gc (by rfl) M.MOST_DEGREE) (nomark _)) (pw_or1 (pt_not (pt_val (pe_c c_is_fraction hr (by decide) (by rfl) (pa_cons (pv 2) pa_nil)))))).pt (pss_one ps_never) pss_nil))))), ?_⟩
    walk_at "rd"
    refine ⟨_, _, _, _, true, rfl, .ty "tuple", ty_tup hT, kit_ty (by decide +kernel), ?_⟩
    walk_at "rd"
    refine ⟨(show 0 ≤ sizeLine by decide), fun p hp => ?_⟩
    have s1 : Same H (upd H p (.tup [])) := same_upd hp
    refine ⟨.tuple (pD (fracL as)), .tuple (iD []), .tup (s1.tup hT) (dpa_pairs (he.ext stb_RP s1.ext)), .tup sqt_new .nil, shaped_ptup _, shaped_tup [], ?_⟩
    rw [ne_nilPt, isE_false (fun e => hne (by unfold fracL at e; simpa using e))]
    walk_at "rd"
    refine ⟨_, _, rfl, s1.tup hT, ?_⟩
    refine for_it (walk_enumT (xs := ws)) (fun i σ H' => Same H H' ∧ ∃ x y : Option V, σ = [some (.ref a), x, y]) ⟨s1, _, _, rfl⟩ (fun i σ H' _ h => h.1.tup hT) (fun i x σ H' H'' hi hP hy => ?_) (fun σ H' hP => q _ hP.1)
    obtain ⟨sm, x1, x2, rfl⟩ := hP
    obtain ⟨T, u, v, rfl, hT1, rfl, hu, hv⟩ := hy
    have eu : u = .int (i : Nat) := (Option.some.inj hu).symm
    subst eu
    obtain ⟨t, n, rfl, hn, ht⟩ := FracAt.at he hv
    have hi2 := (List.getElem?_eq_some_iff.mp hn).1
    refine ⟨T, _, rfl, sqt_new, rfl, ?_⟩
    walk_at "rd"
    refine ite2 (fun e => ?_) (fun e => ?_)
    · have h1 : (12 : Int) < (i : Int) := of_decide_eq_true e
      omega
    · have s2 := sm.trans (same_upd (o := .tup [.int (i : Nat), .ref t]) hT1)
      walk_at "rd"
      refine ⟨_, _, rfl, s2.tup ht, fun H3 s3 => ?_⟩
      walk_at "rd"
      exact ⟨s2.trans s3, _, _, rfl⟩
/-! ### value_at, value_of -/
theorem drop_back {α : Type} {l : List α} {i : Nat} {x : α} (hi : i < l.length) (h : l[l.length - 1 - i]? = some x) : l.drop (l.length - (i + 1)) = x :: l.drop (l.length - i) := by
  have hlt : l.length - 1 - i < l.length := by omega
  have e : l.length - (i + 1) = l.length - 1 - i := by omega
  rw [e, List.drop_eq_getElem_cons hlt]
  have e2 := List.getElem?_eq_getElem hlt
  rw [h] at e2
  rw [← Option.some.inj e2, show l.length - 1 - i + 1 = l.length - i by omega]
theorem Bnd.drop {b : Nat} {l : List Int} (h : Bnd b l) (n : Nat) : Bnd b (l.drop n) := fun a ha => h a (List.mem_of_mem_drop ha)
theorem sm_eval {l : List Int} {x : Int} (hx : x.natAbs < 2 ^ 20) (hb : Bnd 200 l) (hl : l.length ≤ 14) : Sm (evalP l x) := Nat.lt_of_lt_of_le (evalP_bnd hx l hb) (Nat.pow_le_pow_right (by decide) (by omega))
theorem sm_pl {x : Int} (hx : x.natAbs < 2 ^ 20) : Sm x := Nat.lt_trans hx (by decide)
theorem sm_200 {x : Int} (hx : x.natAbs < 2 ^ 200) : Sm x := Nat.lt_trans hx (by decide)
theorem sm_1 : Sm 1 := by decide
structure PolyOk (as : List Int) (x : Int) : Prop where
  len : as.length ≤ 13
  b : Bnd 200 as
  hx : x.natAbs < 2 ^ 20
def spValueAt (K : PySem.W.Frag) : Sp := fun vs H Q _ => ∃ (a : Addr) (as : List Int) (x : Int), vs = [.ref a, .int x] ∧ FracAt K H a as ∧ PolyOk as x ∧ ∀ H' p, Same H H' → H' p = some (.tup [.int (evalP as x), .int 1]) → Q (.ref p) H'
theorem sc_value_at : FnScope ["factors", "place", "top", "bottom", "first", "second", "shared"] ["factors", "place"] (defScope (topS 47)) := ⟨rfl, rfl, rfl, by decide +kernel, rfl, by decide +kernel, by decide +kernel⟩
theorem c_value_at (D : Df K mg "value_at" (topS 47)) (M : Md mg) (c_gcd : Cal P w K mg base 1 "gcd" spGcd) : Cal P w K mg base 2 "value_at" (spValueAt K) := by
  refine cal_of D sc_value_at (fun _ _ _ _ _ _ us hl => match us, hl with | [_, _], _ => rfl) (fun vs H Q E h => ?_) (fun f cdv A outer s H vs Q E hr h => ?_)
  · obtain ⟨a, _, _, rfl, _⟩ := h
    rfl
  · obtain ⟨a, as, x, rfl, ⟨ws, hT, he⟩, hO, q⟩ := h
    have nd := sc_value_at.nd
    refine ⟨_, (pss_cons (ps_asg (pe_tup (pa_cons pe_int (pa_cons pe_int pa_nil))) (pg_tup rfl (pgs_cons (pg_name (i := 2) nd rfl (by first | exact Or.inl rfl | exact Or.inr rfl)) (pgs_cons (pg_name (i := 3) nd rfl (by first | exact Or.inl rfl | exact Or.inr rfl)) pgs_nil)))) (pss_cons (ps_for PassesOwn.never rfl (pi_reversed (by rfl) M.reversed (pa_cons (pe_callTy call_list_of (by rfl) M.list (by decide +kernel) (pa_cons (pv 0) pa_nil)) pa_nil)) (pg_tup rfl (pgs_cons (pg_name (i := 4) nd rfl (by first | exact Or.inl rfl | exact Or.inr rfl)) (pgs_cons (pg_name (i := 5) nd rfl (by first | exact Or.inl rfl | exact Or.inr rfl)) pgs_nil))) (pss_cons (ps_par (i := 2) (j := 3) rfl nd rfl rfl (by decide) rfl rfl (pa_cons (pe_op op_add (pe_op op_mulW (pe_op op_mulW (pv 2) (pv 1)) (pv 5)) (pe_op op_mulW (pv 4) (pv 3))) (pa_cons (pe_op op_mulW (pv 3) (pv 5)) pa_nil)) (by rfl)) (pss_cons (ps_set (i := 6) nd rfl (Or.inl rfl) (pe_c c_gcd hr (by decide) (by rfl) (pa_cons (pv 2) (pa_cons (pv 3) pa_nil)))) (pss_one (ps_par (i := 2) (j := 3) rfl nd rfl rfl (by decide) rfl rfl (pa_cons (pe_op op_fdivW (pv 2) (pv 6)) (pa_cons (pe_op op_fdivW (pv 3) (pv 6)) pa_nil)) (by rfl)))))) (pss_one (ps_ret (pe_tup (pa_cons (pv 2) (pa_cons (pv 3) pa_nil))))))), ?_⟩
    have hlen := hO.len
    have wl : ws.length = as.length := by rw [he.1, fracL_len]
    walk_at "rd"
    refine ⟨(show 2 ≤ sizeLine by decide), fun o ho => ?_⟩
    have s1 : Same H (upd H o (.tup [.int 0, .int 1])) := same_upd ho
    refine ⟨o, _, rfl, sqt_new, rfl, ?_⟩
    walk_at "rd"
    refine ⟨_, _, rfl, .inr (s1.tup hT), fun l hl => ?_⟩
    have s2 := s1.trans (same_upd (o := .lst ws) hl)
    refine ⟨_, _, rfl, sql_new, ?_⟩
    generalize hH2 : upd (upd H o (.tup [.int 0, .int 1])) l (.lst ws) = H2 at *
    have hL2 : SqL K H2 l ws := by
      rw [← hH2]
      exact sql_new
    refine for_it (walk_rev (xs := ws)) (fun i σ H' => Same H2 H' ∧ ∃ t1 t2 t3 : Option V, σ = [some (.ref a), some (.int x), some (.int (evalP (as.drop (as.length - i)) x)), some (.int 1), t1, t2, t3]) ⟨Same.refl _, none, none, none, ?_⟩ (fun i σ H' _ h => h.1.seq hL2) (fun i y σ H' H'' hi hP hy => ?_) (fun σ H' hP => ?_)
    · rw [Nat.sub_zero, List.drop_length]
      rfl
    · obtain ⟨sm, x1, x2, x3, rfl⟩ := hP
      obtain ⟨rfl, hyy⟩ := hy
      obtain ⟨t, n, rfl, hn, ht⟩ := FracAt.at he hyy
      rw [wl] at hn hi
      have sA := s2.trans sm
      have edrop := drop_back hi hn
      have hsm : Sm (evalP (as.drop (as.length - i)) x) := sm_eval hO.hx (hO.b.drop _) (by rw [List.length_drop]; omega)
      have hnb : Sm n := sm_200 (hO.b n (List.mem_of_getElem? hn))
      have hsm2 : Sm (evalP (as.drop (as.length - i)) x * x) := by
        have h1 := evalP_bnd hO.hx (as.drop (as.length - i)) (hO.b.drop _)
        have h2 : (evalP (as.drop (as.length - i)) x * x).natAbs < 2 ^ (200 + 21 * (as.drop (as.length - i)).length) * 2 ^ 20 := by
          rw [Int.natAbs_mul]
          exact Nat.mul_lt_mul'' h1 hO.hx
        rw [← Nat.pow_add] at h2
        exact Nat.lt_of_lt_of_le h2 (Nat.pow_le_pow_right (by decide) (by rw [List.length_drop]; omega))
      refine ⟨t, _, rfl, sA.tup ht, rfl, ?_⟩
      walk_at "rd"
      refine ⟨sm_mul hsm (sm_pl hO.hx), ?_⟩
      walk_at "rd"
      refine ⟨sm_mul hsm2 sm_1, ?_⟩
      walk_at "rd"
      refine ⟨sm_mul hnb sm_1, ?_⟩
      walk_at "rd"
      refine ⟨sm_mul sm_1 sm_1, ?_⟩
      walk_at "rd"
      have eg : ∀ z : Int, (Int.gcd z (1 * 1) : Int) = 1 := fun z => by rw [Int.mul_one, Int.gcd_one_right]; rfl
      rw [eg]
      refine ⟨sm_div (by decide) sm_1, ?_⟩
      walk_at "rd"
      refine ⟨sm_div (by decide) sm_1, ?_⟩
      walk_at "rd"
      refine ⟨sm, some (.int n), some (.int 1), some (.int 1), ?_⟩
      rw [edrop]
      show _ = [some (V.ref a), some (V.int x), some (V.int (evalP (as.drop (as.length - i)) x * x + n)), some (V.int 1), _, _, _]
      show [some (V.ref a), some (V.int x), some (V.int ((evalP (as.drop (as.length - i)) x * x * 1 + n * 1) / 1)), some (V.int (1 * 1 / 1)), _, _, _] = _
      rw [Int.ediv_one, Int.mul_one, Int.mul_one]
      rfl
    · obtain ⟨sm, x1, x2, x3, rfl⟩ := hP
      rw [wl, Nat.sub_self, List.drop_zero]
      walk_at "rd"
      refine ⟨(show 2 ≤ sizeLine by decide), fun p hp => ?_⟩
      exact q _ p ((s2.trans sm).trans (same_upd hp)) upd_same
def spValueOf (K : PySem.W.Frag) : Sp := fun vs H Q _ => ∃ (a : Addr) (as : List Int) (x : Int), vs = [.ref a, .int x] ∧ FracAt K H a as ∧ as ≠ [] ∧ PolyOk as x ∧ ∀ H' p, Same H H' → H' p = some (.tup [.int (evalP as x), .int 1]) → Q (.ref p) H'
theorem sc_value_of : FnScope ["factors", "place"] ["factors", "place"] (defScope (topS 48)) := ⟨rfl, rfl, rfl, by decide +kernel, rfl, by decide +kernel, by decide +kernel⟩
theorem c_value_of (D : Df K mg "value_of" (topS 48)) (M : Md mg) (c_check_factors : Cal P w K mg base 4 "check_factors" (spChkFac K)) (c_check_integer : Cal P w K mg base 2 "check_integer" spChkInt) (c_value_at : Cal P w K mg base 2 "value_at" (spValueAt K)) : Cal P w K mg base 5 "value_of" (spValueOf K) := by
  refine cal_of D sc_value_of (fun _ _ _ _ _ _ us hl => match us, hl with | [_, _], _ => rfl) (fun vs H Q E h => ?_) (fun f cdv A outer s H vs Q E hr h => ?_)
  · obtain ⟨a, _, _, rfl, _⟩ := h
    rfl
  · obtain ⟨a, as, x, rfl, hT, hne, hO, q⟩ := h
    have nd := sc_value_of.nd
    refine ⟨_, (pss_cons (ps_expr (pe_c c_check_factors hr (by decide) (by rfl) (pa_cons (pv 0) pa_nil))) (pss_cons (ps_expr (pe_c c_check_integer hr (by decide) (by rfl) (pa_cons (pv 1) pa_nil))) (pss_one (ps_ret (pe_c c_value_at hr (by decide) (by rfl) (pa_cons (pv 0) (pa_cons (pv 1) pa_nil))))))), ?_⟩
    walk_at "rd"
    refine ⟨_, _, rfl, hT, hne, hO.len, fun H1 s1 => ?_⟩
    walk_at "rd"
    exact ⟨_, _, _, rfl, hT.same stb_RP s1, hO, fun H2 p s2 hp => q _ p (s1.trans s2) hp⟩
/-! ### broken_pairs, keeps -/
def spBroken (K : PySem.W.Frag) : Sp := fun vs H Q _ => ∃ (a : Addr) (as : List Int), vs = [.ref a] ∧ FracAt K H a as ∧ as.length ≤ 13 ∧ Bnd 200 as ∧ ∀ H' p, Same H H' → H' p = some (.lst []) → Q (.ref p) H'
theorem cut_from (xs : List V) (k : Nat) (h : k ≤ xs.length) : cutV xs (some (k : Int)) none = xs.drop k := by
  unfold cutV
  rw [HT.sIx_nat, HT.sIx_none, show min k xs.length = k by omega]
  exact List.take_of_length_le (by rw [List.length_drop]; exact Nat.le_refl _)
theorem sc_broken_pairs : FnScope ["factors", "many", "values", "found", "first", "second", "are_both", "place"] ["factors"] (defScope (topS 49)) := ⟨rfl, rfl, rfl, by decide +kernel, rfl, by decide +kernel, by decide +kernel⟩
theorem c_broken_pairs (D : Df K mg "broken_pairs" (topS 49)) (M : Md mg) (c_value_at : Cal P w K mg base 2 "value_at" (spValueAt K)) (c_agree : Cal P w K mg base 2 "agree" spAgree) : Cal P w K mg base 3 "broken_pairs" (spBroken K) := by
  refine cal_of D sc_broken_pairs (fun _ _ _ _ _ _ us hl => match us, hl with | [_], _ => rfl) (fun vs H Q E h => ?_) (fun f cdv A outer s H vs Q E hr h => ?_)
  · obtain ⟨a, _, rfl, _⟩ := h
    rfl
  · obtain ⟨a, as, rfl, hF, hlen, hB, q⟩ := h
    obtain ⟨ws, hT, he⟩ := id hF
    have wl : ws.length = as.length := by rw [he.1, fracL_len]
    have nd := sc_broken_pairs.nd
    refine ⟨_, (pss_cons (ps_set (i := 1) nd rfl (Or.inl rfl) (pe_listRg rfl (by rfl) M.list (prg_1 (by rfl) M.range (pe_callB call_len_seq (by rfl) M.len (by decide +kernel) (pa_cons (pv 0) pa_nil))))) (pss_cons (ps_setLc (i := 2) (own := [("place", 7)]) (g := gName 7) rfl nd rfl rfl (sw_true rfl rfl rfl (by decide +kernel)) (pi_list (pv 1)) (blkOk_by (own := [("place", 7)]) (N := ["factors", "many", "values", "found", "first", "second", "are_both", "place"]) (sc := defScope (topS 49)) (by decide +kernel)) (fun _ _ _ _ _ => (pg_name (i := 7) nd rfl (by first | exact Or.inl rfl | exact Or.inr rfl))) (fun _ _ _ _ _ => pts_nil) (fun _ _ _ _ _ => (pe_c c_value_at hr (by decide) (by rfl) (pa_cons (pv 0) (pa_cons (pv 7) pa_nil))))) (pss_cons (ps_set (i := 3) nd rfl (Or.inl rfl) (pe_lst pa_nil)) (pss_cons (ps_for PassesOwn.never rfl (pi_list (pv 1)) (pg_name (i := 4) nd rfl (by first | exact Or.inl rfl | exact Or.inr rfl)) (pss_one (ps_for PassesOwn.never rfl (pi_list (pe_slice sl_list (pv 1) (po_some (pv 4)) po_none)) (pg_name (i := 5) nd rfl (by first | exact Or.inl rfl | exact Or.inr rfl)) (pss_cons (ps_set (i := 6) nd rfl (Or.inl rfl) (pe_and (pe_cmpR op_eq (pe_ix (kix_tup (K := K) rfl) (pe_ix (kix_list (K := K) rfl) (pv 2) (pv 4) (fun _ _ => rfl)) pe_int (fun _ _ => rfl)) pe_int (nomark _)) (pe_one (pe_cmpR op_eq (pe_ix (kix_tup (K := K) rfl) (pe_ix (kix_list (K := K) rfl) (pv 2) (pv 5) (fun _ _ => rfl)) pe_int (fun _ _ => rfl)) pe_int (nomark _))))) (pss_one (ps_if (pw_or (pt_not (pt_val (pv 6))) (pw_or1 (pt_not (pt_val (pe_c c_agree hr (by decide) (by rfl) (pa_cons (pe_ix (kix_tup (K := K) rfl) (pe_ix (kix_list (K := K) rfl) (pv 2) (pv 4) (fun _ _ => rfl)) pe_int (fun _ _ => rfl)) (pa_cons (pe_ix (kix_tup (K := K) rfl) (pe_ix (kix_list (K := K) rfl) (pv 2) (pv 5) (fun _ _ => rfl)) pe_int (fun _ _ => rfl)) (pa_cons (pe_op op_sub (pv 5) (pv 4)) pa_nil)))))))).pt (pss_one (ps_expr (pe_bm PySem.F.plainAttrs_list PySem.F.slot_list_append PySem.F.type_list_append mt_append (pv 3) (pa_cons (pe_tup (pa_cons (pv 4) (pa_cons (pv 5) pa_nil))) pa_nil)))) pss_nil)))))) (pss_one (ps_ret (pv 3))))))), ?_⟩
    walk_at "rd"
    refine ⟨_, _, rfl, .inr hT, ?_⟩
    walk_at "rd"
    rw [wl]
    refine ⟨rgOk (by omega), fun r hr1 => ?_⟩
    have s1 : Same H (upd H r (.lst (rgV 0 (as.length : Int)))) := same_upd hr1
    generalize hH1 : upd H r (.lst (rgV 0 (as.length : Int))) = H1 at *
    have hR1 : SqL K H1 r (rgV 0 (as.length : Int)) := by
      rw [← hH1]
      exact sql_new
    walk_at "rd"
    refine ⟨⟨_, hR1⟩, fun D hD => ?_⟩
    have rl : (rgV 0 (as.length : Int)).length = as.length := rgV_len _
    refine lc_data RPt stb_RPt ((List.range as.length).map fun (i : Nat) => (evalP as (i : Int), (1 : Int))) (fun _ => true) (walk_list (xs := rgV 0 (as.length : Int))) (by rw [rl]; simp) (by rw [rl]; exact Nat.lt_of_le_of_lt hlen (by decide)) hD (fun H5 s5 => s5.seq hR1) (fun i b v H5 H6 N1 N0 hb s5 hy hn1 hn0 => ?_) (fun H5 vs s5 hD5 he5 => ?_)
    · obtain ⟨rfl, hx⟩ := hy
      obtain ⟨hlt, rfl⟩ := rgV_at hx
      rw [List.getElem?_map, List.getElem?_range hlt] at hb
      have eb : b = (evalP as (i : Int), 1) := (Option.some.inj hb).symm
      subst eb
      walk_at "rd"
      refine ⟨_, _, _, rfl, hF.same stb_RP (s1.trans s5), ⟨hlen, hB, by omega⟩, fun H7 p s7 hp => ?_⟩
      exact hn1 rfl _ _ s7 ⟨p, rfl, hp⟩
    · rw [List.filter_eq_self.mpr (fun _ _ => rfl)] at he5
      walk_at "rd"
      refine ⟨Nat.zero_le _, fun o ho => ?_⟩
      have s6 := (s1.trans s5).trans (same_upd (o := .lst []) ho)
      walk_at "rd"
      have sR : Same H1 (upd H5 o (.lst [])) := s5.trans (same_upd ho)
      refine ⟨⟨_, sR.seq hR1⟩, ?_⟩
      have hD6 : SqL K (upd H5 o (.lst [])) D vs := sql (same_upd ho _ _ hD5)
      have he6 := he5.ext stb_RPt (same_upd (o := .lst []) ho).ext
      generalize hH6 : upd H5 o (.lst []) = H6 at *
      have ho6 : H6 o = some (.lst []) := by
        rw [← hH6]
        exact upd_same
      have hat : ∀ (i : Nat), i < as.length → ∃ q, vs[i]? = some (.ref q) ∧ H6 q = some (.tup [.int (evalP as (i : Int)), .int 1]) := fun i hi => by
        obtain ⟨v, hv, q, rfl, hq⟩ := he6.at (i := i) (x := (evalP as (i : Int), 1)) (by rw [List.getElem?_map, List.getElem?_range hi]; rfl)
        exact ⟨q, hv, hq⟩
      refine for_it (walk_list (xs := rgV 0 (as.length : Int))) (fun i σ H' => Same H6 H' ∧ ∃ t1 t2 t3 t4 : Option V, σ = [some (.ref a), some (.ref r), some (.ref D), some (.ref o), t1, t2, t3, t4]) ⟨Same.refl _, none, none, none, none, rfl⟩ (fun i σ H' _ h => h.1.seq (sR.seq hR1)) (fun i y σ H' H'' hi hP hy => ?_) (fun σ H' hP => ?_)
      · obtain ⟨sm, t1, t2, t3, t4, rfl⟩ := hP
        obtain ⟨rfl, hx⟩ := hy
        obtain ⟨hlt, rfl⟩ := rgV_at hx
        walk_at "rd"
        refine ⟨_, _, rfl, sm.seq (sR.seq hR1), fun c hc => ?_⟩
        have sc := sm.trans (same_upd (o := .lst (cutV (rgV 0 (as.length : Int)) (some (i : Int)) none)) hc)
        rw [cut_from _ i (by rw [rl]; omega)] at sc ⊢
        walk_at "rd"
        refine ⟨⟨_, sql_new⟩, ?_⟩
        have hC : SqL K (upd H'' c (.lst ((rgV 0 (as.length : Int)).drop i))) c ((rgV 0 (as.length : Int)).drop i) := sql_new
        generalize hHc : upd H'' c (.lst ((rgV 0 (as.length : Int)).drop i)) = Hc at *
        refine for_it (walk_list (xs := (rgV 0 (as.length : Int)).drop i)) (fun j σ H2 => Same Hc H2 ∧ ∃ t1 t2 t3 t4 : Option V, σ = [some (.ref a), some (.ref r), some (.ref D), some (.ref o), t1, t2, t3, t4] ∧ t1 = some (.int (i : Int))) ⟨Same.refl _, some (.int (i : Int)), t2, t3, t4, rfl, rfl⟩ (fun j σ H2 _ h => h.1.seq hC) (fun j y σ H2 H3 hj hP2 hy2 => ?_) (fun σ H2 hP2 => ?_)
        · obtain ⟨sm2, u1, u2, u3, u4, rfl, rfl⟩ := hP2
          obtain ⟨rfl, hx2⟩ := hy2
          rw [List.getElem?_drop] at hx2
          obtain ⟨hlt2, rfl⟩ := rgV_at hx2
          have sA : Same H6 H3 := sc.trans sm2
          obtain ⟨q1, hv1, hq1⟩ := hat i hlt
          obtain ⟨q2, hv2, hq2⟩ := hat (i + j) hlt2
          have hq1' := sqt (K := K) (sA _ _ hq1)
          have hq2' := sqt (K := K) (sA _ _ hq2)
          have hDl := sA.seq hD6
          walk_at "rd"
          refine ⟨_, _, _, _, rfl, rfl, hDl, atI_nat hv1, ?_⟩
          walk_at "rd"
          refine ⟨_, _, _, _, rfl, rfl, hq1', atI_nat (j := 1) rfl, ?_⟩
          walk_at "rd"
          refine ⟨_, _, _, _, rfl, rfl, hDl, atI_nat hv2, ?_⟩
          walk_at "rd"
          refine ⟨_, _, _, _, rfl, rfl, hq2', atI_nat (j := 1) rfl, ?_⟩
          walk_at "rd"
          refine ⟨_, _, _, _, rfl, rfl, hDl, atI_nat hv1, ?_⟩
          walk_at "rd"
          refine ⟨_, _, _, _, rfl, rfl, hq1', atI_nat (j := 0) rfl, ?_⟩
          walk_at "rd"
          refine ⟨_, _, _, _, rfl, rfl, hDl, atI_nat hv2, ?_⟩
          walk_at "rd"
          refine ⟨_, _, _, _, rfl, rfl, hq2', atI_nat (j := 0) rfl, ?_⟩
          walk_at "rd"
          refine ⟨_, _, _, rfl, by omega, ?_⟩
          have eag : agreeB (evalP as (i : Int)) (evalP as ((i + j : Nat) : Int)) (((i + j : Nat) : Int) - (i : Int)) = true := by
            unfold agreeB restBy
            refine decide_eq_true ?_
            split
            · have ej : j = 0 := by omega
              subst ej
              rw [Nat.add_zero]
              omega
            · have h1 := evalP_agree (i : Int) ((i + j : Nat) : Int) as
              rw [show (i : Int) - ((i + j : Nat) : Int) = -(((i + j : Nat) : Int) - (i : Int)) by omega] at h1
              exact Int.emod_eq_zero_of_dvd (Int.neg_dvd.mp h1)
          rw [eag]
          walk_at "rd"
          exact ⟨sm2, _, _, _, _, rfl, rfl⟩
        · obtain ⟨sm2, u1, u2, u3, u4, rfl, rfl⟩ := hP2
          exact ⟨sc.trans sm2, _, _, _, _, rfl⟩
      · obtain ⟨sm, t1, t2, t3, t4, rfl⟩ := hP
        walk_at "rd"
        exact q _ o (s6.trans sm) (sm _ _ ho6)
def spKeeps (K : PySem.W.Frag) : Sp := fun vs H Q _ => ∃ (a : Addr) (as : List Int), vs = [.ref a] ∧ FracAt K H a as ∧ as ≠ [] ∧ as.length ≤ 13 ∧ Bnd 200 as ∧ ∀ H', Same H H' → Q (.bl true) H'
theorem sc_keeps : FnScope ["factors"] ["factors"] (defScope (topS 50)) := ⟨rfl, rfl, rfl, by decide +kernel, rfl, by decide +kernel, by decide +kernel⟩
theorem c_keeps (D : Df K mg "keeps" (topS 50)) (M : Md mg) (c_check_factors : Cal P w K mg base 4 "check_factors" (spChkFac K)) (c_broken_pairs : Cal P w K mg base 3 "broken_pairs" (spBroken K)) : Cal P w K mg base 5 "keeps" (spKeeps K) := by
  refine cal_of D sc_keeps (fun _ _ _ _ _ _ us hl => match us, hl with | [_], _ => rfl) (fun vs H Q E h => ?_) (fun f cdv A outer s H vs Q E hr h => ?_)
  · obtain ⟨a, _, rfl, _⟩ := h
    rfl
  · obtain ⟨a, as, rfl, hF, hne, hlen, hB, q⟩ := h
    have nd := sc_keeps.nd
    refine ⟨_, (pss_cons (ps_expr (pe_c c_check_factors hr (by decide) (by rfl) (pa_cons (pv 0) pa_nil))) (pss_one (ps_ret (pe_cmpR (op_eqD hr.units) (pe_c c_broken_pairs hr (by decide) (by rfl) (pa_cons (pv 0) pa_nil)) (pe_lst pa_nil) (nomark _))))), ?_⟩
    walk_at "rd"
    refine ⟨_, _, rfl, hF, hne, hlen, fun H1 s1 => ?_⟩
    walk_at "rd"
    refine ⟨_, _, rfl, hF.same stb_RP s1, hlen, hB, fun H2 p s2 hp => ?_⟩
    walk_at "rd"
    refine ⟨Nat.zero_le _, fun e he => ?_⟩
    have s3 := same_upd (o := .lst []) he
    refine ⟨.list (iD []), .list (iD []), .lst (sql (s3 _ _ hp)) .nil, .lst sql_new .nil, shaped_lst [], shaped_lst [], ?_⟩
    exact q _ ((s1.trans s2).trans s3)
end
end K79
/-! Polynomials through points. -/
namespace K79
open PySem PySem.Spec PyProof.Rows L2
local macro_rules | `(tactic| walk_at "rd1") => `(tactic| first | refine ⟨_, rfl, ?_⟩ | refine ⟨_, _, rfl, rfl, ?_⟩ | refine ⟨_, _, rfl, ?_⟩ | refine ⟨rfl, ?_⟩)
local macro_rules | `(tactic| walk_at "rd") => `(tactic| repeat walk_at "rd1")
/-- the tables that we meet -/
structure Tab (ns : List Int) : Prop where
  ne : ns ≠ []
  len : ns.length ≤ 13
  v : Bnd 100 ns
  c : Bnd 100 (stepsL ns)
section
variable {P : Program} {w : World} {K : PySem.W.Frag} {mg : Str → Option Value} {base : Heap}
def spChkPts (K : PySem.W.Frag) : Sp := fun vs H Q _ => ∃ (a : Addr) (ns : List Int), vs = [.ref a] ∧ PtsAt K H a ns ∧ Tab ns ∧ ∀ H', Same H H' → Q .non H'
theorem sc_check_points : FnScope ["points", "at", "point"] ["points"] (defScope (topS 51)) := ⟨rfl, rfl, rfl, by decide +kernel, rfl, by decide +kernel, by decide +kernel⟩
theorem c_check_points (D : Df K mg "check_points" (topS 51)) (M : Md mg) (c_are_integers : Cal P w K mg base 2 "are_integers" (spAreInts K)) : Cal P w K mg base 3 "check_points" (spChkPts K) := by
  refine cal_of D sc_check_points (fun _ _ _ _ _ _ us hl => match us, hl with | [_], _ => rfl) (fun vs H Q E h => ?_) (fun f cdv A outer s H vs Q E hr h => ?_)
  · obtain ⟨a, _, rfl, _⟩ := h
    rfl
  · obtain ⟨a, ns, rfl, ⟨ws, hT, he⟩, hTab, q⟩ := h
    have nd := sc_check_points.nd
    refine ⟨_, (pss_cons (ps_if (pw_or (pt_not (pt_val (pe_callB call_isi (by rfl) M.isinstance (by decide +kernel) (pa_cons (pv 0) (pa_cons (pe_bltn (v := .ty "tuple") (by rfl) M.tuple (by decide +kernel) rfl) pa_nil))))) (pw_or1 (pt_cmpR (op_eqD hr.units) (pv 0) (pe_tup pa_nil) (nomark _)))).pt (pss_one ps_never) pss_nil) (pss_one (ps_for PassesOwn.never rfl (pi_enumT (by rfl) M.enumerate (pa_cons (pv 0) pa_nil)) (pg_tup rfl (pgs_cons (pg_name (i := 1) nd rfl (by first | exact Or.inl rfl | exact Or.inr rfl)) (pgs_cons (pg_name (i := 2) nd rfl (by first | exact Or.inl rfl | exact Or.inr rfl)) pgs_nil))) (pss_one (ps_if (pw_or (pt_cmpR op_gt (pv 1) (pe_gc (by rfl) M.MOST_DEGREE) (nomark _)) (pw_or (pt_not (pt_val (pe_c c_are_integers hr (by decide) (by rfl) (pa_cons (pv 2) (pa_cons pe_int pa_nil))))) (pw_or1 (pw_and (pt_cmpR op_gt (pv 1) pe_int (nomark _)) (pw_and1 (pt_cmpR op_ge (pe_ix (kix_tup (K := K) rfl) (pe_ix (kix_tup (K := K) rfl) (pv 0) (pe_op op_sub (pv 1) pe_int) (fun _ _ => rfl)) pe_int (fun _ _ => rfl)) (pe_ix (kix_tup (K := K) rfl) (pv 2) pe_int (fun _ _ => rfl)) (nomark _)))).pt))).pt (pss_one ps_never) pss_nil))))), ?_⟩
    have hlen := hTab.len
    have hne := hTab.ne
    have wl : ws.length = ns.length := by rw [he.1, ptsL_len]
    walk_at "rd"
    refine ⟨_, _, _, _, true, rfl, .ty "tuple", ty_tup hT, kit_ty (by decide +kernel), ?_⟩
    walk_at "rd"
    refine ⟨(show 0 ≤ sizeLine by decide), fun p hp => ?_⟩
    have s1 : Same H (upd H p (.tup [])) := same_upd hp
    refine ⟨.tuple (pD (ptsL ns)), .tuple (iD []), .tup (s1.tup hT) (dpa_pairs (he.ext stb_RP s1.ext)), .tup sqt_new .nil, shaped_ptup _, shaped_tup [], ?_⟩
    rw [ne_nilPt, isE_false (fun e => hne (by have := congrArg List.length e; rw [ptsL_len] at this; exact List.length_eq_zero_iff.mp this))]
    walk_at "rd"
    refine ⟨_, _, rfl, s1.tup hT, ?_⟩
    refine for_it (walk_enumT (xs := ws)) (fun i σ H' => Same H H' ∧ ∃ x y : Option V, σ = [some (.ref a), x, y]) ⟨s1, _, _, rfl⟩ (fun i σ H' _ h => h.1.tup hT) (fun i x σ H' H'' hi hP hy => ?_) (fun σ H' hP => q _ hP.1)
    obtain ⟨sm, x1, x2, rfl⟩ := hP
    obtain ⟨T, u, v, rfl, hT1, rfl, hu, hv⟩ := hy
    have eu : u = .int (i : Nat) := (Option.some.inj hu).symm
    subst eu
    obtain ⟨t, n, rfl, hn, ht⟩ := PtsAt.at he hv
    refine ⟨T, _, rfl, sqt_new, rfl, ?_⟩
    walk_at "rd"
    refine ite2 (fun e => ?_) (fun e => ?_)
    · have h1 : (12 : Int) < (i : Int) := of_decide_eq_true e
      omega
    · have s2 := sm.trans (same_upd (o := .tup [.int (i : Nat), .ref t]) hT1)
      walk_at "rd"
      refine ⟨t, [(i : Int), n], rfl, (show 2 < sizeLine by decide), s2.tup ht, fun H3 s3 => ?_⟩
      have sA := s2.trans s3
      walk_at "rd"
      cases i with
      | zero =>
        walk_at "rd"
        exact ⟨sA, _, _, rfl⟩
      | succ k =>
        have e0 : decide ((0 : Int) < ((k + 1 : Nat) : Int)) = true := decide_eq_true (by omega)
        rw [e0]
        have hwk : ws[k]? = some ws[k] := List.getElem?_eq_getElem (by omega)
        obtain ⟨tk, nk, etk, hnk, htk⟩ := PtsAt.at he hwk
        rw [etk] at hwk
        walk_at "rd"
        refine ⟨_, _, _, _, rfl, rfl, sA.tup hT, at_of (j := k) (by omega) hwk, ?_⟩
        walk_at "rd"
        refine ⟨_, _, _, _, rfl, rfl, sA.tup htk, atI_nat (j := 0) rfl, ?_⟩
        walk_at "rd"
        refine ⟨_, _, _, _, rfl, rfl, sA.tup ht, atI_nat (j := 0) rfl, ?_⟩
        walk_at "rd"
        have e1 : decide (((k + 1 : Nat) : Int) ≤ (k : Int)) = false := decide_eq_false (by omega)
        rw [e1]
        walk_at "rd"
        exact ⟨sA, _, _, rfl⟩
/-! ### whole_value -/
def spWholeValue (K : PySem.W.Frag) : Sp := fun vs H Q _ => ∃ (a : Addr) (as : List Int) (x : Int), vs = [.ref a, .int x] ∧ SqL K H a (as.map V.int) ∧ as.length ≤ 14 ∧ Bnd 200 as ∧ x.natAbs < 2 ^ 20 ∧ ∀ H', Same H H' → Q (.int (evalP as x)) H'
theorem sc_whole_value : FnScope ["numbers", "place", "found", "number"] ["numbers", "place"] (defScope (topS 52)) := ⟨rfl, rfl, rfl, by decide +kernel, rfl, by decide +kernel, by decide +kernel⟩
theorem c_whole_value (D : Df K mg "whole_value" (topS 52)) (M : Md mg) : Cal P w K mg base 1 "whole_value" (spWholeValue K) := by
  refine cal_of D sc_whole_value (fun _ _ _ _ _ _ us hl => match us, hl with | [_, _], _ => rfl) (fun vs H Q E h => ?_) (fun f cdv A outer s H vs Q E hr h => ?_)
  · obtain ⟨a, _, _, rfl, _⟩ := h
    rfl
  · obtain ⟨a, as, x, rfl, hL, hlen, hB, hx, q⟩ := h
    have nd := sc_whole_value.nd
    refine ⟨_, (pss_cons (ps_set (i := 2) nd rfl (Or.inl rfl) pe_int) (pss_cons (ps_for PassesOwn.never rfl (pi_reversed (by rfl) M.reversed (pa_cons (pe_callTy call_list_of (by rfl) M.list (by decide +kernel) (pa_cons (pv 0) pa_nil)) pa_nil)) (pg_name (i := 3) nd rfl (by first | exact Or.inl rfl | exact Or.inr rfl)) (pss_one (ps_set (i := 2) nd rfl (Or.inl rfl) (pe_op op_add (pe_op op_mulW (pv 2) (pv 1)) (pv 3))))) (pss_one (ps_ret (pv 2))))), ?_⟩
    walk_at "rd"
    refine ⟨_, _, rfl, .inl hL, fun l hl => ?_⟩
    have s2 := same_upd (o := .lst (as.map V.int)) hl
    refine ⟨_, _, rfl, sql_new, ?_⟩
    generalize hH2 : upd H l (.lst (as.map V.int)) = H2 at *
    have hL2 : SqL K H2 l (as.map V.int) := by
      rw [← hH2]
      exact sql_new
    refine for_it (walk_rev (xs := as.map V.int)) (fun i σ H' => Same H2 H' ∧ ∃ t1 : Option V, σ = [some (.ref a), some (.int x), some (.int (evalP (as.drop (as.length - i)) x)), t1]) ⟨Same.refl _, none, ?_⟩ (fun i σ H' _ h => h.1.seq hL2) (fun i y σ H' H'' hi hP hy => ?_) (fun σ H' hP => ?_)
    · rw [Nat.sub_zero, List.drop_length]
      rfl
    · obtain ⟨sm, x1, rfl⟩ := hP
      obtain ⟨rfl, hyy⟩ := hy
      obtain ⟨n, hn, rfl⟩ := map_at hyy
      rw [List.length_map] at hn hi
      have edrop := drop_back hi hn
      have hsm : Sm (evalP (as.drop (as.length - i)) x) := sm_eval hx (hB.drop _) (by rw [List.length_drop]; omega)
      walk_at "rd"
      refine ⟨sm_mul hsm (sm_pl hx), ?_⟩
      walk_at "rd"
      refine ⟨sm, some (.int n), ?_⟩
      rw [edrop]
      rfl
    · obtain ⟨sm, x1, rfl⟩ := hP
      rw [List.length_map, Nat.sub_self, List.drop_zero]
      walk_at "rd"
      exact q _ (s2.trans sm)
/-! ### grown, stretched -/
theorem zip_at {f : Int → Int → Int} {as bs : List Int} {i : Nat} {x y b : Int} (hx : as[i]? = some x) (hy : bs[i]? = some y) (hb : (List.zipWith f as bs)[i]? = some b) : b = f x y := by
  rw [List.getElem?_zipWith, hx, hy] at hb
  exact (Option.some.inj hb).symm
theorem zip_len {f : Int → Int → Int} {as bs : List Int} {n : Nat} (h1 : as.length = n) (h2 : bs.length = n) : (List.zipWith f as bs).length = n := by
  rw [List.length_zipWith, h1, h2, Nat.min_self]
def spGrown (K : PySem.W.Frag) : Sp := fun vs H Q _ => ∃ (a b : Addr) (ns ss : List Int) (t : Int), vs = [.ref a, .ref b, .int t] ∧ SqL K H a (ns.map V.int) ∧ SqL K H b (ss.map V.int) ∧ ss.length = ns.length + 1 ∧ ss.length ≤ 14 ∧ Sm t ∧ Bnd 200 ss ∧ ∀ H' p, Same H H' → H' p = some (.lst ((grownL ns ss t).map V.int)) → Q (.ref p) H'
theorem sc_grown : FnScope ["numbers", "spread", "times", "number", "more"] ["numbers", "spread", "times"] (defScope (topS 53)) := ⟨rfl, rfl, rfl, by decide +kernel, rfl, by decide +kernel, by decide +kernel⟩
theorem c_grown (D : Df K mg "grown" (topS 53)) (M : Md mg) : Cal P w K mg base 1 "grown" (spGrown K) := by
  refine cal_of D sc_grown (fun _ _ _ _ _ _ us hl => match us, hl with | [_, _, _], _ => rfl) (fun vs H Q E h => ?_) (fun f cdv A outer s H vs Q E hr h => ?_)
  · obtain ⟨a, _, _, _, _, rfl, _⟩ := h
    rfl
  · obtain ⟨a, b, ns, ss, t, rfl, hA, hS, hl, hl2, ht, hB, q⟩ := h
    have nd := sc_grown.nd
    refine ⟨_, (pss_one (ps_ret (pe_lc (own := [("number", 3), ("more", 4)]) (g := gTup K 2 (gCons (gName 3) (gCons (gName 4) gNil))) rfl nd (pi_zip (by rfl) M.zip (pa_cons (pe_lst (StX.pa_star (pv 0) (pa_cons pe_int pa_nil))) (pa_cons (pv 1) pa_nil))) (blkOk_by (own := [("number", 3), ("more", 4)]) (N := ["numbers", "spread", "times", "number", "more"]) (sc := defScope (topS 53)) (by decide +kernel)) (fun _ _ _ _ _ => (pg_tup rfl (pgs_cons (pg_name (i := 3) nd rfl (by first | exact Or.inl rfl | exact Or.inr rfl)) (pgs_cons (pg_name (i := 4) nd rfl (by first | exact Or.inl rfl | exact Or.inr rfl)) pgs_nil)))) (fun _ _ _ _ _ => pts_nil) (fun _ _ _ _ _ => (pe_op op_add (pv 3) (pe_op op_mulW (pv 2) (pv 4))))))), ?_⟩
    walk_at "rd"
    refine ⟨_, _, rfl, .inr hA, ?_⟩
    walk_at "rd"
    refine ⟨?_, fun c hc => ?_⟩
    · refine Nat.le_of_lt (sz1000 ?_)
      simp
      omega
    have ec : ns.map V.int ++ [V.int 0] = (ns ++ [0]).map V.int := by simp
    have s1 := same_upd (o := .lst (ns.map V.int ++ [V.int 0])) hc
    walk_at "rd"
    refine ⟨c, b, _, _, rfl, sql upd_same, s1.seq hS, fun D hD => ?_⟩
    rw [ec] at s1 hD ⊢
    have hC : SqL K (upd H c (.lst ((ns ++ [0]).map V.int))) c ((ns ++ [0]).map V.int) := sql_new
    generalize hH1 : upd H c (.lst ((ns ++ [0]).map V.int)) = H1 at *
    refine lc_data RI stb_RI (grownL ns ss t) (fun _ => true) (walk_zip (K := K) (a := c) (b := b) (n := ns.length + 1) (xs := (ns ++ [0]).map V.int) (ys := ss.map V.int) (by simp [hl])) (grownL_len t hl) (sz1000 (by omega)) hD (fun H5 s5 => ⟨s5.seq hC, s5.seq (s1.seq hS)⟩) (fun i v0 v H5 H6 N1 N0 hb s5 hy hn1 hn0 => ?_) (fun H5 ws s5 hD5 he5 => ?_)
    · obtain ⟨T, v1, v2, rfl, hT1, rfl, g1, g2⟩ := hy
      obtain ⟨n1, hn1', rfl⟩ := map_at g1
      obtain ⟨n2, hn2', rfl⟩ := map_at g2
      have eb := zip_at hn1' hn2' hb
      subst eb
      refine ⟨T, _, rfl, sqt_new, rfl, ?_⟩
      walk_at "rd"
      refine ⟨sm_mul ht (sm_200 (hB n2 (List.mem_of_getElem? hn2'))), ?_⟩
      walk_at "rd"
      exact hn1 rfl _ _ (same_upd hT1) rfl
    · have ew := els_ints he5
      rw [List.filter_eq_self.mpr (fun _ _ => rfl)] at ew
      subst ew
      exact q _ D (s1.trans s5) hD5
def spStretched (K : PySem.W.Frag) : Sp := fun vs H Q _ => ∃ (b : Addr) (ss : List Int) (pl : Int), vs = [.ref b, .int pl] ∧ SqL K H b (ss.map V.int) ∧ ss.length ≤ 14 ∧ Sm pl ∧ Bnd 200 ss ∧ ∀ H' p, Same H H' → H' p = some (.lst ((strL ss pl).map V.int)) → Q (.ref p) H'
theorem sc_stretched : FnScope ["spread", "place", "before", "here"] ["spread", "place"] (defScope (topS 54)) := ⟨rfl, rfl, rfl, by decide +kernel, rfl, by decide +kernel, by decide +kernel⟩
theorem c_stretched (D : Df K mg "stretched" (topS 54)) (M : Md mg) : Cal P w K mg base 1 "stretched" (spStretched K) := by
  refine cal_of D sc_stretched (fun _ _ _ _ _ _ us hl => match us, hl with | [_, _], _ => rfl) (fun vs H Q E h => ?_) (fun f cdv A outer s H vs Q E hr h => ?_)
  · obtain ⟨a, _, _, rfl, _⟩ := h
    rfl
  · obtain ⟨b, ss, pl, rfl, hS, hl2, ht, hB, q⟩ := h
    have nd := sc_stretched.nd
    refine ⟨_, (pss_one (ps_ret (pe_lc (own := [("before", 2), ("here", 3)]) (g := gTup K 2 (gCons (gName 2) (gCons (gName 3) gNil))) rfl nd (pi_zip (by rfl) M.zip (pa_cons (pe_lst (pa_cons pe_int (StX.pa_star (pv 0) pa_nil))) (pa_cons (pe_lst (StX.pa_star (pv 0) (pa_cons pe_int pa_nil))) pa_nil))) (blkOk_by (own := [("before", 2), ("here", 3)]) (N := ["spread", "place", "before", "here"]) (sc := defScope (topS 54)) (by decide +kernel)) (fun _ _ _ _ _ => (pg_tup rfl (pgs_cons (pg_name (i := 2) nd rfl (by first | exact Or.inl rfl | exact Or.inr rfl)) (pgs_cons (pg_name (i := 3) nd rfl (by first | exact Or.inl rfl | exact Or.inr rfl)) pgs_nil)))) (fun _ _ _ _ _ => pts_nil) (fun _ _ _ _ _ => (pe_op op_sub (pv 2) (pe_op op_mulW (pv 1) (pv 3))))))), ?_⟩
    walk_at "rd"
    refine ⟨_, _, rfl, .inr hS, ?_⟩
    walk_at "rd"
    refine ⟨?_, fun c hc => ?_⟩
    · refine Nat.le_of_lt (sz1000 ?_)
      simp
      omega
    have s1 := same_upd (o := .lst (V.int 0 :: (ss.map V.int ++ []))) hc
    walk_at "rd"
    refine ⟨_, _, rfl, .inr (s1.seq hS), ?_⟩
    walk_at "rd"
    refine ⟨?_, fun c2 hc2 => ?_⟩
    · refine Nat.le_of_lt (sz1000 ?_)
      simp
      omega
    have s2 := same_upd (o := .lst (ss.map V.int ++ [V.int 0])) hc2
    walk_at "rd"
    refine ⟨c, c2, _, _, rfl, sql (s2 _ _ upd_same), sql upd_same, fun D hD => ?_⟩
    have ec : V.int 0 :: (ss.map V.int ++ []) = (0 :: ss).map V.int := by simp
    have ec2 : ss.map V.int ++ [V.int 0] = (ss ++ [0]).map V.int := by simp
    have hC1 := sql (K := K) (s2 _ _ (upd_same (H := H) (a := c) (o := .lst (V.int 0 :: (ss.map V.int ++ [])))))
    have hC2 : SqL K (upd (upd H c (.lst (V.int 0 :: (ss.map V.int ++ [])))) c2 (.lst (ss.map V.int ++ [V.int 0]))) c2 (ss.map V.int ++ [V.int 0]) := sql_new
    have sB := s1.trans s2
    generalize hH1 : upd (upd H c (.lst (V.int 0 :: (ss.map V.int ++ [])))) c2 (.lst (ss.map V.int ++ [V.int 0])) = H1 at *
    rw [ec] at hC1
    rw [ec2] at hC2
    refine lc_data RI stb_RI (strL ss pl) (fun _ => true) (walk_zip (K := K) (a := c) (b := c2) (n := ss.length + 1) (xs := (0 :: ss).map V.int) (ys := (ss ++ [0]).map V.int) (by simp)) (strL_len ss pl) (sz1000 (by omega)) hD (fun H5 s5 => ⟨s5.seq hC1, s5.seq hC2⟩) (fun i v0 v H5 H6 N1 N0 hb s5 hy hn1 hn0 => ?_) (fun H5 ws s5 hD5 he5 => ?_)
    · obtain ⟨T, v1, v2, rfl, hT1, rfl, g1, g2⟩ := hy
      obtain ⟨n1, hn1', rfl⟩ := map_at g1
      obtain ⟨n2, hn2', rfl⟩ := map_at g2
      have eb := zip_at hn1' hn2' hb
      subst eb
      have hn2b : Sm n2 := by
        rcases List.mem_append.mp (List.mem_of_getElem? hn2') with h | h
        · exact sm_200 (hB n2 h)
        · have e : n2 = 0 := by simpa using h
          rw [e]
          decide
      refine ⟨T, _, rfl, sqt_new, rfl, ?_⟩
      walk_at "rd"
      refine ⟨sm_mul ht hn2b, ?_⟩
      walk_at "rd"
      exact hn1 rfl _ _ (same_upd hT1) rfl
    · have ew := els_ints he5
      rw [List.filter_eq_self.mpr (fun _ _ => rfl)] at ew
      subst ew
      exact q _ D (sB.trans s5) hD5
/-! ### whole_through -/
/-- how far the polynomial goes -/
def Reach (ns : List Int) (m : Nat) : Prop := WholeTo (stepsL ns) m ∧ (m = ns.length ∨ ∃ c, (stepsL ns)[m]? = some c ∧ ¬ (fact m : Int) ∣ c)
def spWholeThrough (K : PySem.W.Frag) : Sp := fun vs H Q _ => ∃ (a : Addr) (ns : List Int), vs = [.ref a] ∧ PtsAt K H a ns ∧ Tab ns ∧ ∀ H' r nl m, Same H H' → SqT K H' r [.ref nl, .int ((m : Nat) : Int)] → SqL K H' nl ((polyN (stepsL ns) m).map V.int) → Reach ns m → Q (.ref r) H'
theorem sc_whole_through : FnScope ["points", "numbers", "spread", "at", "place", "value", "times", "left"] ["points"] (defScope (topS 55)) := ⟨rfl, rfl, rfl, by decide +kernel, rfl, by decide +kernel, by decide +kernel⟩
theorem c_whole_through (D : Df K mg "whole_through" (topS 55)) (M : Md mg) (c_whole_value : Cal P w K mg base 1 "whole_value" (spWholeValue K)) (c_grown : Cal P w K mg base 1 "grown" (spGrown K)) (c_stretched : Cal P w K mg base 1 "stretched" (spStretched K)) : Cal P w K mg base 2 "whole_through" (spWholeThrough K) := by
  refine cal_of D sc_whole_through (fun _ _ _ _ _ _ us hl => match us, hl with | [_], _ => rfl) (fun vs H Q E h => ?_) (fun f cdv A outer s H vs Q E hr h => ?_)
  · obtain ⟨a, _, rfl, _⟩ := h
    rfl
  · obtain ⟨a, ns, rfl, ⟨ws, hT, he⟩, hTab, q⟩ := h
    have nd := sc_whole_through.nd
    refine ⟨_, (pss_cons (ps_par (i := 1) (j := 2) rfl nd rfl rfl (by decide) rfl rfl (pa_cons (pe_lst pa_nil) (pa_cons (pe_lst (pa_cons pe_int pa_nil)) pa_nil)) (by rfl)) (pss_cons (ps_for PassesOwn.never rfl (pi_enumT (by rfl) M.enumerate (pa_cons (pv 0) pa_nil)) (pg_tup rfl (pgs_cons (pg_name (i := 3) nd rfl (by first | exact Or.inl rfl | exact Or.inr rfl)) (pgs_cons (pg_tup rfl (pgs_cons (pg_name (i := 4) nd rfl (by first | exact Or.inl rfl | exact Or.inr rfl)) (pgs_cons (pg_name (i := 5) nd rfl (by first | exact Or.inl rfl | exact Or.inr rfl)) pgs_nil))) pgs_nil))) (pss_cons (ps_asg (pe_callB call_divmod (by rfl) M.divmod (by decide +kernel) (pa_cons (pe_op op_sub (pv 5) (pe_c c_whole_value hr (by decide) (by rfl) (pa_cons (pv 1) (pa_cons (pv 4) pa_nil)))) (pa_cons (pe_c c_whole_value hr (by decide) (by rfl) (pa_cons (pv 2) (pa_cons (pv 4) pa_nil))) pa_nil))) (pg_tup rfl (pgs_cons (pg_name (i := 6) nd rfl (by first | exact Or.inl rfl | exact Or.inr rfl)) (pgs_cons (pg_name (i := 7) nd rfl (by first | exact Or.inl rfl | exact Or.inr rfl)) pgs_nil)))) (pss_cons (ps_if (pt_cmpR op_ne (pv 7) pe_int (nomark _)) (pss_one (ps_ret (pe_tup (pa_cons (pv 1) (pa_cons (pv 3) pa_nil))))) pss_nil) (pss_one (ps_par (i := 1) (j := 2) rfl nd rfl rfl (by decide) rfl rfl (pa_cons (pe_c c_grown hr (by decide) (by rfl) (pa_cons (pv 1) (pa_cons (pv 2) (pa_cons (pv 6) pa_nil)))) (pa_cons (pe_c c_stretched hr (by decide) (by rfl) (pa_cons (pv 2) (pa_cons (pv 4) pa_nil))) pa_nil)) (by rfl)))))) (pss_one (ps_ret (pe_tup (pa_cons (pv 1) (pa_cons (pe_callB call_len_seq (by rfl) M.len (by decide +kernel) (pa_cons (pv 0) pa_nil)) pa_nil))))))), ?_⟩
    have hlen := hTab.len
    have wl : ws.length = ns.length := by rw [he.1, ptsL_len]
    walk_at "rd"
    refine ⟨Nat.zero_le _, fun o ho => ?_⟩
    have s1 := same_upd (o := .lst []) ho
    walk_at "rd"
    refine ⟨(show 1 ≤ sizeLine by decide), fun o2 ho2 => ?_⟩
    have s2 := same_upd (o := .lst [.int 1]) ho2
    walk_at "rd"
    have sB := s1.trans s2
    refine ⟨_, _, rfl, sB.tup hT, ?_⟩
    refine for_it (walk_enumT (xs := ws)) (fun i σ H' => Same H H' ∧ WholeTo (stepsL ns) i ∧ ∃ (nl sl : Addr) (t1 t2 t3 t4 t5 : Option V), σ = [some (.ref a), some (.ref nl), some (.ref sl), t1, t2, t3, t4, t5] ∧ SqL K H' nl ((polyN (stepsL ns) i).map V.int) ∧ SqL K H' sl ((ffP i).map V.int))
      ⟨sB, fun j c hj => by omega, o, o2, none, none, none, none, none, rfl, sql (s2 _ _ upd_same), sql upd_same⟩ (fun i σ H' _ h => h.1.tup hT) (fun i y σ H' H'' hi hP hy => ?_) (fun σ H' hP => ?_)
    · obtain ⟨sm, hW, nl, sl, t1, t2, t3, t4, t5, rfl, hN, hS⟩ := hP
      obtain ⟨T, u, v, rfl, hT1, rfl, hu, hv⟩ := hy
      have eu : u = .int (i : Nat) := (Option.some.inj hu).symm
      subst eu
      obtain ⟨t, n, rfl, hn, ht⟩ := PtsAt.at he hv
      rw [wl] at hi
      have hcl : i < (stepsL ns).length := by rw [stepsL_len]; exact hi
      obtain ⟨c, hc⟩ : ∃ c, (stepsL ns)[i]? = some c := ⟨_, List.getElem?_eq_getElem hcl⟩
      have sT := same_upd (o := .tup [.int (i : Nat), .ref t]) hT1
      refine ⟨T, _, rfl, sqt_new, rfl, ?_⟩
      walk_at "rd"
      refine ⟨t, _, rfl, (sm.trans sT).tup ht, rfl, ?_⟩
      walk_at "rd"
      have hib : ((i : Nat) : Int).natAbs < 2 ^ 20 := by omega
      have bN : Bnd 200 (polyN (stepsL ns) i) := (polyN_bnd2 hTab.c (by omega)).mono (by decide)
      have bS : Bnd 200 (ffP i) := (ffP_bnd i (by omega)).mono (by omega)
      refine ⟨_, _, _, rfl, sT.seq hN, by rw [polyN_len]; omega, bN, hib, fun H3 s3 => ?_⟩
      walk_at "rd"
      have s4 := sT.trans s3
      refine ⟨_, _, _, rfl, s4.seq hS, by rw [ffP_len]; omega, bS, hib, fun H5 s5 => ?_⟩
      have ev1 : n - evalP (polyN (stepsL ns) i) (i : Int) = c := next_eval hn hc hW
      have ev2 : evalP (ffP i) (i : Int) = (fact i : Int) := by rw [evalP_ff, ff_self]
      have hfp : (0 : Int) < (fact i : Int) := by exact_mod_cast fact_pos i
      have hfs : (fact i : Int) < 1073741824 := by
        have : fact i ≤ fact 12 := by
          have h2 : ∀ k, k ≤ 12 → fact k ≤ 479001600 := fun k hk => by
            match k, hk with
            | 0, _ => decide
            | 1, _ => decide
            | 2, _ => decide
            | 3, _ => decide
            | 4, _ => decide
            | 5, _ => decide
            | 6, _ => decide
            | 7, _ => decide
            | 8, _ => decide
            | 9, _ => decide
            | 10, _ => decide
            | 11, _ => decide
            | 12, _ => decide
          exact h2 i (by omega)
        have h3 : fact 12 = 479001600 := by decide
        omega
      refine ⟨c, (fact i : Int), (show [V.int (n - evalP (polyN (stepsL ns) i) (i : Int)), V.int (evalP (ffP i) (i : Int))] = [V.int c, V.int (fact i : Int)] by rw [ev1, ev2]), ⟨hfp, hfs⟩, fun p hp => ?_⟩
      have s6 := same_upd (o := .tup [.int (c / (fact i : Int)), .int (c % (fact i : Int))]) hp
      have s7 := (s4.trans s5).trans s6
      refine ⟨p, _, rfl, sqt_new, rfl, ?_⟩
      walk_at "rd"
      refine ite2 (fun e => ?_) (fun e => ?_)
      · walk_at "rd"
        refine ⟨(show 2 ≤ sizeLine by decide), fun r hr2 => ?_⟩
        have s8 := same_upd (o := .tup [.ref nl, .int (i : Nat)]) hr2
        exact q _ r nl i ((sm.trans s7).trans s8) sqt_new ((s7.trans s8).seq hN) ⟨hW, .inr ⟨c, hc, fun hd => yesN e (Int.emod_eq_zero_of_dvd hd)⟩⟩
      · have hd : (fact i : Int) ∣ c := Int.dvd_of_emod_eq_zero (noN e)
        have hcb := hTab.c c (List.mem_of_getElem? hc)
        walk_at "rd"
        have htS : Sm (c / (fact i : Int)) := Nat.lt_of_le_of_lt (Int.natAbs_ediv_le_natAbs _ _) (Nat.lt_trans hcb (by decide))
        refine ⟨_, _, _, _, _, rfl, s7.seq hN, s7.seq hS, by rw [ffP_len, polyN_len], by rw [ffP_len]; omega, htS, bS, fun H9 p9 s9 hp9 => ?_⟩
        walk_at "rd"
        refine ⟨_, _, _, rfl, (s7.trans s9).seq hS, by rw [ffP_len]; omega, sm_pl hib, bS, fun H10 p10 s10 hp10 => ?_⟩
        walk_at "rd"
        have egd : (stepsL ns).getD i 0 = c := getD_some hc
        refine ⟨(sm.trans s7).trans (s9.trans s10), fun j c' hj hc' => ?_, p9, p10, _, _, _, _, _, rfl, ?_, sql hp10⟩
        · by_cases hji : j < i
          · exact hW j c' hji hc'
          · have ej : j = i := by omega
            subst ej
            rw [← Option.some.inj (hc.symm.trans hc')]
            exact hd
        · have h11 := s10 _ _ hp9
          rw [← egd] at h11
          exact sql h11
    · obtain ⟨sm, hW, nl, sl, t1, t2, t3, t4, t5, rfl, hN, hS⟩ := hP
      rw [wl] at hW hN
      walk_at "rd"
      refine ⟨_, _, rfl, .inr (sm.tup hT), ?_⟩
      rw [wl]
      walk_at "rd"
      refine ⟨(show 2 ≤ sizeLine by decide), fun r hr2 => ?_⟩
      have s8 := same_upd (o := .tup [.ref nl, .int (ns.length : Nat)]) hr2
      exact q _ r nl ns.length (sm.trans s8) sqt_new (s8.seq hN) ⟨hW, .inl rfl⟩
/-! ### trimmed -/
def Trim (l as : List Int) : Prop := as ≠ [] ∧ ∃ m, l = as ++ List.replicate m 0
def spTrimmed (K : PySem.W.Frag) : Sp := fun vs H Q _ => ∃ (a : Addr) (l : List Int), vs = [.ref a] ∧ SqL K H a (l.map V.int) ∧ l ≠ [] ∧ l.length ≤ 14 ∧ ∀ H' p as, Same H H' → SqT K H' p (as.map V.int) → Trim l as → Q (.ref p) H'
theorem sc_trimmed : FnScope ["numbers", "found"] ["numbers"] (defScope (topS 56)) := ⟨rfl, rfl, rfl, by decide +kernel, rfl, by decide +kernel, by decide +kernel⟩
theorem c_trimmed (D : Df K mg "trimmed" (topS 56)) (M : Md mg) : Cal P w K mg base 1 "trimmed" (spTrimmed K) := by
  refine cal_of D sc_trimmed (fun _ _ _ _ _ _ us hl => match us, hl with | [_], _ => rfl) (fun vs H Q E h => ?_) (fun f cdv A outer s H vs Q E hr h => ?_)
  · obtain ⟨a, _, rfl, _⟩ := h
    rfl
  · obtain ⟨a, l, rfl, hL, hne, hlen, q⟩ := h
    have nd := sc_trimmed.nd
    refine ⟨_, (pss_cons (ps_set (i := 1) nd rfl (Or.inl rfl) (pe_callTy call_list_of (by rfl) M.list (by decide +kernel) (pa_cons (pv 0) pa_nil))) (pss_cons (ps_while PassesOwn.never (pw_and (pt_cmpR op_gt (pe_callB call_len_seq (by rfl) M.len (by decide +kernel) (pa_cons (pv 1) pa_nil)) pe_int (nomark _)) (pw_and1 (pt_cmpR op_eq (pe_ix (kix_list (K := K) rfl) (pv 1) (pe_un un_neg pe_int) (fun _ _ => rfl)) pe_int (nomark _)))).pt (pss_one (ps_expr (pe_bm0 PySem.F.plainAttrs_list PySem.F.slot_list_pop PySem.F.type_list_pop mt_pop (pv 1))))) (pss_one (ps_ret (pe_callTy call_tuple_of (by rfl) M.tuple (by decide +kernel) (pa_cons (pv 1) pa_nil)))))), ?_⟩
    walk_at "rd"
    refine ⟨_, _, rfl, .inl hL, fun o ho => ?_⟩
    have s1 := same_upd (o := .lst (l.map V.int)) ho
    walk_at "rd"
    refine ⟨fun m σ H' => Same H H' ∧ ∃ cur, σ = [some (.ref a), some (.ref o)] ∧ H' o = some (.lst (cur.map V.int)) ∧ Trim l cur ∧ m = cur.length, ⟨_, s1, l, rfl, upd_same, ⟨hne, 0, by simp⟩, rfl⟩, fun m σ H' hW => ?_⟩
    obtain ⟨sm, cur, rfl, ho', hTr, rfl⟩ := hW
    obtain ⟨z, y, hzy⟩ : ∃ z y, cur = z ++ [y] := ⟨cur.dropLast, cur.getLast hTr.1, (List.dropLast_concat_getLast hTr.1).symm⟩
    subst hzy
    have hat : atI ((z ++ [y]).map V.int) (-1) = some (V.int y) := by
      rw [List.map_append]
      exact atI_last _ _
    have done : ∀ p, H' p = none → Q (.ref p) (upd H' p (.tup ((z ++ [y]).map V.int))) := fun p hp => q _ p _ (sm.trans (same_upd hp)) sqt_new hTr
    walk_at "rd"
    refine ⟨_, _, rfl, .inl (sql ho'), ?_⟩
    walk_at "rd"
    refine ite2 (fun e => ?_) (fun e => ?_)
    · have hlt : (1 : Int) < (((z ++ [y]).map V.int).length : Int) := of_decide_eq_true e
      have hz : z ≠ [] := fun e => by
        subst e
        simp at hlt
      walk_at "rd"
      refine ⟨_, _, _, _, rfl, rfl, sql ho', hat, ?_⟩
      walk_at "rd"
      refine ite2 (fun e2 => ?_) (fun e2 => ?_)
      · have hy0 : y = 0 := yesI e2
        subst hy0
        refine ⟨fun σ' H'' => Same H H'' ∧ ∃ cur', σ' = [some (.ref a), some (.ref o)] ∧ H'' o = some (.lst (cur'.map V.int)) ∧ Trim l cur' ∧ cur'.length < (z ++ [0]).length, fun σ' H'' hn => ?_, ?_⟩
        · obtain ⟨u1, u2, rfl, u3, u4, u5⟩ := hn
          exact ⟨_, u5, u1, u2, rfl, u3, u4, rfl⟩
        · walk_at "rd"
          refine ⟨.inl ⟨rfl, _, sql ho'⟩, ?_⟩
          refine ⟨_, _, .int 0, rfl, rfl, ho', by simp, ?_⟩
          refine ⟨Same.mut sm ho, z, rfl, ?_, ⟨hz, ?_⟩, by simp⟩
          · rw [upd_same, List.map_append]
            simp
          · obtain ⟨m, hm⟩ := hTr.2
            exact ⟨m + 1, by rw [hm, List.append_assoc]; rfl⟩
      · walk_at "rd"
        exact ⟨_, _, rfl, .inl ⟨sql ho', done⟩⟩
    · refine ite2 (fun e' => absurd e' (by simpa using e)) (fun _ => ?_)
      walk_at "rd"
      exact ⟨_, _, rfl, .inl ⟨sql ho', done⟩⟩
end
end K79
/-! Through points; their certificates; the checker's helpers. -/
namespace K79
open PySem PySem.Spec PyProof.Rows L2
local macro_rules | `(tactic| walk_at "rd1") => `(tactic| first | refine ⟨_, rfl, ?_⟩ | refine ⟨_, _, rfl, rfl, ?_⟩ | refine ⟨_, _, rfl, ?_⟩ | refine ⟨rfl, ?_⟩)
local macro_rules | `(tactic| walk_at "rd") => `(tactic| repeat walk_at "rd1")
theorem reach_whole {ns : List Int} {m : Nat} (h : Reach ns m) : m = ns.length ↔ WholeS (stepsL ns) := by
  constructor
  · intro e i c hc
    have hi := (List.getElem?_eq_some_iff.mp hc).1
    rw [stepsL_len] at hi
    exact h.1 i c (by omega) hc
  · intro hw
    rcases h.2 with e | ⟨c, hc, hn⟩
    · exact e
    · exact absurd (hw m c hc) hn
theorem reach_lt {ns : List Int} {m : Nat} (h : Reach ns m) (hne : m ≠ ns.length) : m < ns.length := by
  rcases h.2 with e | ⟨c, hc, _⟩
  · exact absurd e hne
  · have hi := (List.getElem?_eq_some_iff.mp hc).1
    rw [stepsL_len] at hi
    exact hi
section
variable {P : Program} {w : World} {K : PySem.W.Frag} {mg : Str → Option Value} {base : Heap}
theorem Tab.poly_ne {ns : List Int} (h : Tab ns) : polyN (stepsL ns) ns.length ≠ [] := fun e => h.ne (by
  have := congrArg List.length e
  rw [polyN_len] at this
  exact List.length_eq_zero_iff.mp this)
def spThrough (K : PySem.W.Frag) : Sp := fun vs H Q _ => ∃ (a : Addr) (ns : List Int), vs = [.ref a] ∧ PtsAt K H a ns ∧ Tab ns ∧ ∀ H', Same H H' → (WholeS (stepsL ns) → ∀ p as, SqT K H' p (as.map V.int) → Trim (polyN (stepsL ns) ns.length) as → Q (.ref p) H') ∧ (¬ WholeS (stepsL ns) → Q .non H')
theorem sc_through : FnScope ["points", "numbers", "many"] ["points"] (defScope (topS 57)) := ⟨rfl, rfl, rfl, by decide +kernel, rfl, by decide +kernel, by decide +kernel⟩
theorem c_through (D : Df K mg "through" (topS 57)) (M : Md mg) (c_check_points : Cal P w K mg base 3 "check_points" (spChkPts K)) (c_whole_through : Cal P w K mg base 2 "whole_through" (spWholeThrough K)) (c_trimmed : Cal P w K mg base 1 "trimmed" (spTrimmed K)) : Cal P w K mg base 4 "through" (spThrough K) := by
  refine cal_of D sc_through (fun _ _ _ _ _ _ us hl => match us, hl with | [_], _ => rfl) (fun vs H Q E h => ?_) (fun f cdv A outer s H vs Q E hr h => ?_)
  · obtain ⟨a, _, rfl, _⟩ := h
    rfl
  · obtain ⟨a, ns, rfl, hP, hTab, q⟩ := h
    have nd := sc_through.nd
    refine ⟨_, (pss_cons (ps_expr (pe_c c_check_points hr (by decide) (by rfl) (pa_cons (pv 0) pa_nil))) (pss_cons (ps_asg (pe_c c_whole_through hr (by decide) (by rfl) (pa_cons (pv 0) pa_nil)) (pg_tup rfl (pgs_cons (pg_name (i := 1) nd rfl (by first | exact Or.inl rfl | exact Or.inr rfl)) (pgs_cons (pg_name (i := 2) nd rfl (by first | exact Or.inl rfl | exact Or.inr rfl)) pgs_nil)))) (pss_one (ps_ret (pe_ifExp (pt_cmpR op_eq (pv 2) (pe_callB call_len_seq (by rfl) M.len (by decide +kernel) (pa_cons (pv 0) pa_nil)) (nomark _)) (pe_c c_trimmed hr (by decide) (by rfl) (pa_cons (pv 1) pa_nil)) pe_non))))), ?_⟩
    have hlen := hTab.len
    walk_at "rd"
    refine ⟨_, _, rfl, hP, hTab, fun H1 s1 => ?_⟩
    walk_at "rd"
    refine ⟨_, _, rfl, hP.same stb_RP s1, hTab, fun H2 r nl m s2 hr2 hN hR => ?_⟩
    have sB := s1.trans s2
    refine ⟨r, _, rfl, hr2, rfl, ?_⟩
    walk_at "rd"
    obtain ⟨ws, hT, he⟩ := hP
    refine ⟨_, _, rfl, .inr (sB.tup hT), ?_⟩
    rw [he.1, ptsL_len]
    walk_at "rd"
    refine ite2 (fun e => ?_) (fun e => ?_)
    · have em : m = ns.length := by have := yesI e; omega
      subst em
      have hw := (reach_whole hR).mp rfl
      walk_at "rd"
      refine ⟨_, _, rfl, hN, hTab.poly_ne, by rw [polyN_len]; omega, fun H3 p as s3 hp ht => ?_⟩
      exact (q _ (sB.trans s3)).1 hw p as hp ht
    · have em : m ≠ ns.length := fun e' => noI e (by rw [e'])
      exact (q _ sB).2 fun hw => em ((reach_whole hR).mpr hw)
def spCertP (K : PySem.W.Frag) : Sp := fun vs H Q _ => ∃ (a : Addr) (ns : List Int), vs = [.ref a] ∧ PtsAt K H a ns ∧ Tab ns ∧ ∀ H' r c, Same H H' →
  (WholeS (stepsL ns) → ∀ s as, SqT K H' r [.ref c, .ref s] → SqT K H' c [.str "whole", .ref a] → SqT K H' s (as.map V.int) → Trim (polyN (stepsL ns) ns.length) as → Q (.ref r) H') ∧
  (¬ WholeS (stepsL ns) → ∀ m : Nat, m < ns.length → Reach ns m → SqT K H' r [.ref c, .int (m : Int)] → SqT K H' c [.str "never whole", .ref a] → Q (.ref r) H')
theorem sc_certify_points : FnScope ["points", "numbers", "many"] ["points"] (defScope (topS 60)) := ⟨rfl, rfl, rfl, by decide +kernel, rfl, by decide +kernel, by decide +kernel⟩
theorem c_certify_points (D : Df K mg "certify_points" (topS 60)) (M : Md mg) (c_check_points : Cal P w K mg base 3 "check_points" (spChkPts K)) (c_whole_through : Cal P w K mg base 2 "whole_through" (spWholeThrough K)) (c_trimmed : Cal P w K mg base 1 "trimmed" (spTrimmed K)) : Cal P w K mg base 4 "certify_points" (spCertP K) := by
  refine cal_of D sc_certify_points (fun _ _ _ _ _ _ us hl => match us, hl with | [_], _ => rfl) (fun vs H Q E h => ?_) (fun f cdv A outer s H vs Q E hr h => ?_)
  · obtain ⟨a, _, rfl, _⟩ := h
    rfl
  · obtain ⟨a, ns, rfl, hP, hTab, q⟩ := h
    have nd := sc_certify_points.nd
    refine ⟨_, (pss_cons (ps_expr (pe_c c_check_points hr (by decide) (by rfl) (pa_cons (pv 0) pa_nil))) (pss_cons (ps_asg (pe_c c_whole_through hr (by decide) (by rfl) (pa_cons (pv 0) pa_nil)) (pg_tup rfl (pgs_cons (pg_name (i := 1) nd rfl (by first | exact Or.inl rfl | exact Or.inr rfl)) (pgs_cons (pg_name (i := 2) nd rfl (by first | exact Or.inl rfl | exact Or.inr rfl)) pgs_nil)))) (pss_one (ps_ret (pe_ifExp (pt_cmpR op_eq (pv 2) (pe_callB call_len_seq (by rfl) M.len (by decide +kernel) (pa_cons (pv 0) pa_nil)) (nomark _)) (pe_tup (pa_cons (pe_tup (pa_cons pe_str (pa_cons (pv 0) pa_nil))) (pa_cons (pe_c c_trimmed hr (by decide) (by rfl) (pa_cons (pv 1) pa_nil)) pa_nil))) (pe_tup (pa_cons (pe_tup (pa_cons pe_str (pa_cons (pv 0) pa_nil))) (pa_cons (pv 2) pa_nil)))))))), ?_⟩
    have hlen := hTab.len
    walk_at "rd"
    refine ⟨_, _, rfl, hP, hTab, fun H1 s1 => ?_⟩
    walk_at "rd"
    refine ⟨_, _, rfl, hP.same stb_RP s1, hTab, fun H2 r nl m s2 hr2 hN hR => ?_⟩
    have sB := s1.trans s2
    refine ⟨r, _, rfl, hr2, rfl, ?_⟩
    walk_at "rd"
    obtain ⟨ws, hT, he⟩ := hP
    refine ⟨_, _, rfl, .inr (sB.tup hT), ?_⟩
    rw [he.1, ptsL_len]
    walk_at "rd"
    refine ite2 (fun e => ?_) (fun e => ?_)
    · have em : m = ns.length := by have := yesI e; omega
      subst em
      have hw := (reach_whole hR).mp rfl
      walk_at "rd"
      refine ⟨(show 2 ≤ sizeLine by decide), fun c hc => ?_⟩
      have s3 := same_upd (o := .tup [.str "whole", .ref a]) hc
      walk_at "rd"
      refine ⟨_, _, rfl, s3.seq hN, hTab.poly_ne, by rw [polyN_len]; omega, fun H4 p as s4 hp ht => ?_⟩
      walk_at "rd"
      refine ⟨(show 2 ≤ sizeLine by decide), fun r2 hr3 => ?_⟩
      have s5 := same_upd (o := .tup [.ref c, .ref p]) hr3
      exact (q _ r2 c (((sB.trans s3).trans s4).trans s5)).1 hw p as sqt_new ((s4.trans s5).tup sqt_new) (s5.tup hp) ht
    · have em : m ≠ ns.length := fun e' => noI e (by rw [e'])
      walk_at "rd"
      refine ⟨(show 2 ≤ sizeLine by decide), fun c hc => ?_⟩
      have s3 := same_upd (o := .tup [.str "never whole", .ref a]) hc
      walk_at "rd"
      refine ⟨(show 2 ≤ sizeLine by decide), fun r2 hr3 => ?_⟩
      have s5 := same_upd (o := .tup [.ref c, .int (m : Int)]) hr3
      exact (q _ r2 c ((sB.trans s3).trans s5)).2 (fun hw => em ((reach_whole hR).mpr hw)) m (reach_lt hR em) hR sqt_new (s5.tup sqt_new)
/-! ### the checker: divides, integers, values, points, pairs -/
def spDivides : Sp := fun vs H Q _ => ∃ b n : Int, vs = [.int b, .int n] ∧ 0 < b ∧ Q (.bl (decide (n % b = 0))) H
theorem sc_divides : FnScope ["base", "number"] ["base", "number"] (defScope (topS 66)) := ⟨rfl, rfl, rfl, by decide +kernel, rfl, by decide +kernel, by decide +kernel⟩
theorem c_divides (D : Df K mg "divides" (topS 66)) (M : Md mg) : Cal P w K mg base 1 "divides" spDivides := by
  refine cal_of D sc_divides (fun _ _ _ _ _ _ us hl => match us, hl with | [_, _], _ => rfl) (fun vs H Q E h => ?_) (fun f cdv A outer s H vs Q E hr h => ?_)
  · obtain ⟨a, b, rfl, _⟩ := h
    rfl
  · obtain ⟨b, n, rfl, hb, q⟩ := h
    have nd := sc_divides.nd
    refine ⟨_, (pss_one (ps_ret (pe_ifExp (pt_cmpR op_eq (pv 0) pe_int (nomark _)) (pe_cmpR op_eq (pv 1) pe_int (nomark _)) (pe_cmpR op_eq (pe_op op_mod (pv 1) (pv 0)) pe_int (nomark _))))), ?_⟩
    walk_at "rd"
    refine ite2 (fun e => ?_) (fun e => ?_)
    · have := yesI e
      omega
    · walk_at "rd"
      refine ⟨hb, ?_⟩
      walk_at "rd"
      rw [dI]
      exact q
theorem sc_are_whole_numbers : FnScope ["value", "many", "each"] ["value", "many"] (defScope (topS 67)) := ⟨rfl, rfl, rfl, by decide +kernel, rfl, by decide +kernel, by decide +kernel⟩
theorem c_are_whole_numbers (D : Df K mg "are_whole_numbers" (topS 67)) (M : Md mg) (c_is_integer : Cal P w K mg base 1 "is_integer" spIsInt) : Cal P w K mg base 2 "are_whole_numbers" (spAreInts K) := by
  refine cal_of D sc_are_whole_numbers (fun _ _ _ _ _ _ us hl => match us, hl with | [_, _], _ => rfl) (fun vs H Q E h => ?_) (fun f cdv A outer s H vs Q E hr h => ?_)
  · obtain ⟨a, ns, rfl, _⟩ := h
    rfl
  · obtain ⟨a, ns, rfl, hz, hT, q⟩ := h
    have nd := sc_are_whole_numbers.nd
    refine ⟨_, (pss_one (ps_ret (pe_and (pe_callB call_isi (by rfl) M.isinstance (by decide +kernel) (pa_cons (pv 0) (pa_cons (pe_bltn (v := .ty "tuple") (by rfl) M.tuple (by decide +kernel) rfl) pa_nil))) (pe_and (pe_cmpR op_eq (pe_callB call_len_seq (by rfl) M.len (by decide +kernel) (pa_cons (pv 0) pa_nil)) (pv 1) (nomark _)) (pe_one (pe_callB (cr_all rfl) (by rfl) M.all (by decide +kernel) (pa_cons (pe_lc (own := [("each", 2)]) (g := gName 2) rfl nd (pi_tup (pv 0)) (blkOk_by (own := [("each", 2)]) (N := ["value", "many", "each"]) (sc := defScope (topS 67)) (by decide +kernel)) (fun _ _ _ _ _ => (pg_name (i := 2) nd rfl (by first | exact Or.inl rfl | exact Or.inr rfl))) (fun _ _ _ _ _ => pts_nil) (fun _ _ _ _ _ => (pe_c c_is_integer hr (by decide) (by rfl) (pa_cons (pv 2) pa_nil)))) pa_nil))))))), ?_⟩
    walk_at "rd"
    refine ⟨_, _, _, _, true, rfl, .ty "tuple", ty_tup hT, kit_ty (by decide +kernel), ?_⟩
    walk_at "rd"
    refine ⟨_, _, rfl, .inr hT, ?_⟩
    walk_at "rd"
    rw [dI, decide_eq_true (by rw [List.length_map])]
    walk_at "rd"
    refine ⟨⟨_, hT⟩, fun D hD => ?_⟩
    refine lc_data (n := (ns.map V.int).length) RB stb_RB (List.replicate (ns.map V.int).length true) (fun _ => true) (walk_tup (xs := ns.map V.int)) (by rw [List.length_replicate]) (by rw [List.length_map]; exact hz) hD (fun H' s => s.tup hT) (fun i b x H' H'' N1 N0 hb sm hy hn1 hn0 => ?_) (fun H' ws sm hD' he => ?_)
    · obtain ⟨rfl, hx⟩ := hy
      rw [List.getElem?_map] at hx
      obtain ⟨n, hn, rfl⟩ := Option.map_eq_some_iff.mp hx
      walk_at "rd"
      have eb : b = true := List.eq_of_mem_replicate (List.mem_of_getElem? hb)
      subst eb
      exact hn1 rfl _ _ (Same.refl _) rfl
    · have ew := els_bools he
      rw [List.filter_eq_self.mpr (fun _ _ => rfl)] at ew
      subst ew
      refine ⟨_, _, rfl, sql hD', ?_⟩
      rw [all_true]
      exact q _ sm
def spAreVals (K : PySem.W.Frag) : Sp := fun vs H Q _ => ∃ (a : Addr) (ns : List Int), vs = [.ref a] ∧ SqT K H a (ns.map V.int) ∧ ns ≠ [] ∧ ns.length ≤ 40 ∧ ∀ H', Same H H' → Q (.bl true) H'
theorem sc_are_values : FnScope ["value"] ["value"] (defScope (topS 69)) := ⟨rfl, rfl, rfl, by decide +kernel, rfl, by decide +kernel, by decide +kernel⟩
theorem c_are_values (D : Df K mg "are_values" (topS 69)) (M : Md mg) (c_are_whole_numbers : Cal P w K mg base 2 "are_whole_numbers" (spAreInts K)) : Cal P w K mg base 3 "are_values" (spAreVals K) := by
  refine cal_of D sc_are_values (fun _ _ _ _ _ _ us hl => match us, hl with | [_], _ => rfl) (fun vs H Q E h => ?_) (fun f cdv A outer s H vs Q E hr h => ?_)
  · obtain ⟨a, ns, rfl, _⟩ := h
    rfl
  · obtain ⟨a, ns, rfl, hT, hne, hlen, q⟩ := h
    have nd := sc_are_values.nd
    refine ⟨_, (pss_one (ps_ret (pe_and (pe_callB call_isi (by rfl) M.isinstance (by decide +kernel) (pa_cons (pv 0) (pa_cons (pe_bltn (v := .ty "tuple") (by rfl) M.tuple (by decide +kernel) rfl) pa_nil))) (pe_and (pe_chain op_le op_le pe_int (pe_callB call_len_seq (by rfl) M.len (by decide +kernel) (pa_cons (pv 0) pa_nil)) (pe_gc (by rfl) M.LONGEST_VALUES)) (pe_one (pe_c c_are_whole_numbers hr (by decide) (by rfl) (pa_cons (pv 0) (pa_cons (pe_callB call_len_seq (by rfl) M.len (by decide +kernel) (pa_cons (pv 0) pa_nil)) pa_nil)))))))), ?_⟩
    have hp : 0 < ns.length := List.length_pos_iff.mpr hne
    walk_at "rd"
    refine ⟨_, _, _, _, true, rfl, .ty "tuple", ty_tup hT, kit_ty (by decide +kernel), ?_⟩
    walk_at "rd"
    refine ⟨_, _, rfl, .inr hT, ?_⟩
    rw [List.length_map]
    walk_at "rd"
    have e1 : decide ((1 : Int) ≤ (ns.length : Int)) = true := decide_eq_true (by omega)
    have e2 : decide ((ns.length : Int) ≤ 40) = true := decide_eq_true (by omega)
    rw [e1]
    walk_at "rd"
    rw [e2]
    walk_at "rd"
    refine ⟨_, _, rfl, .inr hT, ?_⟩
    rw [List.length_map]
    exact ⟨_, _, rfl, Nat.lt_of_le_of_lt hlen (by decide), hT, q⟩
theorem all_trueL {l : List Bool} (h : ∀ b ∈ l, b = true) : l.all id = true := by
  rw [List.all_eq_true]
  exact h
def spArePts (K : PySem.W.Frag) : Sp := fun vs H Q _ => ∃ (a : Addr) (ns : List Int), vs = [.ref a] ∧ PtsAt K H a ns ∧ Tab ns ∧ ∀ H', Same H H' → Q (.bl true) H'
theorem sc_are_points : FnScope ["value", "point", "before", "after"] ["value"] (defScope (topS 70)) := ⟨rfl, rfl, rfl, by decide +kernel, rfl, by decide +kernel, by decide +kernel⟩
theorem c_are_points (D : Df K mg "are_points" (topS 70)) (M : Md mg) (c_are_whole_numbers : Cal P w K mg base 2 "are_whole_numbers" (spAreInts K)) : Cal P w K mg base 3 "are_points" (spArePts K) := by
  refine cal_of D sc_are_points (fun _ _ _ _ _ _ us hl => match us, hl with | [_], _ => rfl) (fun vs H Q E h => ?_) (fun f cdv A outer s H vs Q E hr h => ?_)
  · obtain ⟨a, ns, rfl, _⟩ := h
    rfl
  · obtain ⟨a, ns, rfl, ⟨ws, hT, he⟩, hTab, q⟩ := h
    have nd := sc_are_points.nd
    refine ⟨_, (pss_cons (ps_if (pw_or (pt_not (pt_val (pe_callB call_isi (by rfl) M.isinstance (by decide +kernel) (pa_cons (pv 0) (pa_cons (pe_bltn (v := .ty "tuple") (by rfl) M.tuple (by decide +kernel) rfl) pa_nil))))) (pw_or1 (pt_not (pt_chain op_le op_le pe_int (pe_callB call_len_seq (by rfl) M.len (by decide +kernel) (pa_cons (pv 0) pa_nil)) (pe_gc (by rfl) M.LONGEST_POINTS))))).pt (pss_one (ps_ret pe_bl)) pss_nil) (pss_cons (ps_if (pt_not (pt_val (pe_callB (cr_all rfl) (by rfl) M.all (by decide +kernel) (pa_cons (pe_lc (own := [("point", 1)]) (g := gName 1) rfl nd (pi_tup (pv 0)) (blkOk_by (own := [("point", 1)]) (N := ["value", "point", "before", "after"]) (sc := defScope (topS 70)) (by decide +kernel)) (fun _ _ _ _ _ => (pg_name (i := 1) nd rfl (by first | exact Or.inl rfl | exact Or.inr rfl))) (fun _ _ _ _ _ => pts_nil) (fun _ _ _ _ _ => (pe_c c_are_whole_numbers hr (by decide) (by rfl) (pa_cons (pv 1) (pa_cons pe_int pa_nil))))) pa_nil)))) (pss_one (ps_ret pe_bl)) pss_nil) (pss_one (ps_ret (pe_callB (cr_all rfl) (by rfl) M.all (by decide +kernel) (pa_cons (pe_lc (own := [("before", 2), ("after", 3)]) (g := gTup K 2 (gCons (gName 2) (gCons (gName 3) gNil))) rfl nd (RZ.pi_zipA (by rfl) M.zip (pa_cons (pv 0) (pa_cons (pe_slice sl_tupA (pv 0) (po_some pe_int) po_none) pa_nil))) (blkOk_by (own := [("before", 2), ("after", 3)]) (N := ["value", "point", "before", "after"]) (sc := defScope (topS 70)) (by decide +kernel)) (fun _ _ _ _ _ => (pg_tup rfl (pgs_cons (pg_name (i := 2) nd rfl (by first | exact Or.inl rfl | exact Or.inr rfl)) (pgs_cons (pg_name (i := 3) nd rfl (by first | exact Or.inl rfl | exact Or.inr rfl)) pgs_nil)))) (fun _ _ _ _ _ => pts_nil) (fun _ _ _ _ _ => (pe_cmpR op_lt (pe_ix (kix_tup (K := K) rfl) (pv 2) pe_int (fun _ _ => rfl)) (pe_ix (kix_tup (K := K) rfl) (pv 3) pe_int (fun _ _ => rfl)) (nomark _)))) pa_nil)))))), ?_⟩
    have hlen := hTab.len
    have wl : ws.length = ns.length := by rw [he.1, ptsL_len]
    have hp : 0 < ns.length := List.length_pos_iff.mpr hTab.ne
    walk_at "rd"
    refine ⟨_, _, _, _, true, rfl, .ty "tuple", ty_tup hT, kit_ty (by decide +kernel), ?_⟩
    walk_at "rd"
    refine ⟨_, _, rfl, .inr hT, ?_⟩
    rw [wl]
    walk_at "rd"
    have e1 : decide ((1 : Int) ≤ (ns.length : Int)) = true := decide_eq_true (by omega)
    have e2 : decide ((ns.length : Int) ≤ 13) = true := decide_eq_true (by omega)
    rw [e1]
    walk_at "rd"
    rw [e2]
    walk_at "rd"
    refine ⟨⟨_, hT⟩, fun D hD => ?_⟩
    refine lc_data RB stb_RB (List.replicate ws.length true) (fun _ => true) (walk_tup (xs := ws)) (by rw [List.length_replicate]) (sz1000 (by omega)) hD (fun H' s => s.tup hT) (fun i b x H' H'' N1 N0 hb sm hy hn1 hn0 => ?_) (fun H' vs1 sm hD' he1 => ?_)
    · obtain ⟨rfl, hx⟩ := hy
      obtain ⟨t, n, rfl, hn, ht⟩ := PtsAt.at he hx
      walk_at "rd"
      refine ⟨t, [(i : Int), n], rfl, (show 2 < sizeLine by decide), sm.tup ht, fun H3 s3 => ?_⟩
      have eb : b = true := List.eq_of_mem_replicate (List.mem_of_getElem? hb)
      subst eb
      exact hn1 rfl _ _ s3 rfl
    · have ew := els_bools he1
      rw [List.filter_eq_self.mpr (fun _ _ => rfl)] at ew
      subst ew
      refine ⟨_, _, rfl, sql hD', ?_⟩
      rw [all_true]
      walk_at "rd"
      refine ⟨_, _, rfl, sm.tup hT, fun hw => ?_, fun _ p hp2 => ?_⟩
      · have h1 := hw.1
        rw [show HT.sIx ws.length 0 (some 1) = min 1 ws.length from HT.sIx_nat ws.length 0 1] at h1
        omega
      have s2 := same_upd (o := .tup (cutV ws (some 1) none)) hp2
      refine ⟨a, p, ws, cutV ws (some 1) none, rfl, .inr ⟨(sm.trans s2).tup hT, sqt_new, fun D2 hD2 => ?_⟩⟩
      have hP : SqT K (upd H' p (.tup (cutV ws (some 1) none))) p (cutV ws (some 1) none) := sqt_new
      generalize hH1 : upd H' p (.tup (cutV ws (some 1) none)) = H1 at *
      rw [cut_from1] at hP
      have sB := sm.trans s2
      refine lc_data RB stb_RB (List.replicate (ws.length - 1) true) (fun _ => true) (walk_zipT (K := K) (a := a) (b := p) (xs := ws) (ys := ws.drop 1) (n := ws.length - 1) (by rw [List.length_drop]; omega)) (by rw [List.length_replicate]) (sz1000 (by omega)) hD2 (fun H5 s5 => ⟨(sB.trans s5).tup hT, s5.tup hP⟩) (fun i b x H5 H6 N1 N0 hb s5 hy hn1 hn0 => ?_) (fun H5 vs5 s5 hD5 he5 => ?_)
      · obtain ⟨T, v1, v2, rfl, hT1, rfl, g1, g2⟩ := hy
        obtain ⟨t1, n1, rfl, hn1', ht1⟩ := PtsAt.at he g1
        have g2 : (ws.drop 1)[i]? = some v2 := g2
        rw [List.getElem?_drop] at g2
        obtain ⟨t2, n2, rfl, hn2', ht2⟩ := PtsAt.at he g2
        have eb : b = true := List.eq_of_mem_replicate (List.mem_of_getElem? hb)
        subst eb
        have s6 := same_upd (o := .tup [.ref t1, .ref t2]) hT1
        have sC := (sB.trans s5).trans s6
        refine ⟨T, _, rfl, sqt_new, rfl, ?_⟩
        walk_at "rd"
        refine ⟨_, _, _, _, rfl, rfl, sC.tup ht1, atI_nat (j := 0) rfl, ?_⟩
        walk_at "rd"
        refine ⟨_, _, _, _, rfl, rfl, sC.tup ht2, atI_nat (j := 0) rfl, ?_⟩
        walk_at "rd"
        refine hn1 rfl _ _ s6 ?_
        show V.bl (decide ((i : Int) < ((1 + i : Nat) : Int))) = V.bl true
        rw [decide_eq_true (by omega)]
      · have ew := els_bools he5
        rw [List.filter_eq_self.mpr (fun _ _ => rfl)] at ew
        subst ew
        refine ⟨_, _, rfl, sql hD5, ?_⟩
        rw [all_true]
        exact q _ (sB.trans s5)
def spPairB (K : PySem.W.Frag) : Sp := fun vs H Q _ => ∃ (a : Addr) (i j m : Int), vs = [.ref a, .int m] ∧ SqT K H a [.int i, .int j] ∧ 0 ≤ i ∧ i < j ∧ j < m ∧ ∀ H', Same H H' → Q (.bl true) H'
theorem sc_is_pair_below : FnScope ["value", "many"] ["value", "many"] (defScope (topS 71)) := ⟨rfl, rfl, rfl, by decide +kernel, rfl, by decide +kernel, by decide +kernel⟩
theorem c_is_pair_below (D : Df K mg "is_pair_below" (topS 71)) (M : Md mg) (c_are_whole_numbers : Cal P w K mg base 2 "are_whole_numbers" (spAreInts K)) : Cal P w K mg base 3 "is_pair_below" (spPairB K) := by
  refine cal_of D sc_is_pair_below (fun _ _ _ _ _ _ us hl => match us, hl with | [_, _], _ => rfl) (fun vs H Q E h => ?_) (fun f cdv A outer s H vs Q E hr h => ?_)
  · obtain ⟨a, _, _, _, rfl, _⟩ := h
    rfl
  · obtain ⟨a, i, j, m, rfl, hT, h0, h1, h2, q⟩ := h
    have nd := sc_is_pair_below.nd
    refine ⟨_, (pss_one (ps_ret (pe_and (pe_c c_are_whole_numbers hr (by decide) (by rfl) (pa_cons (pv 0) (pa_cons pe_int pa_nil))) (pe_one (pe_chain3 op_le op_lt op_lt pe_int (pe_ix (kix_tup (K := K) rfl) (pv 0) pe_int (fun _ _ => rfl)) (pe_ix (kix_tup (K := K) rfl) (pv 0) pe_int (fun _ _ => rfl)) (pv 1)))))), ?_⟩
    walk_at "rd"
    refine ⟨a, [i, j], rfl, (show 2 < sizeLine by decide), hT, fun H1 s1 => ?_⟩
    walk_at "rd"
    refine ⟨_, _, _, _, rfl, rfl, s1.tup hT, atI_nat (j := 0) rfl, ?_⟩
    walk_at "rd"
    have e0 : decide ((0 : Int) ≤ i) = true := decide_eq_true h0
    have e1 : decide (i < j) = true := decide_eq_true h1
    have e2 : decide (j < m) = true := decide_eq_true h2
    rw [e0]
    walk_at "rd"
    refine ⟨_, _, _, _, rfl, rfl, s1.tup hT, atI_nat (j := 1) rfl, ?_⟩
    walk_at "rd"
    rw [e1]
    walk_at "rd"
    exact (show Q (.bl (decide (j < m))) H1 by rw [e2]; exact q _ s1)
end
end K79
/-! The checker: values, points, claims. -/
namespace K79
open PySem PySem.Spec PyProof.Rows L2
local macro_rules | `(tactic| walk_at "rd1") => `(tactic| first | refine ⟨_, rfl, ?_⟩ | refine ⟨_, _, rfl, rfl, ?_⟩ | refine ⟨_, _, rfl, ?_⟩ | refine ⟨rfl, ?_⟩)
local macro_rules | `(tactic| walk_at "rd") => `(tactic| repeat walk_at "rd1")
/-- the differences taken i times -/
def dif : Nat → List Int → List Int
  | 0, l => l
  | i + 1, l => diffs (dif i l)
theorem dif_comm : ∀ (i : Nat) (l : List Int), dif i (diffs l) = diffs (dif i l)
  | 0, _ => rfl
  | i + 1, l => by
    show diffs (dif i (diffs l)) = diffs (diffs (dif i l))
    rw [dif_comm i l]
theorem dif_len : ∀ (i : Nat) (l : List Int), (dif i l).length = l.length - i
  | 0, _ => rfl
  | i + 1, l => by
    show (diffs (dif i l)).length = _
    rw [diffs_len, dif_len i l]
    omega
theorem steps_dif : ∀ (i : Nat) (l : List Int), (stepsL l)[i]? = (dif i l)[0]?
  | 0, [] => rfl
  | 0, _ :: _ => rfl
  | i + 1, [] => by
    have h1 : (stepsL [])[i + 1]? = none := by simp [stepsL, stepsN]
    have h2 := dif_len (i + 1) []
    rw [h1, List.getElem?_eq_none (by rw [h2]; exact Nat.le_of_eq (by simp))]
  | i + 1, x :: r => by
    have e : stepsL (x :: r) = x :: stepsL (diffs (x :: r)) := by
      show x :: stepsN r.length (diffs (x :: r)) = x :: stepsN (diffs (x :: r)).length (diffs (x :: r))
      rw [diffs_len]
      rfl
    rw [e, List.getElem?_cons_succ, steps_dif i (diffs (x :: r)), dif_comm]
    rfl
theorem evalP_snoc (x a : Int) : ∀ l : List Int, evalP (l ++ [a]) x = evalP l x + a * x ^ l.length
  | [] => by simp [evalP]
  | b :: r => by
    show evalP (r ++ [a]) x * x + b = evalP r x * x + b + a * x ^ (r.length + 1)
    rw [evalP_snoc x a r, Int.add_mul, Int.pow_succ, Int.mul_assoc]
    omega
theorem atI_neg1 {ws : List V} {k : Nat} {v : V} (hl : ws.length = k + 1) (h : ws[k]? = some v) : atI ws (-1) = some v := by
  unfold atI ixN
  rw [if_neg (by decide), if_pos (by rw [hl]; omega)]
  show ws[(-1 + ((ws.length : Nat) : Int)).toNat]? = some v
  rw [hl, show (-1 + ((k + 1 : Nat) : Int)).toNat = k by omega]
  exact h
def tmsL (cs : List Int) (k : Nat) : List Int := (List.range k).map fun j => cs.getD j 0 / (fact j : Int)
theorem tmsL_len (cs : List Int) (k : Nat) : (tmsL cs k).length = k := by
  unfold tmsL
  rw [List.length_map, List.length_range]
theorem tmsL_succ (cs : List Int) (k : Nat) : tmsL cs (k + 1) = tmsL cs k ++ [cs.getD k 0 / (fact k : Int)] := by
  unfold tmsL
  rw [List.range_succ, List.map_append]
  rfl
theorem tmsL_at {cs : List Int} {k j : Nat} {t : Int} (h : (tmsL cs k)[j]? = some t) : j < k ∧ t = cs.getD j 0 / (fact j : Int) := by
  have hj := (List.getElem?_eq_some_iff.mp h).1
  rw [tmsL_len] at hj
  unfold tmsL at h
  rw [List.getElem?_map, List.getElem?_range hj] at h
  exact ⟨hj, (Option.some.inj h).symm⟩
theorem cut_to (xs : List V) (k : Nat) (h : k ≤ xs.length) : cutV xs none (some (k : Int)) = xs.take k := by
  unfold cutV
  rw [HT.sIx_none, HT.sIx_nat, show min k xs.length = k by omega, List.drop_zero, Nat.sub_zero]
section
variable {P : Program} {w : World} {K : PySem.W.Frag} {mg : Str → Option Value} {base : Heap}
/-! ### is_shown_of_values -/
def spShownV (K : PySem.W.Frag) : Sp := fun vs H Q _ => ∃ (a : Addr) (ns : List Int), SqT K H a (ns.map V.int) ∧ ns.length ≤ 40 ∧
  ((∃ s : Addr, vs = [.str "kept", .ref a, .ref s] ∧ SqT K H s ((stepsL ns).map V.int) ∧ KeptS (stepsL ns)) ∨ (∃ (q : Addr) (p : Int × Int), vs = [.str "loose", .ref a, .ref q] ∧ SqT K H q [.int p.1, .int p.2] ∧ p ∈ looseL ns)) ∧ ∀ H', Same H H' → Q (.bl true) H'
theorem sc_is_shown_of_values : FnScope ["word", "values", "certificate", "first", "second", "row", "at", "step", "part", "before", "after"] ["word", "values", "certificate"] (defScope (topS 78)) := ⟨rfl, rfl, rfl, by decide +kernel, rfl, by decide +kernel, by decide +kernel⟩
theorem c_is_shown_of_values (D : Df K mg "is_shown_of_values" (topS 78)) (M : Md mg) (c_are_whole_numbers : Cal P w K mg base 2 "are_whole_numbers" (spAreInts K)) (c_is_pair_below : Cal P w K mg base 3 "is_pair_below" (spPairB K)) (c_divides : Cal P w K mg base 1 "divides" spDivides) : Cal P w K mg base 4 "is_shown_of_values" (spShownV K) := by
  refine cal_of D sc_is_shown_of_values (fun _ _ _ _ _ _ us hl => match us, hl with | [_, _, _], _ => rfl) (fun vs H Q E h => ?_) (fun f cdv A outer s H vs Q E hr h => ?_)
  · obtain ⟨a, _, _, _, ⟨_, rfl, _⟩ | ⟨_, _, rfl, _⟩, _⟩ := h
    · rfl
    · rfl
  · obtain ⟨a, ns, hT, hlen, hw, q⟩ := h
    have nd := sc_is_shown_of_values.nd
    refine ⟨_, (pss_cons (ps_if (pt_cmpR op_eq (pv 0) pe_str (nomark _)) (pss_cons (ps_if (pt_not (pt_val (pe_c c_is_pair_below hr (by decide) (by rfl) (pa_cons (pv 2) (pa_cons (pe_callB call_len_seq (by rfl) M.len (by decide +kernel) (pa_cons (pv 1) pa_nil)) pa_nil))))) (pss_one (ps_ret pe_bl)) pss_nil) (pss_cons (ps_asg (pv 2) (pg_tup rfl (pgs_cons (pg_name (i := 3) nd rfl (by first | exact Or.inl rfl | exact Or.inr rfl)) (pgs_cons (pg_name (i := 4) nd rfl (by first | exact Or.inl rfl | exact Or.inr rfl)) pgs_nil)))) (pss_one (ps_ret (pe_not (pe_c c_divides hr (by decide) (by rfl) (pa_cons (pe_op op_sub (pv 4) (pv 3)) (pa_cons (pe_op op_sub (pe_ix (kix_tup (K := K) rfl) (pv 1) (pv 4) (fun _ _ => rfl)) (pe_ix (kix_tup (K := K) rfl) (pv 1) (pv 3) (fun _ _ => rfl))) pa_nil)))))))) pss_nil) (pss_cons (ps_if (pt_not (pt_val (pe_c c_are_whole_numbers hr (by decide) (by rfl) (pa_cons (pv 2) (pa_cons (pe_callB call_len_seq (by rfl) M.len (by decide +kernel) (pa_cons (pv 1) pa_nil)) pa_nil))))) (pss_one (ps_ret pe_bl)) pss_nil) (pss_cons (ps_set (i := 5) nd rfl (Or.inl rfl) (pe_callTy call_list_of (by rfl) M.list (by decide +kernel) (pa_cons (pv 1) pa_nil))) (pss_cons (ps_for PassesOwn.never rfl (pi_enumT (by rfl) M.enumerate (pa_cons (pv 2) pa_nil)) (pg_tup rfl (pgs_cons (pg_name (i := 6) nd rfl (by first | exact Or.inl rfl | exact Or.inr rfl)) (pgs_cons (pg_name (i := 7) nd rfl (by first | exact Or.inl rfl | exact Or.inr rfl)) pgs_nil))) (pss_cons (ps_if (pw_or (pt_cmpR op_ne (pe_ix (kix_list (K := K) rfl) (pv 5) pe_int (fun _ _ => rfl)) (pv 7) (nomark _)) (pw_or1 (pt_not (pt_val (pe_callB (cr_all rfl) (by rfl) M.all (by decide +kernel) (pa_cons (pe_lc (own := [("part", 8)]) (g := gName 8) rfl nd (pi_range2 (by rfl) M.range (pa_cons pe_int (pa_cons (pe_op op_add (pv 6) pe_int) pa_nil))) (blkOk_by (own := [("part", 8)]) (N := ["word", "values", "certificate", "first", "second", "row", "at", "step", "part", "before", "after"]) (sc := defScope (topS 78)) (by decide +kernel)) (fun _ _ _ _ _ => (pg_name (i := 8) nd rfl (by first | exact Or.inl rfl | exact Or.inr rfl))) (fun _ _ _ _ _ => pts_nil) (fun _ _ _ _ _ => (pe_c c_divides hr (by decide) (by rfl) (pa_cons (pv 8) (pa_cons (pv 7) pa_nil))))) pa_nil)))))).pt (pss_one (ps_ret pe_bl)) pss_nil) (pss_one (ps_setLc (i := 5) (own := [("before", 9), ("after", 10)]) (g := gTup K 2 (gCons (gName 9) (gCons (gName 10) gNil))) rfl nd rfl rfl (sw_true rfl rfl rfl (by decide +kernel)) (pi_zip (by rfl) M.zip (pa_cons (pv 5) (pa_cons (pe_slice sl_list (pv 5) (po_some pe_int) po_none) pa_nil))) (blkOk_by (own := [("before", 9), ("after", 10)]) (N := ["word", "values", "certificate", "first", "second", "row", "at", "step", "part", "before", "after"]) (sc := defScope (topS 78)) (by decide +kernel)) (fun _ _ _ _ _ => (pg_tup rfl (pgs_cons (pg_name (i := 9) nd rfl (by first | exact Or.inl rfl | exact Or.inr rfl)) (pgs_cons (pg_name (i := 10) nd rfl (by first | exact Or.inl rfl | exact Or.inr rfl)) pgs_nil)))) (fun _ _ _ _ _ => pts_nil) (fun _ _ _ _ _ => (pe_op op_sub (pv 10) (pv 9))))))) (pss_one (ps_ret pe_bl)))))), ?_⟩
    rcases hw with ⟨sa, rfl, hS, hK⟩ | ⟨qa, ⟨p1, p2⟩, rfl, hq, hp⟩
    · walk_at "rd"
      refine ⟨_, _, rfl, .inr hT, ?_⟩
      rw [List.length_map]
      refine ⟨sa, stepsL ns, ?_, by rw [stepsL_len]; exact Nat.lt_of_le_of_lt hlen (by decide), hS, fun H1 s1 => ?_⟩
      · rw [stepsL_len]
      walk_at "rd"
      refine ⟨_, _, rfl, .inr (s1.tup hT), fun r hr1 => ?_⟩
      have s2 := s1.trans (same_upd (o := .lst (ns.map V.int)) hr1)
      walk_at "rd"
      refine ⟨_, _, rfl, s2.tup hS, ?_⟩
      refine for_it (walk_enumT (xs := (stepsL ns).map V.int)) (fun i σ H' => Same H H' ∧ ∃ (r : Addr) (t1 t2 t3 t4 t5 t6 t7 : Option V), σ = [some (.str "kept"), some (.ref a), some (.ref sa), t1, t2, some (.ref r), t3, t4, t5, t6, t7] ∧ SqL K H' r ((dif i ns).map V.int))
        ⟨s2, r, none, none, none, none, none, none, none, rfl, sql_new⟩ (fun i σ H' _ h => h.1.tup hS) (fun i y σ H' H'' hi hP hy => ?_) (fun σ H' hP => ?_)
      · obtain ⟨sm, r, t1, t2, t3, t4, t5, t6, t7, rfl, hR⟩ := hP
        obtain ⟨T, u, v, rfl, hT1, rfl, hu, hv⟩ := hy
        obtain ⟨c, hc, rfl⟩ := map_at hv
        have eu : u = .int (i : Nat) := (Option.some.inj hu).symm
        subst eu
        rw [List.length_map, stepsL_len] at hi
        have sT := same_upd (o := .tup [.int (i : Nat), .int c]) hT1
        have hrow : ((dif i ns).map V.int)[0]? = some (.int c) := by
          rw [List.getElem?_map, ← steps_dif, hc]
          rfl
        refine ⟨T, _, rfl, sqt_new, rfl, ?_⟩
        walk_at "rd"
        refine ⟨_, _, _, _, rfl, rfl, sT.seq hR, atI_nat (j := 0) hrow, ?_⟩
        walk_at "rd"
        refine ite2 (fun e => absurd rfl (yesN e)) (fun _ => ?_)
        walk_at "rd"
        refine ⟨by omega, fun D1 hD1 => ?_⟩
        refine lc_data RB stb_RB (List.replicate (((i : Nat) : Int) + 1 - 1).toNat true) (fun _ => true) (walk_range (lo := 1) (n := (((i : Nat) : Int) + 1 - 1).toNat)) (by rw [List.length_replicate]) (sz1000 (by omega)) hD1 (fun _ _ => trivial) (fun j b x H5 H6 N1 N0 hb s5 hy hn1 hn0 => ?_) (fun H5 vs5 s5 hD5 he5 => ?_)
        · obtain ⟨rfl, rfl⟩ := hy
          have hj := (List.getElem?_eq_some_iff.mp hb).1
          rw [List.length_replicate] at hj
          have eb : b = true := List.eq_of_mem_replicate (List.mem_of_getElem? hb)
          subst eb
          walk_at "rd"
          refine ⟨by omega, ?_⟩
          refine hn1 rfl _ _ (Same.refl _) ?_
          have hdv : ((1 : Int) + (j : Int)) ∣ c := by
            have h1 := dvd_L i (1 + j) (by omega) (by omega)
            have h2 : (((1 + j : Nat)) : Int) ∣ (L i : Int) := by exact_mod_cast h1
            have h3 := Int.dvd_trans h2 (hK i c hc)
            rw [show (((1 + j : Nat)) : Int) = (1 : Int) + (j : Int) by omega] at h3
            exact h3
          show V.bl (decide (c % ((1 : Int) + (j : Int)) = 0)) = V.bl true
          rw [decide_eq_true (Int.emod_eq_zero_of_dvd hdv)]
        · have ew := els_bools he5
          rw [List.filter_eq_self.mpr (fun _ _ => rfl)] at ew
          subst ew
          refine ⟨_, _, rfl, sql hD5, ?_⟩
          rw [all_true]
          walk_at "rd"
          have sU := sT.trans s5
          refine ⟨_, _, rfl, sU.seq hR, fun c2 hc2 => ?_⟩
          have s6 := same_upd (o := .lst (cutV ((dif i ns).map V.int) (some 1) none)) hc2
          refine ⟨r, c2, _, _, rfl, (sU.trans s6).seq hR, sql upd_same, fun D hD => ?_⟩
          have hR6 := (sU.trans s6).seq hR
          have hC6 : SqL K (upd H5 c2 (.lst (cutV ((dif i ns).map V.int) (some 1) none))) c2 (((dif i ns).drop 1).map V.int) := by
            rw [cut_from1, ← List.map_drop]
            exact sql_new
          have sV := (sm.trans sU).trans s6
          generalize hH6 : upd H5 c2 (.lst (cutV ((dif i ns).map V.int) (some 1) none)) = H6 at *
          refine lc_data RI stb_RI (diffs (dif i ns)) (fun _ => true) (walk_zip (K := K) (a := r) (b := c2) (n := (diffs (dif i ns)).length) (xs := (dif i ns).map V.int) (ys := ((dif i ns).drop 1).map V.int) ?_) rfl ?_ hD (fun H7 s7 => ⟨s7.seq hR6, s7.seq hC6⟩) (fun j b v H7 H8 N1 N0 hb s7 hy hn1 hn0 => ?_) (fun H7 ws s7 hD7 he7 => ?_)
          · rw [diffs_len, List.length_map, List.length_map, List.length_drop]
            omega
          · rw [diffs_len, dif_len]
            exact sz1000 (by omega)
          · obtain ⟨T2, v1, v2, rfl, hT2, rfl, g1, g2⟩ := hy
            obtain ⟨n1, hn1', rfl⟩ := map_at g1
            obtain ⟨n2, hn2', rfl⟩ := map_at g2
            rw [List.getElem?_drop, Nat.add_comm 1 j] at hn2'
            have hbb := diffs_at _ _ _ _ hn1' hn2'
            have eb : b = n2 - n1 := Option.some.inj (hb.symm.trans hbb)
            subst eb
            refine ⟨T2, _, rfl, sqt_new, rfl, ?_⟩
            walk_at "rd"
            exact hn1 rfl _ _ (same_upd hT2) rfl
          · have ew := els_ints he7
            rw [List.filter_eq_self.mpr (fun _ _ => rfl)] at ew
            subst ew
            exact ⟨sV.trans s7, D, _, _, _, _, _, _, _, rfl, sql hD7⟩
      · obtain ⟨sm, r, t1, t2, t3, t4, t5, t6, t7, rfl, hR⟩ := hP
        walk_at "rd"
        exact q _ sm
    · obtain ⟨⟨i, j, hij, hj, ep⟩, hb⟩ := mem_looseL.mp hp
      have ep1 : p1 = (i : Int) := congrArg Prod.fst ep
      have ep2 : p2 = (j : Int) := congrArg Prod.snd ep
      subst ep1 ep2
      have hu : (ns.map V.int)[i]? = some (.int ns[i]) := by
        rw [List.getElem?_map, List.getElem?_eq_getElem (by omega)]
        rfl
      have hv : (ns.map V.int)[j]? = some (.int ns[j]) := by
        rw [List.getElem?_map, List.getElem?_eq_getElem hj]
        rfl
      rw [bad_at (List.getElem?_eq_getElem (show i < ns.length by omega)) (List.getElem?_eq_getElem hj)] at hb
      have hnd : ¬ ((j : Int) - (i : Int)) ∣ ns[j] - ns[i] := fun hd => by
        have h1 : (ns[i] - ns[j]) % ((j : Int) - (i : Int)) = 0 := Int.emod_eq_zero_of_dvd (by
          rw [show ns[i] - ns[j] = -(ns[j] - ns[i]) by omega]
          exact (Int.dvd_neg).mpr hd)
        rw [h1] at hb
        simp at hb
      walk_at "rd"
      refine ⟨_, _, rfl, .inr hT, ?_⟩
      rw [List.length_map]
      refine ⟨qa, (i : Int), (j : Int), _, rfl, hq, by omega, by omega, by omega, fun H1 s1 => ?_⟩
      walk_at "rd"
      refine ⟨qa, _, rfl, s1.tup hq, rfl, ?_⟩
      walk_at "rd"
      refine ⟨_, _, _, _, rfl, rfl, s1.tup hT, atI_nat hv, ?_⟩
      walk_at "rd"
      refine ⟨_, _, _, _, rfl, rfl, s1.tup hT, atI_nat hu, ?_⟩
      walk_at "rd"
      refine ⟨by omega, ?_⟩
      walk_at "rd"
      have e0 : decide ((ns[j] - ns[i]) % ((j : Int) - (i : Int)) = 0) = false := decide_eq_false (fun h => hnd (Int.dvd_of_emod_eq_zero h))
      exact (show Q (.bl (!decide ((ns[j] - ns[i]) % ((j : Int) - (i : Int)) = 0))) H1 by rw [e0]; exact q _ s1)
/-! ### value_there -/
def spValueThere (K : PySem.W.Frag) : Sp := fun vs H Q _ => ∃ (a : Addr) (as : List Int) (x : Int), vs = [.ref a, .int x] ∧ SqT K H a (as.map V.int) ∧ as.length ≤ 14 ∧ Bnd 200 as ∧ x.natAbs < 2 ^ 20 ∧ ∀ H', Same H H' → Q (.int (evalP as x)) H'
theorem sc_value_there : FnScope ["factors", "place", "found", "power", "factor"] ["factors", "place"] (defScope (topS 79)) := ⟨rfl, rfl, rfl, by decide +kernel, rfl, by decide +kernel, by decide +kernel⟩
theorem c_value_there (D : Df K mg "value_there" (topS 79)) (M : Md mg) : Cal P w K mg base 1 "value_there" (spValueThere K) := by
  refine cal_of D sc_value_there (fun _ _ _ _ _ _ us hl => match us, hl with | [_, _], _ => rfl) (fun vs H Q E h => ?_) (fun f cdv A outer s H vs Q E hr h => ?_)
  · obtain ⟨a, _, _, rfl, _⟩ := h
    rfl
  · obtain ⟨a, as, x, rfl, hT, hlen, hB, hx, q⟩ := h
    have nd := sc_value_there.nd
    refine ⟨_, (pss_cons (ps_asg (pe_tup (pa_cons pe_int (pa_cons pe_int pa_nil))) (pg_tup rfl (pgs_cons (pg_name (i := 2) nd rfl (by first | exact Or.inl rfl | exact Or.inr rfl)) (pgs_cons (pg_name (i := 3) nd rfl (by first | exact Or.inl rfl | exact Or.inr rfl)) pgs_nil)))) (pss_cons (ps_for PassesOwn.never rfl (pi_tup (pv 0)) (pg_name (i := 4) nd rfl (by first | exact Or.inl rfl | exact Or.inr rfl)) (pss_one (ps_par (i := 2) (j := 3) rfl nd rfl rfl (by decide) rfl rfl (pa_cons (pe_op op_add (pv 2) (pe_op op_mulW (pv 4) (pv 3))) (pa_cons (pe_op op_mulW (pv 3) (pv 1)) pa_nil)) (by rfl)))) (pss_one (ps_ret (pv 2))))), ?_⟩
    walk_at "rd"
    refine ⟨(show 2 ≤ sizeLine by decide), fun o ho => ?_⟩
    have s1 := same_upd (o := .tup [.int 0, .int 1]) ho
    refine ⟨o, _, rfl, sqt_new, rfl, ?_⟩
    walk_at "rd"
    refine ⟨⟨_, s1.tup hT⟩, ?_⟩
    refine for_it (walk_tup (xs := as.map V.int)) (fun i σ H' => Same H H' ∧ ∃ t1 : Option V, σ = [some (.ref a), some (.int x), some (.int (evalP (as.take i) x)), some (.int (x ^ i)), t1]) ⟨s1, none, ?_⟩ (fun i σ H' _ h => h.1.tup hT) (fun i y σ H' H'' hi hP hy => ?_) (fun σ H' hP => ?_)
    · show _ = [some (V.ref a), some (V.int x), some (V.int (evalP (as.take 0) x)), some (V.int (x ^ 0)), none]
      rw [Int.pow_zero]
      rfl
    · obtain ⟨sm, x1, rfl⟩ := hP
      obtain ⟨rfl, hyy⟩ := hy
      obtain ⟨n, hn, rfl⟩ := map_at hyy
      rw [List.length_map] at hi
      have hpow : Sm (x ^ i) := by
        show (x ^ i).natAbs < 2 ^ 1000
        rw [Int.natAbs_pow]
        have h1 : x.natAbs ^ i ≤ (2 ^ 20) ^ i := Nat.pow_le_pow_left (Nat.le_of_lt hx) i
        rw [← Nat.pow_mul] at h1
        exact Nat.lt_of_le_of_lt h1 (Nat.pow_lt_pow_right (by decide) (by omega))
      walk_at "rd"
      refine ⟨sm_mul (sm_200 (hB n (List.mem_of_getElem? hn))) hpow, ?_⟩
      walk_at "rd"
      refine ⟨sm_mul hpow (sm_pl hx), ?_⟩
      walk_at "rd"
      refine ⟨sm, some (.int n), ?_⟩
      have e1 : as.take (i + 1) = as.take i ++ [n] := by
        rw [List.take_add_one, hn]
        rfl
      have e2 : (as.take i).length = i := by
        rw [List.length_take]
        omega
      rw [e1, evalP_snoc, e2, Int.pow_succ]
      rfl
    · obtain ⟨sm, x1, rfl⟩ := hP
      rw [List.length_map, List.take_length]
      walk_at "rd"
      exact q _ sm
/-! ### gap_and_product -/
theorem getD_bnd {cs : List Int} (h : Bnd 100 cs) (j : Nat) : (cs.getD j 0).natAbs ≤ 2 ^ 100 := by
  rw [List.getD_eq_getElem?_getD]
  cases hc : cs[j]? with
  | none => exact Nat.zero_le _
  | some c => exact Nat.le_of_lt (h c (List.mem_of_getElem? hc))
theorem sm_tm {cs : List Int} (h : Bnd 100 cs) (j : Nat) : Sm (cs.getD j 0 / (fact j : Int)) :=
  Nat.lt_of_le_of_lt (Nat.le_trans (Int.natAbs_ediv_le_natAbs _ _) (getD_bnd h j)) (by decide)
theorem sm_ff {x : Int} (hx : x.natAbs < 2 ^ 20) {j : Nat} (hj : j ≤ 13) : Sm (ff x j) := by
  rw [← evalP_ff]
  have h1 := evalP_bnd hx (ffP j) (ffP_bnd j (by omega))
  rw [ffP_len] at h1
  exact Nat.lt_trans h1 (Nat.pow_lt_pow_right (by decide) (by omega))
def spGap (K : PySem.W.Frag) : Sp := fun vs H Q _ => ∃ (p b : Addr) (ns : List Int) (k : Nat) (c : Int), vs = [.ref p, .ref b] ∧ TupOf K (RP K) H p ((ptsL ns).take (k + 1)) ∧ SqL K H b ((tmsL (stepsL ns) k).map V.int) ∧ Tab ns ∧ (stepsL ns)[k]? = some c ∧ WholeTo (stepsL ns) k ∧ ∀ H' r, Same H H' → SqT K H' r [.int c, .int (fact k : Int)] → Q (.ref r) H'
theorem sc_gap_and_product : FnScope ["points", "times", "place", "value", "product", "spot", "here", "factor"] ["points", "times"] (defScope (topS 80)) := ⟨rfl, rfl, rfl, by decide +kernel, rfl, by decide +kernel, by decide +kernel⟩
theorem c_gap_and_product (D : Df K mg "gap_and_product" (topS 80)) (M : Md mg) : Cal P w K mg base 1 "gap_and_product" (spGap K) := by
  refine cal_of D sc_gap_and_product (fun _ _ _ _ _ _ us hl => match us, hl with | [_, _], _ => rfl) (fun vs H Q E h => ?_) (fun f cdv A outer s H vs Q E hr h => ?_)
  · obtain ⟨a, _, _, _, _, rfl, _⟩ := h
    rfl
  · obtain ⟨p, b, ns, k, c, rfl, ⟨ws, hT, he⟩, hL, hTab, hc, hW, q⟩ := h
    have nd := sc_gap_and_product.nd
    refine ⟨_, (pss_cons (ps_asg (pe_ix (kix_tup (K := K) rfl) (pv 0) (pe_un un_neg pe_int) (fun _ _ => rfl)) (pg_tup rfl (pgs_cons (pg_name (i := 2) nd rfl (by first | exact Or.inl rfl | exact Or.inr rfl)) (pgs_cons (pg_name (i := 3) nd rfl (by first | exact Or.inl rfl | exact Or.inr rfl)) pgs_nil)))) (pss_cons (ps_set (i := 4) nd rfl (Or.inl rfl) pe_int) (pss_cons (ps_for PassesOwn.never rfl (pi_zipM (by rfl) M.zip (pa_cons (pv 0) (pa_cons (pv 1) pa_nil))) (pg_tup rfl (pgs_cons (pg_tup rfl (pgs_cons (pg_name (i := 5) nd rfl (by first | exact Or.inl rfl | exact Or.inr rfl)) (pgs_cons (pg_name (i := 6) nd rfl (by first | exact Or.inl rfl | exact Or.inr rfl)) pgs_nil))) (pgs_cons (pg_name (i := 7) nd rfl (by first | exact Or.inl rfl | exact Or.inr rfl)) pgs_nil))) (pss_one (ps_par (i := 3) (j := 4) rfl nd rfl rfl (by decide) rfl rfl (pa_cons (pe_op op_sub (pv 3) (pe_op op_mulW (pv 7) (pv 4))) (pa_cons (pe_op op_mulW (pv 4) (pe_op op_sub (pv 2) (pv 5))) pa_nil)) (by rfl)))) (pss_one (ps_ret (pe_tup (pa_cons (pv 3) (pa_cons (pv 4) pa_nil)))))))), ?_⟩
    have hlen := hTab.len
    have hk : k < ns.length := by
      have := (List.getElem?_eq_some_iff.mp hc).1
      rw [stepsL_len] at this
      exact this
    have wl : ws.length = k + 1 := by
      rw [he.1, List.length_take, ptsL_len]
      omega
    obtain ⟨v, hv⟩ : ∃ v, ns[k]? = some v := ⟨_, List.getElem?_eq_getElem hk⟩
    have hpt : ∀ (j : Nat) (y : V), ws[j]? = some y → ∃ t u, y = .ref t ∧ SqT K H t [.int (j : Int), .int u] := fun j y hy => by
      obtain ⟨x, hx, t, rfl, ht⟩ := he.atV hy
      have hj := (List.getElem?_eq_some_iff.mp hy).1
      rw [List.getElem?_take, if_pos (by omega)] at hx
      obtain ⟨u, _, rfl⟩ := ptsL_of hx
      exact ⟨t, u, rfl, ht⟩
    obtain ⟨yk, hyk, tk, rfl, htk⟩ := he.at (i := k) (x := ((k : Int), v)) (by rw [List.getElem?_take, if_pos (by omega)]; exact ptsL_at hv)
    walk_at "rd"
    refine ⟨_, _, _, _, rfl, rfl, hT, atI_neg1 wl hyk, ?_⟩
    refine ⟨tk, _, rfl, htk, rfl, ?_⟩
    walk_at "rd"
    refine ⟨p, b, ws, _, rfl, hT, hL, ?_⟩
    have hkb : ((k : Nat) : Int).natAbs < 2 ^ 20 := by omega
    refine for_it (walk_zipM (K := K) (a := p) (b := b) (xs := ws) (ys := (tmsL (stepsL ns) k).map V.int) (n := k) (by rw [wl, List.length_map, tmsL_len]; omega)) (fun j σ H' => Same H H' ∧ ∃ t1 t2 t3 : Option V, σ = [some (.ref p), some (.ref b), some (.int (k : Int)), some (.int (v - newtS (stepsL ns) (k : Int) j)), some (.int (ff (k : Int) j)), t1, t2, t3]) ⟨Same.refl _, none, none, none, ?_⟩ (fun j σ H' _ h => ⟨h.1.tup hT, h.1.seq hL⟩) (fun j y σ H' H'' hj hP hy => ?_) (fun σ H' hP => ?_)
    · show _ = [some (V.ref p), some (V.ref b), some (V.int (k : Int)), some (V.int (v - 0)), some (V.int 1), none, none, none]
      rw [Int.sub_zero]
      rfl
    · obtain ⟨sm, t1, t2, t3, rfl⟩ := hP
      obtain ⟨T, y1, y2, rfl, hT1, rfl, g1, g2⟩ := hy
      obtain ⟨t, u, rfl, ht⟩ := hpt j y1 g1
      obtain ⟨tm, htm, rfl⟩ := map_at g2
      obtain ⟨_, rfl⟩ := tmsL_at htm
      have sT := sm.trans (same_upd (o := .tup [.ref t, .int ((stepsL ns).getD j 0 / (fact j : Int))]) hT1)
      refine ⟨T, _, rfl, sqt_new, rfl, ?_⟩
      walk_at "rd"
      refine ⟨t, _, rfl, sT.tup ht, rfl, ?_⟩
      walk_at "rd"
      refine ⟨sm_mul (sm_tm hTab.c j) (sm_ff hkb (by omega)), ?_⟩
      walk_at "rd"
      refine ⟨sm_mul (sm_ff hkb (by omega)) (sm_le (n := 100) (by omega) (by decide)), ?_⟩
      walk_at "rd"
      refine ⟨sT, some (.int (j : Int)), some (.int u), some (.int ((stepsL ns).getD j 0 / (fact j : Int))), ?_⟩
      show _ = [some (V.ref p), some (V.ref b), some (V.int (k : Int)), some (V.int (v - (newtS (stepsL ns) (k : Int) j + (stepsL ns).getD j 0 / (fact j : Int) * ff (k : Int) j))), some (V.int (ff (k : Int) j * ((k : Int) - (j : Int)))), _, _, _]
      rw [show v - (newtS (stepsL ns) (k : Int) j + (stepsL ns).getD j 0 / (fact j : Int) * ff (k : Int) j) = v - newtS (stepsL ns) (k : Int) j - (stepsL ns).getD j 0 / (fact j : Int) * ff (k : Int) j by omega]
      rfl
    · obtain ⟨sm, t1, t2, t3, rfl⟩ := hP
      have e1 : v - newtS (stepsL ns) (k : Int) k = c := by
        rw [newt_val k k (by rw [stepsL_len]; omega) hW]
        exact next_step hv hc
      rw [e1, ff_self]
      walk_at "rd"
      refine ⟨(show 2 ≤ sizeLine by decide), fun r hr2 => ?_⟩
      exact q _ r (sm.trans (same_upd hr2)) sqt_new
/-! ### is_stopped_at -/
def spStopped (K : PySem.W.Frag) : Sp := fun vs H Q _ => ∃ (a : Addr) (ns : List Int) (m : Nat), vs = [.ref a, .int (m : Int)] ∧ PtsAt K H a ns ∧ Tab ns ∧ Reach ns m ∧ m < ns.length ∧ ∀ H', Same H H' → Q (.bl true) H'
/-- the first points of a tuple of points, as a slice gives them -/
theorem pts_cut {H : Hp} {a : Addr} {ns : List Int} {ws : List V} (hT : SqT K H a ws) (he : Els (RP K) H ws (ptsL ns)) (k : Nat) (hk : k + 1 ≤ ns.length) {z : Int} (hz : z = (k : Int)) (Q : VK) (h : ∀ p H', Same H H' → TupOf K (RP K) H' p ((ptsL ns).take (k + 1)) → Q (.ref p) H') : rSlA K (.ref a) none (some (z + 1)) H Q := by
  subst hz
  have wl : ws.length = ns.length := by rw [he.1, ptsL_len]
  have ec : (k : Int) + 1 = ((k + 1 : Nat) : Int) := by omega
  rw [ec]
  refine ⟨a, ws, rfl, hT, fun hw => ?_, fun _ p hp => ?_⟩
  · have h2 := hw.2
    rw [HT.sIx_nat] at h2
    have e : k + 1 = ns.length := by omega
    refine h a H (Same.refl _) ⟨ws, hT, ?_⟩
    rw [e, ← ptsL_len ns, List.take_length]
    exact he
  · have s1 := same_upd (o := .tup (cutV ws none (some ((k + 1 : Nat) : Int)))) hp
    refine h p _ s1 ⟨_, sqt_new, ?_⟩
    rw [cut_to ws (k + 1) (by omega)] at s1 ⊢
    exact (he.take (k + 1)).ext stb_RP s1.ext
theorem sc_is_stopped_at : FnScope ["points", "index", "times", "at", "gap", "product"] ["points", "index"] (defScope (topS 81)) := ⟨rfl, rfl, rfl, by decide +kernel, rfl, by decide +kernel, by decide +kernel⟩
theorem c_is_stopped_at (D : Df K mg "is_stopped_at" (topS 81)) (M : Md mg) (c_gap_and_product : Cal P w K mg base 1 "gap_and_product" (spGap K)) (c_divides : Cal P w K mg base 1 "divides" spDivides) : Cal P w K mg base 2 "is_stopped_at" (spStopped K) := by
  refine cal_of D sc_is_stopped_at (fun _ _ _ _ _ _ us hl => match us, hl with | [_, _], _ => rfl) (fun vs H Q E h => ?_) (fun f cdv A outer s H vs Q E hr h => ?_)
  · obtain ⟨a, _, _, rfl, _⟩ := h
    rfl
  · obtain ⟨a, ns, m, rfl, ⟨ws, hT, he⟩, hTab, hR, hm, q⟩ := h
    have nd := sc_is_stopped_at.nd
    refine ⟨_, (pss_cons (ps_set (i := 2) nd rfl (Or.inl rfl) (pe_lst pa_nil)) (pss_cons (ps_for PassesOwn.never rfl (pi_range1 (by rfl) M.range (pa_cons (pv 1) pa_nil)) (pg_name (i := 3) nd rfl (by first | exact Or.inl rfl | exact Or.inr rfl)) (pss_cons (ps_asg (pe_c c_gap_and_product hr (by decide) (by rfl) (pa_cons (pe_slice sl_tupA (pv 0) po_none (po_some (pe_op op_add (pv 3) pe_int))) (pa_cons (pv 2) pa_nil))) (pg_tup rfl (pgs_cons (pg_name (i := 4) nd rfl (by first | exact Or.inl rfl | exact Or.inr rfl)) (pgs_cons (pg_name (i := 5) nd rfl (by first | exact Or.inl rfl | exact Or.inr rfl)) pgs_nil)))) (pss_cons (ps_if (pt_not (pt_val (pe_c c_divides hr (by decide) (by rfl) (pa_cons (pv 5) (pa_cons (pv 4) pa_nil))))) (pss_one (ps_ret pe_bl)) pss_nil) (pss_one (ps_expr (pe_bm PySem.F.plainAttrs_list PySem.F.slot_list_append PySem.F.type_list_append mt_append (pv 2) (pa_cons (pe_op op_fdivW (pv 4) (pv 5)) pa_nil))))))) (pss_cons (ps_asg (pe_c c_gap_and_product hr (by decide) (by rfl) (pa_cons (pe_slice sl_tupA (pv 0) po_none (po_some (pe_op op_add (pv 1) pe_int))) (pa_cons (pv 2) pa_nil))) (pg_tup rfl (pgs_cons (pg_name (i := 4) nd rfl (by first | exact Or.inl rfl | exact Or.inr rfl)) (pgs_cons (pg_name (i := 5) nd rfl (by first | exact Or.inl rfl | exact Or.inr rfl)) pgs_nil)))) (pss_one (ps_ret (pe_not (pe_c c_divides hr (by decide) (by rfl) (pa_cons (pv 5) (pa_cons (pv 4) pa_nil))))))))), ?_⟩
    have hlen := hTab.len
    have cl := stepsL_len ns
    walk_at "rd"
    refine ⟨Nat.zero_le _, fun o ho => ?_⟩
    have s1 := same_upd (o := .lst []) ho
    walk_at "rd"
    refine ⟨by omega, by omega, ?_⟩
    refine for_it (walk_range (lo := 0) (n := ((m : Nat) : Int).toNat)) (fun i σ H' => Same H H' ∧ H' o = some (.lst ((tmsL (stepsL ns) i).map V.int)) ∧ ∃ t1 t2 t3 : Option V, σ = [some (.ref a), some (.int (m : Int)), some (.ref o), t1, t2, t3]) ⟨s1, upd_same, none, none, none, rfl⟩ (fun _ _ _ _ _ => trivial) (fun i y σ H' H'' hi hP hy => ?_) (fun σ H' hP => ?_)
    · obtain ⟨sm, ho', t1, t2, t3, rfl⟩ := hP
      obtain ⟨rfl, rfl⟩ := hy
      have him : i < m := by omega
      obtain ⟨c, hc⟩ : ∃ c, (stepsL ns)[i]? = some c := ⟨_, List.getElem?_eq_getElem (by omega)⟩
      have hd := hR.1 i c him hc
      walk_at "rd"
      refine pts_cut (sm.tup hT) (he.ext stb_RP sm.ext) i (by omega) (Int.zero_add _) _ (fun p H3 s3 hp => ?_)
      walk_at "rd"
      refine ⟨p, o, ns, i, c, rfl, hp, sql (s3 _ _ ho'), hTab, hc, (fun j e hj he' => hR.1 j e (by omega) he'), fun H4 r s4 hr4 => ?_⟩
      have hfp : (0 : Int) < (fact i : Int) := by exact_mod_cast fact_pos i
      refine ⟨r, _, rfl, hr4, rfl, ?_⟩
      walk_at "rd"
      refine ⟨hfp, ?_⟩
      have e0 : decide (c % (fact i : Int) = 0) = true := decide_eq_true (Int.emod_eq_zero_of_dvd hd)
      rw [e0]
      have s5 := s3.trans s4
      walk_at "rd"
      refine ⟨.inl ⟨rfl, _, sql (s5 _ _ ho')⟩, ?_⟩
      walk_at "rd"
      refine ⟨sm_div hfp (sm_nat (fact_le _ (by omega))), ?_⟩
      refine ⟨_, _, _, rfl, rfl, s5 _ _ ho', sz1000 (by rw [List.length_map, tmsL_len]; omega), ?_⟩
      walk_at "rd"
      refine ⟨Same.mut (sm.trans s5) ho, ?_, _, _, _, rfl⟩
      rw [upd_same, tmsL_succ, List.map_append, getD_some hc]
      rfl
    · obtain ⟨sm, ho', t1, t2, t3, rfl⟩ := hP
      rw [Int.toNat_natCast] at ho'
      rcases hR.2 with e | ⟨c, hc, hnd⟩
      · omega
      walk_at "rd"
      refine pts_cut (sm.tup hT) (he.ext stb_RP sm.ext) m (by omega) rfl _ (fun p H3 s3 hp => ?_)
      walk_at "rd"
      refine ⟨p, o, ns, m, c, rfl, hp, sql (s3 _ _ ho'), hTab, hc, hR.1, fun H4 r s4 hr4 => ?_⟩
      have hfp : (0 : Int) < (fact m : Int) := by exact_mod_cast fact_pos m
      refine ⟨r, _, rfl, hr4, rfl, ?_⟩
      walk_at "rd"
      refine ⟨hfp, ?_⟩
      have e0 : decide (c % (fact m : Int) = 0) = false := decide_eq_false (fun h => hnd (Int.dvd_of_emod_eq_zero h))
      rw [e0]
      walk_at "rd"
      exact q _ ((sm.trans s3).trans s4)
end
end K79
/-! The checker's last two: points and claims. -/
namespace K79
open PySem PySem.Spec PyProof.Rows L2
local macro_rules | `(tactic| walk_at "rd1") => `(tactic| first | refine ⟨_, rfl, ?_⟩ | refine ⟨_, _, rfl, rfl, ?_⟩ | refine ⟨_, _, rfl, ?_⟩ | refine ⟨rfl, ?_⟩)
local macro_rules | `(tactic| walk_at "rd") => `(tactic| repeat walk_at "rd1")
theorem trim_len {l as : List Int} (h : Trim l as) : as.length ≤ l.length := by
  obtain ⟨_, m, e⟩ := h
  rw [e, List.length_append]
  omega
theorem trim_bnd {b : Nat} {l as : List Int} (h : Trim l as) (hB : Bnd b l) : Bnd b as := fun x hx => by
  obtain ⟨_, m, e⟩ := h
  exact hB x (by rw [e]; exact List.mem_append_left _ hx)
theorem trim_eval {l as : List Int} (h : Trim l as) (x : Int) : evalP as x = evalP l x := by
  obtain ⟨_, m, e⟩ := h
  rw [e, evalP_zeros]
theorem trim_pos {l as : List Int} (h : Trim l as) : 0 < as.length := List.length_pos_iff.mpr h.1
section
variable {P : Program} {w : World} {K : PySem.W.Frag} {mg : Str → Option Value} {base : Heap}
/-- what a certificate of points is -/
def WholeC (K : PySem.W.Frag) (H : Hp) (ns : List Int) (word : Str) (v : V) : Prop :=
  (word = "never whole" ∧ ∃ m : Nat, v = .int (m : Int) ∧ Reach ns m ∧ m < ns.length) ∨ (word = "whole" ∧ ∃ (s : Addr) (as : List Int), v = .ref s ∧ SqT K H s (as.map V.int) ∧ WholeS (stepsL ns) ∧ Trim (polyN (stepsL ns) ns.length) as)
def spShownP (K : PySem.W.Frag) : Sp := fun vs H Q _ => ∃ (a : Addr) (ns : List Int) (word : Str) (v : V), vs = [.str word, .ref a, v] ∧ PtsAt K H a ns ∧ Tab ns ∧ WholeC K H ns word v ∧ ∀ H', Same H H' → Q (.bl true) H'
theorem sc_is_shown_of_points : FnScope ["word", "points", "certificate", "place", "value"] ["word", "points", "certificate"] (defScope (topS 82)) := ⟨rfl, rfl, rfl, by decide +kernel, rfl, by decide +kernel, by decide +kernel⟩
theorem c_is_shown_of_points (D : Df K mg "is_shown_of_points" (topS 82)) (M : Md mg) (c_are_whole_numbers : Cal P w K mg base 2 "are_whole_numbers" (spAreInts K)) (c_is_integer : Cal P w K mg base 1 "is_integer" spIsInt) (c_is_stopped_at : Cal P w K mg base 2 "is_stopped_at" (spStopped K)) (c_value_there : Cal P w K mg base 1 "value_there" (spValueThere K)) : Cal P w K mg base 3 "is_shown_of_points" (spShownP K) := by
  refine cal_of D sc_is_shown_of_points (fun _ _ _ _ _ _ us hl => match us, hl with | [_, _, _], _ => rfl) (fun vs H Q E h => ?_) (fun f cdv A outer s H vs Q E hr h => ?_)
  · obtain ⟨a, _, _, _, rfl, _⟩ := h
    rfl
  · obtain ⟨a, ns, word, v, rfl, hPt, hTab, hC, q⟩ := h
    have nd := sc_is_shown_of_points.nd
    refine ⟨_, (pss_cons (ps_if (pt_cmpR op_eq (pv 0) pe_str (nomark _)) (pss_one (ps_ret (pe_and (pe_c c_is_integer hr (by decide) (by rfl) (pa_cons (pv 2) pa_nil)) (pe_and (pe_chain op_le op_lt pe_int (pv 2) (pe_callB call_len_seq (by rfl) M.len (by decide +kernel) (pa_cons (pv 1) pa_nil))) (pe_one (pe_c c_is_stopped_at hr (by decide) (by rfl) (pa_cons (pv 1) (pa_cons (pv 2) pa_nil)))))))) pss_nil) (pss_cons (ps_if (pw_or (pt_not (pt_val (pe_callB call_isi (by rfl) M.isinstance (by decide +kernel) (pa_cons (pv 2) (pa_cons (pe_bltn (v := .ty "tuple") (by rfl) M.tuple (by decide +kernel) rfl) pa_nil))))) (pw_or1 (pt_not (pt_chain op_le op_le pe_int (pe_callB call_len_seq (by rfl) M.len (by decide +kernel) (pa_cons (pv 2) pa_nil)) (pe_callB call_len_seq (by rfl) M.len (by decide +kernel) (pa_cons (pv 1) pa_nil)))))).pt (pss_one (ps_ret pe_bl)) pss_nil) (pss_cons (ps_if (pt_not (pt_val (pe_c c_are_whole_numbers hr (by decide) (by rfl) (pa_cons (pv 2) (pa_cons (pe_callB call_len_seq (by rfl) M.len (by decide +kernel) (pa_cons (pv 2) pa_nil)) pa_nil))))) (pss_one (ps_ret pe_bl)) pss_nil) (pss_one (ps_ret (pe_callB (cr_all rfl) (by rfl) M.all (by decide +kernel) (pa_cons (pe_lc (own := [("place", 3), ("value", 4)]) (g := gTup K 2 (gCons (gName 3) (gCons (gName 4) gNil))) rfl nd (pi_tup (pv 1)) (blkOk_by (own := [("place", 3), ("value", 4)]) (N := ["word", "points", "certificate", "place", "value"]) (sc := defScope (topS 82)) (by decide +kernel)) (fun _ _ _ _ _ => (pg_tup rfl (pgs_cons (pg_name (i := 3) nd rfl (by first | exact Or.inl rfl | exact Or.inr rfl)) (pgs_cons (pg_name (i := 4) nd rfl (by first | exact Or.inl rfl | exact Or.inr rfl)) pgs_nil)))) (fun _ _ _ _ _ => pts_nil) (fun _ _ _ _ _ => (pe_cmpR op_eq (pe_c c_value_there hr (by decide) (by rfl) (pa_cons (pv 2) (pa_cons (pv 3) pa_nil))) (pv 4) (nomark _)))) pa_nil))))))), ?_⟩
    have hlen := hTab.len
    obtain ⟨ws, hT, he⟩ := hPt
    have wl : ws.length = ns.length := by rw [he.1, ptsL_len]
    rcases hC with ⟨rfl, m, rfl, hR, hm⟩ | ⟨rfl, sa, as, rfl, hS, hW, hTr⟩
    · walk_at "rd"
      refine ⟨_, _, rfl, .inr hT, ?_⟩
      rw [wl]
      have e2 : decide ((m : Int) < (ns.length : Int)) = true := decide_eq_true (by omega)
      walk_at "rd"
      rw [e2]
      walk_at "rd"
      exact ⟨a, ns, m, rfl, ⟨ws, hT, he⟩, hTab, hR, hm, q⟩
    · have al := trim_len hTr
      rw [polyN_len] at al
      have ap := trim_pos hTr
      walk_at "rd"
      refine ⟨_, _, _, _, true, rfl, .ty "tuple", ty_tup hS, kit_ty (by decide +kernel), ?_⟩
      walk_at "rd"
      refine ⟨_, _, rfl, .inr hS, ?_⟩
      rw [List.length_map]
      have e1 : decide ((1 : Int) ≤ (as.length : Int)) = true := decide_eq_true (by omega)
      have e2 : decide ((as.length : Int) ≤ (ns.length : Int)) = true := decide_eq_true (by omega)
      walk_at "rd"
      rw [e1]
      walk_at "rd"
      refine ⟨_, _, rfl, .inr hT, ?_⟩
      rw [wl]
      walk_at "rd"
      rw [e2]
      walk_at "rd"
      refine ⟨_, _, rfl, .inr hS, ?_⟩
      rw [List.length_map]
      walk_at "rd"
      refine ⟨Nat.lt_of_le_of_lt (Nat.le_trans al hlen) (by decide), hS, fun H1 s1 => ?_⟩
      walk_at "rd"
      refine ⟨⟨_, s1.tup hT⟩, fun D1 hD1 => ?_⟩
      refine lc_data RB stb_RB (List.replicate ws.length true) (fun _ => true) (walk_tup (xs := ws)) (by rw [List.length_replicate]) (sz1000 (by omega)) hD1 (fun H5 s5 => (s1.trans s5).tup hT) (fun j b x H5 H6 N1 N0 hb s5 hy hn1 hn0 => ?_) (fun H5 vs5 s5 hD5 he5 => ?_)
      · obtain ⟨rfl, hx⟩ := hy
        obtain ⟨t, u, rfl, hu, ht⟩ := PtsAt.at he hx
        have hj := (List.getElem?_eq_some_iff.mp hx).1
        have eb : b = true := List.eq_of_mem_replicate (List.mem_of_getElem? hb)
        subst eb
        refine ⟨t, _, rfl, (s1.trans s5).tup ht, rfl, ?_⟩
        walk_at "rd"
        refine ⟨sa, as, (j : Int), rfl, (s1.trans s5).tup hS, by omega, trim_bnd hTr ((polyN_bnd2 hTab.c (by omega)).mono (by decide)), by omega, fun H7 s7 => ?_⟩
        walk_at "rd"
        refine hn1 rfl _ _ s7 ?_
        show V.bl (decide (V.int (evalP as (j : Int)) = V.int u)) = V.bl true
        rw [trim_eval hTr, poly_at hW hu]
        rw [decide_eq_true rfl]
      · have ew := els_bools he5
        rw [List.filter_eq_self.mpr (fun _ _ => rfl)] at ew
        subst ew
        refine ⟨_, _, rfl, sql hD5, ?_⟩
        rw [all_true]
        exact q _ (s1.trans s5)
/-! ### accepts -/
def spAccepts (K : PySem.W.Frag) : Sp := fun vs H Q _ => ∃ (c a : Addr) (word : Str) (v : V) (ns : List Int), vs = [.ref c, v] ∧ SqT K H c [.str word, .ref a] ∧ (∀ H', Same H H' → Q (.bl true) H') ∧
  ((SqT K H a (ns.map V.int) ∧ ns ≠ [] ∧ ns.length ≤ 40 ∧ ((word = "kept" ∧ ∃ s : Addr, v = .ref s ∧ SqT K H s ((stepsL ns).map V.int) ∧ KeptS (stepsL ns)) ∨ (word = "loose" ∧ ∃ (p : Addr) (x : Int × Int), v = .ref p ∧ SqT K H p [.int x.1, .int x.2] ∧ x ∈ looseL ns))) ∨
   (PtsAt K H a ns ∧ Tab ns ∧ WholeC K H ns word v))
theorem sc_accepts : FnScope ["claim", "certificate", "word", "told"] ["claim", "certificate"] (defScope (topS 83)) := ⟨rfl, rfl, rfl, by decide +kernel, rfl, by decide +kernel, by decide +kernel⟩
theorem c_accepts (D : Df K mg "accepts" (topS 83)) (M : Md mg) (c_are_values : Cal P w K mg base 3 "are_values" (spAreVals K)) (c_is_shown_of_values : Cal P w K mg base 4 "is_shown_of_values" (spShownV K)) (c_are_points : Cal P w K mg base 3 "are_points" (spArePts K)) (c_is_shown_of_points : Cal P w K mg base 3 "is_shown_of_points" (spShownP K)) : Cal P w K mg base 5 "accepts" (spAccepts K) := by
  refine cal_of D sc_accepts (fun _ _ _ _ _ _ us hl => match us, hl with | [_, _], _ => rfl) (fun vs H Q E h => ?_) (fun f cdv A outer s H vs Q E hr h => ?_)
  · obtain ⟨_, _, _, _, _, rfl, _⟩ := h
    rfl
  · obtain ⟨c, a, word, v, ns, rfl, hc, q, hw⟩ := h
    have nd := sc_accepts.nd
    refine ⟨_, (pss_cons (ps_if (pw_or (pt_not (pt_val (pe_callB call_isi (by rfl) M.isinstance (by decide +kernel) (pa_cons (pv 0) (pa_cons (pe_bltn (v := .ty "tuple") (by rfl) M.tuple (by decide +kernel) rfl) pa_nil))))) (pw_or (pt_cmpR op_lt (pe_callB call_len_seq (by rfl) M.len (by decide +kernel) (pa_cons (pv 0) pa_nil)) pe_int (nomark _)) (pw_or1 (pt_not (pt_val (pe_callB call_isi (by rfl) M.isinstance (by decide +kernel) (pa_cons (pe_ix (kix_tup (K := K) rfl) (pv 0) pe_int (fun _ _ => rfl)) (pa_cons (pe_bltn (v := .ty "str") (by rfl) M.str (by decide +kernel) rfl) pa_nil)))))))).pt (pss_one (ps_ret pe_bl)) pss_nil) (pss_cons (ps_par (i := 2) (j := 3) rfl nd rfl rfl (by decide) rfl rfl (pa_cons (pe_ix (kix_tup (K := K) rfl) (pv 0) pe_int (fun _ _ => rfl)) (pa_cons (pe_slice sl_tupA (pv 0) (po_some pe_int) po_none) pa_nil)) (by rfl)) (pss_cons (ps_if (pt_cmpR op_in_seq (pv 2) (pe_tup (pa_cons pe_str (pa_cons pe_str pa_nil))) (by with_unfolding_all rfl)) pss_never pss_nil) (pss_cons (ps_if (pt_cmpR op_ne (pe_callB call_len_seq (by rfl) M.len (by decide +kernel) (pa_cons (pv 3) pa_nil)) pe_int (nomark _)) (pss_one (ps_ret pe_bl)) pss_nil) (pss_cons (ps_if (pt_cmpR op_in_seq (pv 2) (pe_tup (pa_cons pe_str (pa_cons pe_str pa_nil))) (by with_unfolding_all rfl)) pss_never pss_nil) (pss_cons (ps_if (pt_cmpR op_in_seq (pv 2) (pe_tup (pa_cons pe_str (pa_cons pe_str pa_nil))) (by with_unfolding_all rfl)) (pss_one (ps_ret (pe_and (pe_c c_are_values hr (by decide) (by rfl) (pa_cons (pe_ix (kix_tup (K := K) rfl) (pv 3) pe_int (fun _ _ => rfl)) pa_nil)) (pe_one (pe_c c_is_shown_of_values hr (by decide) (by rfl) (pa_cons (pv 2) (pa_cons (pe_ix (kix_tup (K := K) rfl) (pv 3) pe_int (fun _ _ => rfl)) (pa_cons (pv 1) pa_nil)))))))) pss_nil) (pss_cons (ps_if (pt_cmpR op_in_seq (pv 2) (pe_tup (pa_cons pe_str (pa_cons pe_str pa_nil))) (by with_unfolding_all rfl)) (pss_one (ps_ret (pe_and (pe_c c_are_points hr (by decide) (by rfl) (pa_cons (pe_ix (kix_tup (K := K) rfl) (pv 3) pe_int (fun _ _ => rfl)) pa_nil)) (pe_one (pe_c c_is_shown_of_points hr (by decide) (by rfl) (pa_cons (pv 2) (pa_cons (pe_ix (kix_tup (K := K) rfl) (pv 3) pe_int (fun _ _ => rfl)) (pa_cons (pv 1) pa_nil)))))))) pss_nil) (pss_one (ps_ret pe_bl))))))))), ?_⟩
    rcases hw with ⟨hT, hne, hlen, ⟨rfl, sa, rfl, hS, hK⟩ | ⟨rfl, p, x, rfl, hp, hx⟩⟩ | ⟨hPt, hTab, ⟨rfl, m, rfl, hR, hm⟩ | ⟨rfl, sa, as, rfl, hS, hW, hTr⟩⟩
    · walk_at "rd"
      refine ⟨_, _, _, _, true, rfl, .ty "tuple", ty_tup hc, kit_ty (by decide +kernel), ?_⟩
      walk_at "rd"
      refine ⟨_, _, rfl, .inr hc, ?_⟩
      walk_at "rd"
      refine ⟨_, _, _, _, rfl, rfl, hc, atI_nat (j := 0) rfl, ?_⟩
      walk_at "rd"
      refine ⟨_, _, _, _, true, rfl, .ty "str", .base (.str _), kit_ty (by decide +kernel), ?_⟩
      walk_at "rd"
      refine ⟨_, _, _, _, rfl, rfl, hc, atI_nat (j := 0) rfl, ?_⟩
      walk_at "rd"
      refine ⟨_, _, rfl, hc, fun hw => absurd hw.1 (show ¬ (HT.sIx 2 0 (some 1) = 0) by decide), fun _ t ht => ?_⟩
      have s1 := same_upd (o := .tup (cutV [.str "kept", .ref a] (some 1) none)) ht
      walk_at "rd"
      refine ⟨(show 2 ≤ sizeLine by decide), fun o1 ho1 => ?_⟩
      have s2 := same_upd (o := .tup [.str "sure", .str "open"]) ho1
      refine ⟨_, _, rfl, .inr sqt_new, rfl, rfl, ?_⟩
      walk_at "rd"
      refine ⟨_, _, rfl, .inr (s2.tup sqt_new), ?_⟩
      walk_at "rd"
      refine ⟨(show 2 ≤ sizeLine by decide), fun o2 ho2 => ?_⟩
      have s3 := s2.trans (same_upd (o := .tup [.str "fits", .str "quarrel"]) ho2)
      refine ⟨_, _, rfl, .inr sqt_new, rfl, rfl, ?_⟩
      walk_at "rd"
      refine ⟨(show 2 ≤ sizeLine by decide), fun o3 ho3 => ?_⟩
      have s4 := s3.trans (same_upd (o := .tup [.str "kept", .str "loose"]) ho3)
      refine ⟨_, _, rfl, .inr sqt_new, rfl, rfl, ?_⟩
      walk_at "rd"
      have hq : SqT K _ t [.ref a] := Same.tup s4 sqt_new
      have sB := s1.trans s4
      refine ⟨_, _, _, _, rfl, rfl, hq, atI_nat (j := 0) rfl, ?_⟩
      walk_at "rd"
      refine ⟨a, ns, rfl, sB.tup hT, hne, hlen, fun H2 sC => ?_⟩
      walk_at "rd"
      refine ⟨_, _, _, _, rfl, rfl, sC.tup hq, atI_nat (j := 0) rfl, ?_⟩
      walk_at "rd"
      have sD := sB.trans sC
      exact ⟨a, ns, sD.tup hT, hlen, .inl ⟨sa, rfl, sD.tup hS, hK⟩, fun H3 s9 => q _ (sD.trans s9)⟩
    · walk_at "rd"
      refine ⟨_, _, _, _, true, rfl, .ty "tuple", ty_tup hc, kit_ty (by decide +kernel), ?_⟩
      walk_at "rd"
      refine ⟨_, _, rfl, .inr hc, ?_⟩
      walk_at "rd"
      refine ⟨_, _, _, _, rfl, rfl, hc, atI_nat (j := 0) rfl, ?_⟩
      walk_at "rd"
      refine ⟨_, _, _, _, true, rfl, .ty "str", .base (.str _), kit_ty (by decide +kernel), ?_⟩
      walk_at "rd"
      refine ⟨_, _, _, _, rfl, rfl, hc, atI_nat (j := 0) rfl, ?_⟩
      walk_at "rd"
      refine ⟨_, _, rfl, hc, fun hw => absurd hw.1 (show ¬ (HT.sIx 2 0 (some 1) = 0) by decide), fun _ t ht => ?_⟩
      have s1 := same_upd (o := .tup (cutV [.str "loose", .ref a] (some 1) none)) ht
      walk_at "rd"
      refine ⟨(show 2 ≤ sizeLine by decide), fun o1 ho1 => ?_⟩
      have s2 := same_upd (o := .tup [.str "sure", .str "open"]) ho1
      refine ⟨_, _, rfl, .inr sqt_new, rfl, rfl, ?_⟩
      walk_at "rd"
      refine ⟨_, _, rfl, .inr (s2.tup sqt_new), ?_⟩
      walk_at "rd"
      refine ⟨(show 2 ≤ sizeLine by decide), fun o2 ho2 => ?_⟩
      have s3 := s2.trans (same_upd (o := .tup [.str "fits", .str "quarrel"]) ho2)
      refine ⟨_, _, rfl, .inr sqt_new, rfl, rfl, ?_⟩
      walk_at "rd"
      refine ⟨(show 2 ≤ sizeLine by decide), fun o3 ho3 => ?_⟩
      have s4 := s3.trans (same_upd (o := .tup [.str "kept", .str "loose"]) ho3)
      refine ⟨_, _, rfl, .inr sqt_new, rfl, rfl, ?_⟩
      walk_at "rd"
      have hq : SqT K _ t [.ref a] := Same.tup s4 sqt_new
      have sB := s1.trans s4
      refine ⟨_, _, _, _, rfl, rfl, hq, atI_nat (j := 0) rfl, ?_⟩
      walk_at "rd"
      refine ⟨a, ns, rfl, sB.tup hT, hne, hlen, fun H2 sC => ?_⟩
      walk_at "rd"
      refine ⟨_, _, _, _, rfl, rfl, sC.tup hq, atI_nat (j := 0) rfl, ?_⟩
      walk_at "rd"
      have sD := sB.trans sC
      exact ⟨a, ns, sD.tup hT, hlen, .inr ⟨p, x, rfl, sD.tup hp, hx⟩, fun H3 s9 => q _ (sD.trans s9)⟩
    · walk_at "rd"
      refine ⟨_, _, _, _, true, rfl, .ty "tuple", ty_tup hc, kit_ty (by decide +kernel), ?_⟩
      walk_at "rd"
      refine ⟨_, _, rfl, .inr hc, ?_⟩
      walk_at "rd"
      refine ⟨_, _, _, _, rfl, rfl, hc, atI_nat (j := 0) rfl, ?_⟩
      walk_at "rd"
      refine ⟨_, _, _, _, true, rfl, .ty "str", .base (.str _), kit_ty (by decide +kernel), ?_⟩
      walk_at "rd"
      refine ⟨_, _, _, _, rfl, rfl, hc, atI_nat (j := 0) rfl, ?_⟩
      walk_at "rd"
      refine ⟨_, _, rfl, hc, fun hw => absurd hw.1 (show ¬ (HT.sIx 2 0 (some 1) = 0) by decide), fun _ t ht => ?_⟩
      have s1 := same_upd (o := .tup (cutV [.str "never whole", .ref a] (some 1) none)) ht
      walk_at "rd"
      refine ⟨(show 2 ≤ sizeLine by decide), fun o1 ho1 => ?_⟩
      have s2 := same_upd (o := .tup [.str "sure", .str "open"]) ho1
      refine ⟨_, _, rfl, .inr sqt_new, rfl, rfl, ?_⟩
      walk_at "rd"
      refine ⟨_, _, rfl, .inr (s2.tup sqt_new), ?_⟩
      walk_at "rd"
      refine ⟨(show 2 ≤ sizeLine by decide), fun o2 ho2 => ?_⟩
      have s3 := s2.trans (same_upd (o := .tup [.str "fits", .str "quarrel"]) ho2)
      refine ⟨_, _, rfl, .inr sqt_new, rfl, rfl, ?_⟩
      walk_at "rd"
      refine ⟨(show 2 ≤ sizeLine by decide), fun o3 ho3 => ?_⟩
      have s4 := s3.trans (same_upd (o := .tup [.str "kept", .str "loose"]) ho3)
      refine ⟨_, _, rfl, .inr sqt_new, rfl, rfl, ?_⟩
      walk_at "rd"
      refine ⟨(show 2 ≤ sizeLine by decide), fun o4 ho4 => ?_⟩
      have s5 := s4.trans (same_upd (o := .tup [.str "whole", .str "never whole"]) ho4)
      refine ⟨_, _, rfl, .inr sqt_new, rfl, rfl, ?_⟩
      walk_at "rd"
      have hq : SqT K _ t [.ref a] := Same.tup s5 sqt_new
      have sB := s1.trans s5
      refine ⟨_, _, _, _, rfl, rfl, hq, atI_nat (j := 0) rfl, ?_⟩
      walk_at "rd"
      refine ⟨a, ns, rfl, hPt.same stb_RP sB, hTab, fun H2 sC => ?_⟩
      walk_at "rd"
      refine ⟨_, _, _, _, rfl, rfl, sC.tup hq, atI_nat (j := 0) rfl, ?_⟩
      walk_at "rd"
      have sD := sB.trans sC
      exact ⟨a, ns, _, _, rfl, hPt.same stb_RP sD, hTab, .inl ⟨rfl, m, rfl, hR, hm⟩, fun H3 s9 => q _ (sD.trans s9)⟩
    · walk_at "rd"
      refine ⟨_, _, _, _, true, rfl, .ty "tuple", ty_tup hc, kit_ty (by decide +kernel), ?_⟩
      walk_at "rd"
      refine ⟨_, _, rfl, .inr hc, ?_⟩
      walk_at "rd"
      refine ⟨_, _, _, _, rfl, rfl, hc, atI_nat (j := 0) rfl, ?_⟩
      walk_at "rd"
      refine ⟨_, _, _, _, true, rfl, .ty "str", .base (.str _), kit_ty (by decide +kernel), ?_⟩
      walk_at "rd"
      refine ⟨_, _, _, _, rfl, rfl, hc, atI_nat (j := 0) rfl, ?_⟩
      walk_at "rd"
      refine ⟨_, _, rfl, hc, fun hw => absurd hw.1 (show ¬ (HT.sIx 2 0 (some 1) = 0) by decide), fun _ t ht => ?_⟩
      have s1 := same_upd (o := .tup (cutV [.str "whole", .ref a] (some 1) none)) ht
      walk_at "rd"
      refine ⟨(show 2 ≤ sizeLine by decide), fun o1 ho1 => ?_⟩
      have s2 := same_upd (o := .tup [.str "sure", .str "open"]) ho1
      refine ⟨_, _, rfl, .inr sqt_new, rfl, rfl, ?_⟩
      walk_at "rd"
      refine ⟨_, _, rfl, .inr (s2.tup sqt_new), ?_⟩
      walk_at "rd"
      refine ⟨(show 2 ≤ sizeLine by decide), fun o2 ho2 => ?_⟩
      have s3 := s2.trans (same_upd (o := .tup [.str "fits", .str "quarrel"]) ho2)
      refine ⟨_, _, rfl, .inr sqt_new, rfl, rfl, ?_⟩
      walk_at "rd"
      refine ⟨(show 2 ≤ sizeLine by decide), fun o3 ho3 => ?_⟩
      have s4 := s3.trans (same_upd (o := .tup [.str "kept", .str "loose"]) ho3)
      refine ⟨_, _, rfl, .inr sqt_new, rfl, rfl, ?_⟩
      walk_at "rd"
      refine ⟨(show 2 ≤ sizeLine by decide), fun o4 ho4 => ?_⟩
      have s5 := s4.trans (same_upd (o := .tup [.str "whole", .str "never whole"]) ho4)
      refine ⟨_, _, rfl, .inr sqt_new, rfl, rfl, ?_⟩
      walk_at "rd"
      have hq : SqT K _ t [.ref a] := Same.tup s5 sqt_new
      have sB := s1.trans s5
      refine ⟨_, _, _, _, rfl, rfl, hq, atI_nat (j := 0) rfl, ?_⟩
      walk_at "rd"
      refine ⟨a, ns, rfl, hPt.same stb_RP sB, hTab, fun H2 sC => ?_⟩
      walk_at "rd"
      refine ⟨_, _, _, _, rfl, rfl, sC.tup hq, atI_nat (j := 0) rfl, ?_⟩
      walk_at "rd"
      have sD := sB.trans sC
      exact ⟨a, ns, _, _, rfl, hPt.same stb_RP sD, hTab, .inr ⟨rfl, sa, as, rfl, sD.tup hS, hW, hTr⟩, fun H3 s9 => q _ (sD.trans s9)⟩
end
end K79
/-! The law's own helpers. -/
namespace K79
open PySem PySem.Spec PyProof.Rows L2
local macro_rules | `(tactic| walk_at "rd1") => `(tactic| first | refine ⟨_, rfl, ?_⟩ | refine ⟨_, _, rfl, rfl, ?_⟩ | refine ⟨_, _, rfl, ?_⟩ | refine ⟨rfl, ?_⟩)
local macro_rules | `(tactic| walk_at "rd") => `(tactic| repeat walk_at "rd1")
/-- all but what lies at j stays -/
def But (j : Addr) (H H' : Hp) : Prop := ∀ b x, b ≠ j → H b = some x → H' b = some x
theorem But.refl {j : Addr} {H : Hp} : But j H H := fun _ _ _ h => h
theorem But.trans {j : Addr} {H H1 H2 : Hp} (a : But j H H1) (b : But j H1 H2) : But j H H2 := fun c x n h => b c x n (a c x n h)
theorem _root_.L2.Same.but {j : Addr} {H H' : Hp} (s : Same H H') : But j H H' := fun _ _ _ h => s _ _ h
theorem but_upd {j : Addr} {H : Hp} {o : HO} : But j H (upd H j o) := fun b x n h => by
  rw [upd_ne n]
  exact h
theorem But.mut {j p : Addr} {H H' : Hp} {o : HO} (e : But j H H') (h : H p = none) : But j H (upd H' p o) := fun b x n q => by
  rw [upd_ne (ne_of_none q h)]
  exact e b x n q
/-- a jar of digits after at most k of them -/
def Jar (H : Hp) (j : Addr) (k : Nat) : Prop := ∃ a m c : Int, H j = some (.lst [.int a, .int m, .int c]) ∧ 0 ≤ a ∧ 0 ≤ m ∧ m < 2147483587 ∧ 0 ≤ c ∧ c ≤ (k : Int)
theorem Jar.same {H H' : Hp} {j : Addr} {k : Nat} (h : Jar H j k) (s : Same H H') : Jar H' j k := let ⟨a, m, c, e, r⟩ := h; ⟨a, m, c, s _ _ e, r⟩
theorem Jar.mut {H H' : Hp} {j p : Addr} {k : Nat} {o : HO} (h : Jar H' j k) (hj : ∃ k, Jar H j k) (hp : H p = none) : Jar (upd H' p o) j k := by
  obtain ⟨a, m, c, e, r⟩ := h
  obtain ⟨_, _, _, _, e2, _⟩ := hj
  refine ⟨a, m, c, ?_, r⟩
  rw [upd_ne (ne_of_none e2 hp)]
  exact e
theorem But.tup {K : PySem.W.Frag} {j a : Addr} {H H' : Hp} {k : Nat} {xs : List V} (e : But j H H') (hj : Jar H j k) (h : SqT K H a xs) : SqT K H' a xs := by
  obtain ⟨_, _, _, ej, _⟩ := hj
  refine Ext.tup (fun b o hb hn => e b o (fun z => ?_) hb) h
  rw [z, ej] at hb
  exact hn _ (Option.some.inj hb).symm
theorem But.ext {j : Addr} {H H' : Hp} {k : Nat} (e : But j H H') (hj : Jar H j k) : Ext H H' := fun b o hb hn => by
  obtain ⟨_, _, _, ej, _⟩ := hj
  refine e b o (fun z => ?_) hb
  rw [z, ej] at hb
  exact hn _ (Option.some.inj hb).symm
section
variable {P : Program} {w : World} {K : PySem.W.Frag} {mg : Str → Option Value} {base : Heap}
/-! ### _law_cell, _law_jar -/
def spCell (K : PySem.W.Frag) : Sp := fun vs H Q _ => ∃ (a : Addr) (ns : List Int) (x : Nat), vs = [.ref a, .int (x : Int)] ∧ SqL K H a (ns.map V.int) ∧ ns.length ≤ 1000 ∧ x ≤ 1000 ∧ ∀ H' i, Same H H' → Q (.int i) H'
theorem sc__law_cell : FnScope ["_law_cells", "_law_spot", "_law_mixed", "_law_number"] ["_law_cells", "_law_spot"] (defScope (topS 85)) := ⟨rfl, rfl, rfl, by decide +kernel, rfl, by decide +kernel, by decide +kernel⟩
theorem c__law_cell (D : Df K mg "_law_cell" (topS 85)) (M : Md mg) : Cal P w K mg base 1 "_law_cell" (spCell K) := by
  refine cal_of D sc__law_cell (fun _ _ _ _ _ _ us hl => match us, hl with | [_, _], _ => rfl) (fun vs H Q E h => ?_) (fun f cdv A outer s H vs Q E hr h => ?_)
  · obtain ⟨a, _, _, rfl, _⟩ := h
    rfl
  · obtain ⟨a, ns, x, rfl, hL, hlen, hx, q⟩ := h
    have nd := sc__law_cell.nd
    refine ⟨_, (pss_cons (ps_if (pt_cmpR op_lt (pv 1) (pe_callB call_len_seq (by rfl) M.len (by decide +kernel) (pa_cons (pv 0) pa_nil)) (nomark _)) (pss_one (ps_ret (pe_callTy call_int1 (by rfl) M.int (by decide +kernel) (pa_cons (pe_ix (kix_list (K := K) rfl) (pv 0) (pv 1) (fun _ _ => rfl)) pa_nil)))) pss_nil) (pss_cons (ps_set (i := 2) nd rfl (Or.inl rfl) (pe_op op_add (pe_op op_mulW pe_int (pv 1)) pe_int)) (pss_cons (ps_for PassesOwn.never rfl (pi_list (pe_slice sl_list (pv 0) po_none (po_some pe_int))) (pg_name (i := 3) nd rfl (by first | exact Or.inl rfl | exact Or.inr rfl)) (pss_one (ps_set (i := 2) nd rfl (Or.inl rfl) (pe_op op_mod (pe_callTy call_int1 (by rfl) M.int (by decide +kernel) (pa_cons (pe_op op_add (pe_op op_add (pe_op op_mulW (pv 2) pe_int) (pv 3)) pe_int) pa_nil)) pe_int)))) (pss_one (ps_ret (pv 2)))))), ?_⟩
    walk_at "rd"
    refine ⟨_, _, rfl, .inl hL, ?_⟩
    rw [List.length_map]
    walk_at "rd"
    refine ite2 (fun e => ?_) (fun e => ?_)
    · have hxl : x < ns.length := by
        have h1 : (x : Int) < (ns.length : Int) := of_decide_eq_true e
        omega
      walk_at "rd"
      refine ⟨_, _, _, _, rfl, rfl, hL, atI_nat (j := x) (by rw [List.getElem?_map, List.getElem?_eq_getElem hxl]; rfl), ?_⟩
      walk_at "rd"
      refine .inl ⟨_, rfl, ?_⟩
      exact q _ _ (Same.refl _)
    · walk_at "rd"
      refine ⟨sm_mul (sm_le (n := 7919) (by decide) (by decide)) (sm_le (n := 1000) (by omega) (by decide)), ?_⟩
      walk_at "rd"
      refine ⟨_, _, rfl, hL, fun c hc => ?_⟩
      have s1 := same_upd (o := .lst (cutV (ns.map V.int) none (some 4))) hc
      have ec : cutV (ns.map V.int) none (some 4) = (ns.take (min 4 ns.length)).map V.int := by
        unfold cutV
        rw [HT.sIx_none, show HT.sIx (ns.map V.int).length (ns.map V.int).length (some 4) = min 4 (ns.map V.int).length from HT.sIx_nat _ _ 4, List.drop_zero, Nat.sub_zero, List.length_map, List.map_take]
      rw [ec] at s1 ⊢
      refine ⟨_, rfl, ⟨_, sql_new⟩, ?_⟩
      generalize hH2 : upd H c (.lst ((ns.take (min 4 ns.length)).map V.int)) = H2 at *
      have hL2 : SqL K H2 c ((ns.take (min 4 ns.length)).map V.int) := by
        rw [← hH2]
        exact sql_new
      refine for_it (walk_list (xs := (ns.take (min 4 ns.length)).map V.int)) (fun i σ H' => Same H2 H' ∧ ∃ (m : Int) (t1 : Option V), σ = [some (.ref a), some (.int (x : Int)), some (.int m), t1] ∧ m.natAbs ≤ 10000000000) ⟨Same.refl _, _, none, rfl, by omega⟩ (fun i σ H' _ h => h.1.seq hL2) (fun i y σ H' H'' hi hP hy => ?_) (fun σ H' hP => ?_)
      · obtain ⟨sm, m, x1, rfl, hm⟩ := hP
        obtain ⟨rfl, hyy⟩ := hy
        obtain ⟨n, hn, rfl⟩ := map_at hyy
        walk_at "rd"
        refine ⟨sm_mul (sm_le hm (by decide)) (sm_le (n := 48337) (by decide) (by decide)), ?_⟩
        walk_at "rd"
        refine .inl ⟨_, rfl, ?_⟩
        walk_at "rd"
        refine ⟨(show (0 : Int) < 2147483587 by decide), ?_⟩
        walk_at "rd"
        refine ⟨sm, _, _, rfl, ?_⟩
        have e1 := Int.emod_nonneg (m * 48337 + n + 59) (show (2147483587 : Int) ≠ 0 by decide)
        have e2 := Int.emod_lt_of_pos (m * 48337 + n + 59) (show (0 : Int) < 2147483587 by decide)
        omega
      · obtain ⟨sm, m, x1, rfl, hm⟩ := hP
        walk_at "rd"
        exact q _ _ (s1.trans sm)
def spJar (K : PySem.W.Frag) : Sp := fun vs H Q _ => ∃ (a : Addr) (ns : List Int) (x : Nat), vs = [.ref a, .int (x : Int)] ∧ SqL K H a (ns.map V.int) ∧ ns.length ≤ 1000 ∧ x ≤ 1000 ∧ ∀ H' j, Same H H' → H j = none → Jar H' j 0 → Q (.ref j) H'
theorem sc__law_jar : FnScope ["_law_cells", "_law_spot", "_law_cell_here"] ["_law_cells", "_law_spot"] (defScope (topS 86)) := ⟨rfl, rfl, rfl, by decide +kernel, rfl, by decide +kernel, by decide +kernel⟩
theorem c__law_jar (D : Df K mg "_law_jar" (topS 86)) (M : Md mg) (c__law_cell : Cal P w K mg base 1 "_law_cell" (spCell K)) : Cal P w K mg base 2 "_law_jar" (spJar K) := by
  refine cal_of D sc__law_jar (fun _ _ _ _ _ _ us hl => match us, hl with | [_, _], _ => rfl) (fun vs H Q E h => ?_) (fun f cdv A outer s H vs Q E hr h => ?_)
  · obtain ⟨a, _, _, rfl, _⟩ := h
    rfl
  · obtain ⟨a, ns, x, rfl, hL, hlen, hx, q⟩ := h
    have nd := sc__law_jar.nd
    refine ⟨_, (pss_cons (ps_set (i := 2) nd rfl (Or.inl rfl) (pe_callB call_abs (by rfl) M.abs (by decide +kernel) (pa_cons (pe_c c__law_cell hr (by decide) (by rfl) (pa_cons (pv 0) (pa_cons (pv 1) pa_nil))) pa_nil))) (pss_one (ps_ret (pe_lst (pa_cons (pv 2) (pa_cons (pe_op op_mod (pe_callTy call_int1 (by rfl) M.int (by decide +kernel) (pa_cons (pe_op op_add (pv 2) (pe_op op_mulW pe_int (pv 1))) pa_nil)) pe_int) (pa_cons pe_int pa_nil))))))), ?_⟩
    walk_at "rd"
    refine ⟨_, _, _, rfl, hL, hlen, hx, fun H1 i s1 => ?_⟩
    walk_at "rd"
    rw [abs_if]
    refine ⟨sm_mul (sm_le (n := 907) (by decide) (by decide)) (sm_le (n := 1000) (by omega) (by decide)), ?_⟩
    walk_at "rd"
    refine .inl ⟨_, rfl, ?_⟩
    walk_at "rd"
    refine ⟨(show (0 : Int) < 2147483587 by decide), ?_⟩
    walk_at "rd"
    refine ⟨(show 3 ≤ sizeLine by decide), fun j hj => ?_⟩
    have e1 := Int.emod_nonneg ((i.natAbs : Int) + 907 * (x : Int)) (show (2147483587 : Int) ≠ 0 by decide)
    have e2 := Int.emod_lt_of_pos ((i.natAbs : Int) + 907 * (x : Int)) (show (0 : Int) < 2147483587 by decide)
    exact q _ j (s1.trans (same_upd hj)) (s1.free hj) ⟨_, _, _, upd_same, by omega, e1, e2, by decide, by decide⟩
/-! ### _law_dig, _law_take -/
def spDig : Sp := fun vs H Q _ => ∃ (j : Addr) (n : Int) (k : Nat), vs = [.ref j, .int n] ∧ Jar H j k ∧ k ≤ 1000 ∧ 0 < n ∧ n ≤ 1000 ∧ ∀ H' d, But j H H' → Jar H' j (k + 1) → 0 ≤ d → d < n → Q (.int d) H'
theorem sc__law_dig : FnScope ["_law_jar_here", "_law_many", "_law_mixed", "_law_digit"] ["_law_jar_here", "_law_many"] (defScope (topS 87)) := ⟨rfl, rfl, rfl, by decide +kernel, rfl, by decide +kernel, by decide +kernel⟩
theorem c__law_dig (D : Df K mg "_law_dig" (topS 87)) (M : Md mg) : Cal P w K mg base 1 "_law_dig" spDig := by
  refine cal_of D sc__law_dig (fun _ _ _ _ _ _ us hl => match us, hl with | [_, _], _ => rfl) (fun vs H Q E h => ?_) (fun f cdv A outer s H vs Q E hr h => ?_)
  · obtain ⟨a, _, _, rfl, _⟩ := h
    rfl
  · obtain ⟨j, n, k, rfl, ⟨a, m, c, hJ, ha, hm, hm2, hc, hc2⟩, hk, h0, h1, q⟩ := h
    have nd := sc__law_dig.nd
    refine ⟨_, (pss_cons (ps_asg (pe_op op_add (pe_ix (kix_list (K := K) rfl) (pv 0) pe_int (fun _ _ => rfl)) pe_int) (pg_sub (pv 0) pe_int set_list)) (pss_cons (ps_set (i := 2) nd rfl (Or.inl rfl) (pe_callTy call_int1 (by rfl) M.int (by decide +kernel) (pa_cons (pe_ix (kix_list (K := K) rfl) (pv 0) pe_int (fun _ _ => rfl)) pa_nil))) (pss_cons (ps_asg (pe_op op_mod (pe_callTy call_int1 (by rfl) M.int (by decide +kernel) (pa_cons (pe_op op_add (pe_op op_add (pe_op op_mulW (pv 2) (pe_op op_add (pe_op op_mod (pe_callTy call_int1 (by rfl) M.int (by decide +kernel) (pa_cons (pv 2) pa_nil)) pe_int) pe_int)) (pe_op op_mulW (pe_ix (kix_list (K := K) rfl) (pv 0) pe_int (fun _ _ => rfl)) pe_int)) pe_int) pa_nil)) pe_int) (pg_sub (pv 0) pe_int set_list)) (pss_cons (ps_if (pt_cmpR op_gt (pe_ix (kix_list (K := K) rfl) (pv 0) pe_int (fun _ _ => rfl)) pe_int (nomark _)) (pss_cons (ps_asg (pe_callB call_divmod (by rfl) M.divmod (by decide +kernel) (pa_cons (pe_ix (kix_list (K := K) rfl) (pv 0) pe_int (fun _ _ => rfl)) (pa_cons (pv 1) pa_nil))) (pg_tup rfl (pgs_cons (pg_sub (pv 0) pe_int set_list) (pgs_cons (pg_name (i := 3) nd rfl (by first | exact Or.inl rfl | exact Or.inr rfl)) pgs_nil)))) (pss_one (ps_ret (pv 3)))) pss_nil) (pss_one (ps_ret (pe_op op_mod (pe_callTy call_int1 (by rfl) M.int (by decide +kernel) (pa_cons (pe_op op_fdivW (pe_ix (kix_list (K := K) rfl) (pv 0) pe_int (fun _ _ => rfl)) pe_int) pa_nil)) (pv 1)))))))), ?_⟩
    walk_at "rd"
    refine ⟨_, _, _, _, rfl, rfl, sql hJ, atI_nat (j := 2) rfl, ?_⟩
    walk_at "rd"
    refine ⟨_, _, _, _, rfl, rfl, hJ, rfl, ?_⟩
    walk_at "rd"
    refine ⟨_, _, _, _, rfl, rfl, sql upd_same, atI_nat (j := 1) (v := .int m) rfl, ?_⟩
    walk_at "rd"
    refine .inl ⟨_, rfl, ?_⟩
    walk_at "rd"
    refine .inl ⟨_, rfl, ?_⟩
    walk_at "rd"
    refine ⟨(show (0 : Int) < 29989 by decide), ?_⟩
    walk_at "rd"
    have e1 := Int.emod_nonneg m (show (29989 : Int) ≠ 0 by decide)
    have e2 := Int.emod_lt_of_pos m (show (0 : Int) < 29989 by decide)
    refine ⟨sm_mul (sm_le (n := 2147483587) (by omega) (by decide)) (sm_le (n := 100000) (by omega) (by decide)), ?_⟩
    walk_at "rd"
    refine ⟨_, _, _, _, rfl, rfl, sql upd_same, atI_nat (j := 2) (v := .int (c + 1)) rfl, ?_⟩
    walk_at "rd"
    refine ⟨sm_mul (sm_le (n := 2000) (by omega) (by decide)) (sm_le (n := 65521) (by decide) (by decide)), ?_⟩
    walk_at "rd"
    refine .inl ⟨_, rfl, ?_⟩
    walk_at "rd"
    refine ⟨(show (0 : Int) < 2147483587 by decide), ?_⟩
    walk_at "rd"
    refine ⟨_, _, _, _, rfl, rfl, upd_same, rfl, ?_⟩
    have e3 := Int.emod_nonneg (m * (m % 29989 + 40013) + (c + 1) * 65521 + 7) (show (2147483587 : Int) ≠ 0 by decide)
    have e4 := Int.emod_lt_of_pos (m * (m % 29989 + 40013) + (c + 1) * 65521 + 7) (show (0 : Int) < 2147483587 by decide)
    walk_at "rd"
    refine ⟨_, _, _, _, rfl, rfl, sql upd_same, atI_nat (j := 0) (v := .int a) rfl, ?_⟩
    walk_at "rd"
    refine ite2 (fun e => ?_) (fun e => ?_)
    · walk_at "rd"
      refine ⟨_, _, _, _, rfl, rfl, sql upd_same, atI_nat (j := 0) (v := .int a) rfl, ?_⟩
      walk_at "rd"
      refine ⟨⟨h0, by omega⟩, fun p hp => ?_⟩
      refine ⟨p, _, rfl, sqt_new, rfl, ?_⟩
      have hpj : p ≠ j := fun z => by
        subst z
        rw [upd_same] at hp
        cases hp
      walk_at "rd"
      refine ⟨_, _, _, _, rfl, rfl, (upd_ne (Ne.symm hpj)).trans upd_same, rfl, ?_⟩
      walk_at "rd"
      have f1 := Int.emod_nonneg a (show n ≠ 0 by omega)
      have f2 := Int.emod_lt_of_pos a h0
      have f3 : 0 ≤ a / n := Int.ediv_nonneg ha (by omega)
      refine q _ _ ?_ ⟨a / n, (m * (m % 29989 + 40013) + (c + 1) * 65521 + 7) % 2147483587, c + 1, upd_same, f3, e3, e4, by omega, by omega⟩ f1 f2
      exact (((but_upd.trans but_upd).trans (same_upd hp).but).trans but_upd)
    · walk_at "rd"
      refine ⟨_, _, _, _, rfl, rfl, sql upd_same, atI_nat (j := 1) (v := .int ((m * (m % 29989 + 40013) + (c + 1) * 65521 + 7) % 2147483587)) rfl, ?_⟩
      walk_at "rd"
      refine ⟨sm_div (by decide) (sm_le (n := 128) (by decide) (by decide)), ?_⟩
      walk_at "rd"
      refine .inl ⟨_, rfl, ?_⟩
      walk_at "rd"
      refine ⟨h0, ?_⟩
      have f1 := Int.emod_nonneg ((m * (m % 29989 + 40013) + (c + 1) * 65521 + 7) % 2147483587 / 128) (show n ≠ 0 by omega)
      have f2 := Int.emod_lt_of_pos ((m * (m % 29989 + 40013) + (c + 1) * 65521 + 7) % 2147483587 / 128) h0
      exact q _ _ (but_upd.trans but_upd) ⟨a, (m * (m % 29989 + 40013) + (c + 1) * 65521 + 7) % 2147483587, c + 1, upd_same, ha, e3, e4, by omega, by omega⟩ f1 f2
/-! ### _law_gcd, _law_lcm, _law_agree -/
theorem sc__law_gcd : FnScope ["_law_a", "_law_b"] ["_law_a", "_law_b"] (defScope (topS 89)) := ⟨rfl, rfl, rfl, by decide +kernel, rfl, by decide +kernel, by decide +kernel⟩
theorem c__law_gcd (D : Df K mg "_law_gcd" (topS 89)) (M : Md mg) : Cal P w K mg base 1 "_law_gcd" spGcd := by
  refine cal_of D sc__law_gcd (fun _ _ _ _ _ _ us hl => match us, hl with | [_, _], _ => rfl) (fun vs H Q E h => ?_) (fun f cdv A outer s H vs Q E hr h => ?_)
  · obtain ⟨a, b, rfl, _⟩ := h
    rfl
  · obtain ⟨a, b, rfl, q⟩ := h
    have nd := sc__law_gcd.nd
    refine ⟨_, (pss_cons (ps_par (i := 0) (j := 1) rfl nd rfl rfl (by decide) rfl rfl (pa_cons (pe_callB call_abs (by rfl) M.abs (by decide +kernel) (pa_cons (pv 0) pa_nil)) (pa_cons (pe_callB call_abs (by rfl) M.abs (by decide +kernel) (pa_cons (pv 1) pa_nil)) pa_nil)) (by rfl)) (pss_cons (ps_while PassesOwn.never (pt_cmpR op_gt (pv 1) pe_int (nomark _)) (pss_one (ps_par (i := 0) (j := 1) rfl nd rfl rfl (by decide) rfl rfl (pa_cons (pv 1) (pa_cons (pe_op op_mod (pe_callTy call_int1 (by rfl) M.int (by decide +kernel) (pa_cons (pv 0) pa_nil)) (pv 1)) pa_nil)) (by rfl)))) (pss_one (ps_ret (pv 0))))), ?_⟩
    walk_at "rd"
    refine ⟨fun m σ H' => H' = H ∧ ∃ x y : Int, σ = [some (.int x), some (.int y)] ∧ 0 ≤ x ∧ 0 ≤ y ∧ Int.gcd x y = Int.gcd a b ∧ m = y.toNat, ⟨_, rfl, _, _, rfl, ?_, ?_, ?_, rfl⟩, fun m σ H' hW => ?_⟩
    · split <;> omega
    · split <;> omega
    · rw [abs_if, abs_if]
      unfold Int.gcd
      rw [Int.natAbs_natCast, Int.natAbs_natCast]
    · obtain ⟨rfl, x, y, rfl, hx, hy, hg, rfl⟩ := hW
      walk_at "rd"
      by_cases h0 : 0 < y
      · rw [decide_eq_true h0]
        refine iteT ⟨fun σ' H'' => H'' = H' ∧ ∃ x' y' : Int, σ' = [some (.int x'), some (.int y')] ∧ 0 ≤ x' ∧ 0 ≤ y' ∧ Int.gcd x' y' = Int.gcd a b ∧ y'.toNat < y.toNat, fun σ' H'' hn => ?_, ?_⟩
        · obtain ⟨rfl, x', y', rfl, h1, h2, h3, h4⟩ := hn
          exact ⟨_, h4, rfl, x', y', rfl, h1, h2, h3, rfl⟩
        · walk_at "rd"
          refine .inl ⟨_, rfl, ?_⟩
          walk_at "rd"
          refine ⟨h0, ?_⟩
          walk_at "rd"
          have e1 := Int.emod_nonneg x (by omega : y ≠ 0)
          have e2 := Int.emod_lt_of_pos x h0
          refine ⟨by omega, e1, ?_, by omega⟩
          rw [← hg, gcd_step x y]
      · rw [decide_eq_false h0]
        refine iteF ?_
        walk_at "rd"
        have ey : y = 0 := by omega
        subst ey
        have ex : x = (Int.gcd a b : Int) := by
          rw [← hg, Int.gcd_zero_right]
          omega
        rw [ex]
        exact q
def spLLcm : Sp := fun vs H Q _ => ∃ a b : Int, vs = [.int a, .int b] ∧ Sm a ∧ Sm b ∧ 0 < a ∧ 0 < b ∧ Q (.int (Int.lcm a b : Int)) H
theorem sc__law_lcm : FnScope ["_law_a", "_law_b"] ["_law_a", "_law_b"] (defScope (topS 90)) := ⟨rfl, rfl, rfl, by decide +kernel, rfl, by decide +kernel, by decide +kernel⟩
theorem c__law_lcm (D : Df K mg "_law_lcm" (topS 90)) (M : Md mg) (c__law_gcd : Cal P w K mg base 1 "_law_gcd" spGcd) : Cal P w K mg base 2 "_law_lcm" spLLcm := by
  refine cal_of D sc__law_lcm (fun _ _ _ _ _ _ us hl => match us, hl with | [_, _], _ => rfl) (fun vs H Q E h => ?_) (fun f cdv A outer s H vs Q E hr h => ?_)
  · obtain ⟨a, b, rfl, _⟩ := h
    rfl
  · obtain ⟨a, b, rfl, sa, sb, pa, pb, q⟩ := h
    have nd := sc__law_lcm.nd
    refine ⟨_, (pss_one (ps_ret (pe_ifExp (pw_or (pt_cmpR op_eq (pv 0) pe_int (nomark _)) (pw_or1 (pt_cmpR op_eq (pv 1) pe_int (nomark _)))).pt pe_int (pe_op op_mulW (pe_op op_fdivW (pv 0) (pe_c c__law_gcd hr (by decide) (by rfl) (pa_cons (pv 0) (pa_cons (pv 1) pa_nil)))) (pv 1))))), ?_⟩
    walk_at "rd"
    refine ite2 (fun e => ?_) (fun e => ?_)
    · have := yesI e
      omega
    · have ha := noI e
      walk_at "rd"
      refine ite2 (fun e => ?_) (fun e => ?_)
      · have := yesI e
        omega
      · have hb := noI e
        walk_at "rd"
        have hg : 0 < Int.gcd a b := Int.gcd_pos_of_ne_zero_left b ha
        have hg2 := gcd_le a b ha
        refine ⟨sm_div (by omega) (sm_of (i := (Int.gcd a b : Int)) (by omega) sa), ?_⟩
        walk_at "rd"
        rw [← lcm_as a b ha, show (a.natAbs : Int) = a by omega, show (b.natAbs : Int) = b by omega] at q
        refine ⟨sm_mul (sm_of (j := a) (Int.natAbs_ediv_le_natAbs _ _) sa) sb, q⟩
def spLAgree : Sp := fun vs H Q _ => ∃ a b m : Int, vs = [.int a, .int b, .int m] ∧ 0 ≤ m ∧ m ∣ a - b ∧ Q (.bl true) H
theorem sc__law_agree : FnScope ["_law_a", "_law_b", "_law_q"] ["_law_a", "_law_b", "_law_q"] (defScope (topS 91)) := ⟨rfl, rfl, rfl, by decide +kernel, rfl, by decide +kernel, by decide +kernel⟩
theorem c__law_agree (D : Df K mg "_law_agree" (topS 91)) (M : Md mg) : Cal P w K mg base 1 "_law_agree" spLAgree := by
  refine cal_of D sc__law_agree (fun _ _ _ _ _ _ us hl => match us, hl with | [_, _, _], _ => rfl) (fun vs H Q E h => ?_) (fun f cdv A outer s H vs Q E hr h => ?_)
  · obtain ⟨a, b, _, rfl, _⟩ := h
    rfl
  · obtain ⟨a, b, m, rfl, hm, hd, q⟩ := h
    have nd := sc__law_agree.nd
    refine ⟨_, (pss_one (ps_ret (pe_ifExp (pt_cmpR op_eq (pv 2) pe_int (nomark _)) (pe_cmpR op_eq (pv 0) (pv 1) (nomark _)) (pe_cmpR op_eq (pe_op op_mod (pe_callTy call_int1 (by rfl) M.int (by decide +kernel) (pa_cons (pe_op op_sub (pv 0) (pv 1)) pa_nil)) (pv 2)) pe_int (nomark _))))), ?_⟩
    walk_at "rd"
    refine ite2 (fun e => ?_) (fun e => ?_)
    · have := yesI e
      subst this
      have hab : a = b := by
        obtain ⟨z, hz⟩ := hd
        rw [Int.zero_mul] at hz
        omega
      subst hab
      walk_at "rd"
      rw [decide_eq_true rfl]
      exact q
    · have hm0 := noI e
      walk_at "rd"
      refine .inl ⟨_, rfl, ?_⟩
      walk_at "rd"
      refine ⟨by omega, ?_⟩
      walk_at "rd"
      exact (show Q (.bl (decide (V.int ((a - b) % m) = V.int 0))) H by
        rw [Int.emod_eq_zero_of_dvd hd, decide_eq_true rfl]
        exact q)
end
end K79
/-! The law's tables. -/
namespace K79
open PySem PySem.Spec PyProof.Rows L2
local macro_rules | `(tactic| walk_at "rd1") => `(tactic| first | refine ⟨_, rfl, ?_⟩ | refine ⟨_, _, rfl, rfl, ?_⟩ | refine ⟨_, _, rfl, ?_⟩ | refine ⟨rfl, ?_⟩)
local macro_rules | `(tactic| walk_at "rd") => `(tactic| repeat walk_at "rd1")
/-! ### bounds of tables -/
theorem valF_bnd {x : Nat} (hx : x < 8) : ∀ (cs : List Int) (k : Nat), Bnd 20 cs → k + cs.length ≤ 8 → (valF k cs x).natAbs ≤ cs.length * 2 ^ 44
  | [], _, _, _ => Nat.zero_le _
  | c :: cs, k, h, hk => by
    rw [List.length_cons] at hk ⊢
    have h1 := valF_bnd hx cs (k + 1) (fun a ha => h a (List.mem_cons_of_mem _ ha)) (by omega)
    have h2 := h c (List.mem_cons_self)
    have h3 := C_le x k 3 hx
    have h4 : 2 ^ (3 * k) ≤ 2 ^ 24 := Nat.pow_le_pow_right (by decide) (by omega)
    have h5 : (c * (C x k : Int)).natAbs ≤ 2 ^ 20 * 2 ^ 24 := by
      rw [Int.natAbs_mul, Int.natAbs_natCast]
      exact Nat.mul_le_mul (Nat.le_of_lt h2) (Nat.le_trans h3 h4)
    show (c * (C x k : Int) + valF (k + 1) cs x).natAbs ≤ _
    have h6 : (2 : Nat) ^ 20 * 2 ^ 24 = 2 ^ 44 := by decide
    omega
theorem diffs_bnd {b : Nat} : ∀ {l : List Int}, Bnd b l → Bnd (b + 1) (diffs l)
  | [], _ => fun a ha => by simp [diffs] at ha
  | [_], _ => fun a ha => by simp [diffs] at ha
  | x :: y :: r, h => fun a ha => by
    have hx := h x (by simp)
    have hy := h y (by simp)
    have ha2 : a ∈ (y - x) :: diffs (y :: r) := ha
    rcases List.mem_cons.mp ha2 with e | e
    · subst e
      rw [Nat.pow_succ]
      omega
    · exact diffs_bnd (fun z hz => h z (List.mem_cons_of_mem _ hz)) a e
theorem stepsN_bnd : ∀ (n b : Nat) (l : List Int), Bnd b l → Bnd (b + n) (stepsN n l)
  | 0, b, l, h => fun a ha => by
    cases l <;> simp [stepsN] at ha
  | n + 1, b, [], h => fun a ha => by simp [stepsN] at ha
  | n + 1, b, x :: r, h => fun a ha => by
    have ha2 : a ∈ x :: stepsN n (diffs (x :: r)) := ha
    rcases List.mem_cons.mp ha2 with e | e
    · subst e
      exact (h.mono (Nat.le_add_right b (n + 1))) a (by simp)
    · have := stepsN_bnd n (b + 1) _ (diffs_bnd h) a e
      rw [show b + 1 + n = b + (n + 1) by omega] at this
      exact this
/-- the table that own makes -/
def tabL (own : List Int) : List Int := (List.range own.length).map fun x => valF 0 own x
theorem tabL_len (own : List Int) : (tabL own).length = own.length := by
  unfold tabL
  rw [List.length_map, List.length_range]
theorem tab_of {own : List Int} (hne : own ≠ []) (hl : own.length ≤ 8) (hB : Bnd 20 own) : Tab (tabL own) := by
  have hb : Bnd 50 (tabL own) := fun a ha => by
    unfold tabL at ha
    obtain ⟨x, hx, rfl⟩ := List.mem_map.mp ha
    have hx2 := List.mem_range.mp hx
    have h1 := valF_bnd (x := x) (by omega) own 0 hB (by omega)
    have h2 : own.length * 2 ^ 44 ≤ 8 * 2 ^ 44 := Nat.mul_le_mul hl (Nat.le_refl _)
    exact Nat.lt_of_le_of_lt (Nat.le_trans h1 h2) (by decide)
  refine ⟨fun e => hne ?_, by rw [tabL_len]; omega, hb.mono (by decide), (stepsN_bnd _ 50 _ hb).mono (by rw [tabL_len]; omega)⟩
  have := congrArg List.length e
  rw [tabL_len] at this
  exact List.length_eq_zero_iff.mp this
theorem way_at {w l : Nat} (hw : w ≤ 5040) (hl : l ≤ 5040) {d : Int} (h0 : 0 ≤ d) (h3 : d < 3) : ∃ v : Int, atI [V.int (w : Int), V.int (l : Int), V.int 1] d = some (V.int v) ∧ v.natAbs ≤ 5040 := by
  have hd : d = 0 ∨ d = 1 ∨ d = 2 := by omega
  rcases hd with rfl | rfl | rfl
  · exact ⟨(w : Int), rfl, by omega⟩
  · exact ⟨(l : Int), rfl, by omega⟩
  · exact ⟨1, rfl, by decide⟩
theorem fact_le7 : ∀ i, i ≤ 7 → fact i ≤ 5040
  | 0, _ => by decide
  | 1, _ => by decide
  | 2, _ => by decide
  | 3, _ => by decide
  | 4, _ => by decide
  | 5, _ => by decide
  | 6, _ => by decide
  | 7, _ => by decide
  | n + 8, h => absurd h (by omega)
theorem L_le7 (i : Nat) (h : i ≤ 7) : L i ≤ 5040 := Nat.le_trans (Nat.le_of_dvd (fact_pos i) (L_dvd_fact i)) (fact_le7 i h)
theorem zi (i : Nat) : V.int (0 + (i : Int)) = V.int (i : Int) := by rw [Int.zero_add]
section
variable {P : Program} {w : World} {K : PySem.W.Frag} {mg : Str → Option Value} {base : Heap}
/-! ### _law_take -/
def spTake (K : PySem.W.Frag) : Sp := fun vs H Q _ => ∃ (j l : Addr) (u v : Int) (k : Nat), vs = [.ref j, .ref l] ∧ H l = some (.lst [.int u, .int v]) ∧ l ≠ j ∧ Jar H j k ∧ k ≤ 1000 ∧ ∀ H' z, But j H H' → Jar H' j (k + 1) → (z = u ∨ z = v) → Q (.int z) H'
theorem sc__law_take : FnScope ["_law_jar_here", "_law_some"] ["_law_jar_here", "_law_some"] (defScope (topS 88)) := ⟨rfl, rfl, rfl, by decide +kernel, rfl, by decide +kernel, by decide +kernel⟩
theorem c__law_take (D : Df K mg "_law_take" (topS 88)) (M : Md mg) (c__law_dig : Cal P w K mg base 1 "_law_dig" spDig) : Cal P w K mg base 2 "_law_take" (spTake K) := by
  refine cal_of D sc__law_take (fun _ _ _ _ _ _ us hl => match us, hl with | [_, _], _ => rfl) (fun vs H Q E h => ?_) (fun f cdv A outer s H vs Q E hr h => ?_)
  · obtain ⟨a, _, _, _, _, rfl, _⟩ := h
    rfl
  · obtain ⟨j, l, u, v, k, rfl, hl, hlj, hJ, hk, q⟩ := h
    have nd := sc__law_take.nd
    refine ⟨_, (pss_one (ps_ret (pe_ix (kix_list (K := K) rfl) (pv 1) (pe_c c__law_dig hr (by decide) (by rfl) (pa_cons (pv 0) (pa_cons (pe_callB call_len_seq (by rfl) M.len (by decide +kernel) (pa_cons (pv 1) pa_nil)) pa_nil))) (fun _ _ => rfl)))), ?_⟩
    walk_at "rd"
    refine ⟨_, _, rfl, .inl (sql hl), ?_⟩
    walk_at "rd"
    refine ⟨j, 2, k, rfl, hJ, hk, by decide, by decide, fun H' d b1 hJ1 h0 h2 => ?_⟩
    have hd : d = 0 ∨ d = 1 := by omega
    rcases hd with rfl | rfl
    · exact ⟨_, _, _, _, rfl, rfl, sql (b1 _ _ hlj hl), atI_nat (j := 0) rfl, q _ _ b1 hJ1 (.inl rfl)⟩
    · exact ⟨_, _, _, _, rfl, rfl, sql (b1 _ _ hlj hl), atI_nat (j := 1) rfl, q _ _ b1 hJ1 (.inr rfl)⟩
/-! ### _law_run -/
def spRun (K : PySem.W.Frag) : Sp := fun vs H Q _ => ∃ (a : Addr) (cs : List Int) (x : Nat), vs = [.ref a, .int (x : Int)] ∧ SqL K H a (cs.map V.int) ∧ cs.length ≤ 8 ∧ Bnd 20 cs ∧ x < 8 ∧ ∀ H', Same H H' → Q (.int (valF 0 cs x)) H'
theorem sc__law_run : FnScope ["_law_own", "_law_x", "_law_found", "_law_lots", "_law_k"] ["_law_own", "_law_x"] (defScope (topS 92)) := ⟨rfl, rfl, rfl, by decide +kernel, rfl, by decide +kernel, by decide +kernel⟩
theorem c__law_run (D : Df K mg "_law_run" (topS 92)) (M : Md mg) : Cal P w K mg base 1 "_law_run" (spRun K) := by
  refine cal_of D sc__law_run (fun _ _ _ _ _ _ us hl => match us, hl with | [_, _], _ => rfl) (fun vs H Q E h => ?_) (fun f cdv A outer s H vs Q E hr h => ?_)
  · obtain ⟨a, _, _, rfl, _⟩ := h
    rfl
  · obtain ⟨a, cs, x, rfl, hL, hlen, hB, hx, q⟩ := h
    have nd := sc__law_run.nd
    refine ⟨_, (pss_cons (ps_asg (pe_tup (pa_cons pe_int (pa_cons pe_int pa_nil))) (pg_tup rfl (pgs_cons (pg_name (i := 2) nd rfl (by first | exact Or.inl rfl | exact Or.inr rfl)) (pgs_cons (pg_name (i := 3) nd rfl (by first | exact Or.inl rfl | exact Or.inr rfl)) pgs_nil)))) (pss_cons (ps_for PassesOwn.never rfl (pi_range1 (by rfl) M.range (pa_cons (pe_callB call_len_seq (by rfl) M.len (by decide +kernel) (pa_cons (pv 0) pa_nil)) pa_nil)) (pg_name (i := 4) nd rfl (by first | exact Or.inl rfl | exact Or.inr rfl)) (pss_cons (ps_set (i := 2) nd rfl (Or.inl rfl) (pe_op op_add (pv 2) (pe_op op_mulW (pe_ix (kix_list (K := K) rfl) (pv 0) (pv 4) (fun _ _ => rfl)) (pv 3)))) (pss_one (ps_set (i := 3) nd rfl (Or.inl rfl) (pe_op op_fdivW (pe_op op_mulW (pv 3) (pe_op op_sub (pv 1) (pv 4))) (pe_op op_add (pv 4) pe_int)))))) (pss_one (ps_ret (pv 2))))), ?_⟩
    walk_at "rd"
    refine ⟨(show 2 ≤ sizeLine by decide), fun p hp => ?_⟩
    have s1 := same_upd (o := .tup [.int 0, .int 1]) hp
    refine ⟨p, _, rfl, sqt_new, rfl, ?_⟩
    walk_at "rd"
    refine ⟨_, _, rfl, .inl (s1.seq hL), ?_⟩
    rw [List.length_map]
    walk_at "rd"
    refine ⟨by omega, by omega, ?_⟩
    refine for_it (walk_range (lo := 0) (n := ((cs.length : Nat) : Int).toNat)) (fun i σ H' => Same H H' ∧ ∃ t1 : Option V, σ = [some (.ref a), some (.int (x : Int)), some (.int (valF 0 (cs.take i) x)), some (.int (C x i : Int)), t1]) ⟨s1, none, ?_⟩ (fun _ _ _ _ _ => trivial) (fun i y σ H' H'' hi hP hy => ?_) (fun σ H' hP => ?_)
    · rw [C_zero]
      rfl
    · obtain ⟨sm, x1, rfl⟩ := hP
      obtain ⟨rfl, hyy⟩ := hy
      have hyy : y = V.int (i : Int) := hyy.trans (zi i)
      subst hyy
      have hi2 : i < cs.length := by omega
      obtain ⟨c, hc⟩ : ∃ c, cs[i]? = some c := ⟨_, List.getElem?_eq_getElem hi2⟩
      have hb : ∀ k, k ≤ 8 → Sm (C x k : Int) := fun k hk => by
        have h1 := C_le x k 3 hx
        have h2 : 2 ^ (3 * k) ≤ 2 ^ 24 := Nat.pow_le_pow_right (by decide) (by omega)
        refine sm_le (n := 2 ^ 24) ?_ (by decide)
        rw [Int.natAbs_natCast]
        omega
      have hcm := hB c (List.mem_of_getElem? hc)
      walk_at "rd"
      refine ⟨_, _, _, _, rfl, rfl, sm.seq hL, atI_nat (j := i) (v := .int c) (by rw [List.getElem?_map, hc]; rfl), ?_⟩
      walk_at "rd"
      refine ⟨sm_mul (Nat.lt_trans hcm (by decide)) (hb i (by omega)), ?_⟩
      walk_at "rd"
      refine ⟨sm_mul (hb i (by omega)) (sm_le (n := 20) (by omega) (by decide)), ?_⟩
      walk_at "rd"
      refine ⟨sm_div (by omega) (sm_le (n := 14) (by omega) (by decide)), ?_⟩
      walk_at "rd"
      refine ⟨sm, some (.int (i : Nat)), ?_⟩
      rw [valF_take _ 0 i x c hc, ← C_step, Nat.zero_add]
      rfl
    · obtain ⟨sm, x1, rfl⟩ := hP
      walk_at "rd"
      rw [Int.toNat_natCast, List.take_length]
      exact q _ sm
end
end K79
/-! The law's table. -/
namespace K79
open PySem PySem.Spec PyProof.Rows L2
local macro_rules | `(tactic| walk_at "rd1") => `(tactic| first | refine ⟨_, rfl, ?_⟩ | refine ⟨_, _, rfl, rfl, ?_⟩ | refine ⟨_, _, rfl, ?_⟩ | refine ⟨rfl, ?_⟩)
local macro_rules | `(tactic| walk_at "rd") => `(tactic| repeat walk_at "rd1")
theorem Jar.mono {H : Hp} {j : Addr} {k l : Nat} (h : Jar H j k) (hkl : k ≤ l) : Jar H j l := by
  obtain ⟨a, m, c, e, h1, h2, h3, h4, h5⟩ := h
  exact ⟨a, m, c, e, h1, h2, h3, h4, by omega⟩
theorem Jar.ne {H : Hp} {j o : Addr} {k : Nat} (h : Jar H j k) (ho : H o = none) : o ≠ j := fun e => by
  obtain ⟨_, _, _, e2, _⟩ := h
  rw [e, e2] at ho
  cases ho
theorem Jar.ne2 {H : Hp} {j o : Addr} {k : Nat} {x : HO} (h : Jar H j k) (ho : H o = some x) (hx : ∀ ys, x ≠ .lst ys) : o ≠ j := fun e => by
  obtain ⟨_, _, _, e2, _⟩ := h
  rw [e, e2] at ho
  exact hx _ (Option.some.inj ho).symm
theorem Jar.upd {H : Hp} {j o : Addr} {k : Nat} {x : HO} (h : Jar H j k) (ho : o ≠ j) : Jar (upd H o x) j k := by
  obtain ⟨a, m, c, e, r⟩ := h
  exact ⟨a, m, c, (upd_ne (Ne.symm ho)).trans e, r⟩
/-- what was not there at first may change -/
theorem But.mut2 {j p : Addr} {H H' : Hp} {o : HO} (e : But j H H') (h : H p = none) : But j H (upd H' p o) := fun b x n q => by
  rw [upd_ne (ne_of_none q h)]
  exact e b x n q
section
variable {P : Program} {w : World} {K : PySem.W.Frag} {mg : Str → Option Value} {base : Heap}
def spVals (K : PySem.W.Frag) : Sp := fun vs H Q _ => ∃ j : Addr, vs = [.ref j] ∧ Jar H j 0 ∧ ∀ H' p ns, But j H H' → Jar H' j 20 → SqT K H' p (ns.map V.int) → Tab ns → ns.length ≤ 8 → Q (.ref p) H'
theorem sc__law_values : FnScope ["_law_jar_here", "_law_way_here", "_law_found", "_law_part", "_law_whole_here", "_law_k", "_law_by", "_law_x"] ["_law_jar_here"] (defScope (topS 93)) := ⟨rfl, rfl, rfl, by decide +kernel, rfl, by decide +kernel, by decide +kernel⟩
theorem c__law_values (D : Df K mg "_law_values" (topS 93)) (M : Md mg) (c__law_dig : Cal P w K mg base 1 "_law_dig" spDig) (c__law_lcm : Cal P w K mg base 2 "_law_lcm" spLLcm) (c__law_run : Cal P w K mg base 1 "_law_run" (spRun K)) : Cal P w K mg base 3 "_law_values" (spVals K) := by
  refine cal_of D sc__law_values (fun _ _ _ _ _ _ us hl => match us, hl with | [_], _ => rfl) (fun vs H Q E h => ?_) (fun f cdv A outer s H vs Q E hr h => ?_)
  · obtain ⟨a, rfl, _⟩ := h
    rfl
  · obtain ⟨j, rfl, hJ, q⟩ := h
    have nd := sc__law_values.nd
    refine ⟨_, (pss_cons (ps_asg (pe_tup (pa_cons (pe_c c__law_dig hr (by decide) (by rfl) (pa_cons (pv 0) (pa_cons pe_int pa_nil))) (pa_cons (pe_lst pa_nil) (pa_cons pe_int (pa_cons pe_int pa_nil))))) (pg_tup rfl (pgs_cons (pg_name (i := 1) nd rfl (by first | exact Or.inl rfl | exact Or.inr rfl)) (pgs_cons (pg_name (i := 2) nd rfl (by first | exact Or.inl rfl | exact Or.inr rfl)) (pgs_cons (pg_name (i := 3) nd rfl (by first | exact Or.inl rfl | exact Or.inr rfl)) (pgs_cons (pg_name (i := 4) nd rfl (by first | exact Or.inl rfl | exact Or.inr rfl)) pgs_nil)))))) (pss_cons (ps_for PassesOwn.never rfl (pi_range1 (by rfl) M.range (pa_cons (pe_op op_add pe_int (pe_c c__law_dig hr (by decide) (by rfl) (pa_cons (pv 0) (pa_cons pe_int pa_nil)))) pa_nil)) (pg_name (i := 5) nd rfl (by first | exact Or.inl rfl | exact Or.inr rfl)) (pss_cons (ps_par (i := 3) (j := 4) rfl nd rfl rfl (by decide) rfl rfl (pa_cons (pe_c c__law_lcm hr (by decide) (by rfl) (pa_cons (pv 3) (pa_cons (pe_callB (call_max2 rfl) (by rfl) M.max (by decide +kernel) (pa_cons (pv 5) (pa_cons pe_int pa_nil))) pa_nil))) (pa_cons (pe_op op_mulW (pv 4) (pe_callB (call_max2 rfl) (by rfl) M.max (by decide +kernel) (pa_cons (pv 5) (pa_cons pe_int pa_nil)))) pa_nil)) (by rfl)) (pss_cons (ps_set (i := 6) nd rfl (Or.inl rfl) (pe_ix (kix_list (K := K) rfl) (pe_lst (pa_cons (pv 4) (pa_cons (pv 3) (pa_cons pe_int pa_nil)))) (pv 1) (fun _ _ => rfl))) (pss_one (ps_expr (pe_bm PySem.F.plainAttrs_list PySem.F.slot_list_append PySem.F.type_list_append mt_append (pv 2) (pa_cons (pe_op op_mulW (pv 6) (pe_op op_sub (pe_c c__law_dig hr (by decide) (by rfl) (pa_cons (pv 0) (pa_cons pe_int pa_nil))) pe_int)) pa_nil))))))) (pss_one (ps_ret (pe_callTy call_tuple_of (by rfl) M.tuple (by decide +kernel) (pa_cons (pe_lc (own := [("_law_x", 7)]) (g := gName 7) rfl nd (pi_range1 (by rfl) M.range (pa_cons (pe_callB call_len_seq (by rfl) M.len (by decide +kernel) (pa_cons (pv 2) pa_nil)) pa_nil)) (blkOk_by (own := [("_law_x", 7)]) (N := ["_law_jar_here", "_law_way_here", "_law_found", "_law_part", "_law_whole_here", "_law_k", "_law_by", "_law_x"]) (sc := defScope (topS 93)) (by decide +kernel)) (fun _ _ _ _ _ => (pg_name (i := 7) nd rfl (by first | exact Or.inl rfl | exact Or.inr rfl))) (fun _ _ _ _ _ => pts_nil) (fun _ _ _ _ _ => (pe_c c__law_run hr (by decide) (by rfl) (pa_cons (pv 2) (pa_cons (pv 7) pa_nil))))) pa_nil)))))), ?_⟩
    walk_at "rd"
    refine ⟨j, 3, 0, rfl, hJ, by decide, by decide, by decide, fun H1 d b1 hJ1 hd0 hd3 => ?_⟩
    walk_at "rd"
    refine ⟨Nat.zero_le _, fun o ho => ?_⟩
    have hoj := hJ1.ne ho
    walk_at "rd"
    refine ⟨(show 4 ≤ sizeLine by decide), fun p hp => ?_⟩
    have hJ2 := (hJ1.upd (x := .lst []) hoj).upd (x := .tup [.int d, .ref o, .int 1, .int 1]) ((hJ1.upd (x := .lst []) hoj).ne hp)
    refine ⟨p, _, rfl, sqt_new, rfl, ?_⟩
    walk_at "rd"
    refine ⟨j, 8, 1, rfl, hJ2, by decide, by decide, by decide, fun H2 d2 b2 hJ3 h0 h8 => ?_⟩
    have ho2 : H2 o = some (.lst []) := b2 _ _ hoj ((same_upd hp) _ _ upd_same)
    have bA : But j H1 H2 := ((same_upd ho).but.trans (same_upd hp).but).trans b2
    walk_at "rd"
    refine ⟨by omega, by omega, ?_⟩
    refine for_it (walk_range (lo := 0) (n := (1 + d2).toNat)) (fun i σ H' => But j H1 H' ∧ Jar H' j (2 + i) ∧ ∃ (cs : List Int) (t1 t2 t3 : Option V), H' o = some (.lst (cs.map V.int)) ∧ cs.length = i ∧ Bnd 20 cs ∧ σ = [some (.ref j), some (.int d), some (.ref o), some (.int (L (i - 1) : Int)), some (.int (fact (i - 1) : Int)), t1, t2, t3]) ⟨bA, hJ3, [], none, none, none, ho2, rfl, (fun a ha => nomatch ha), rfl⟩ (fun _ _ _ _ _ => trivial) (fun i y σ H' H'' hi hP hy => ?_) (fun σ H' hP => ?_)
    · obtain ⟨bm, hJm, cs, t1, t2, t3, ho', hcl, hB, rfl⟩ := hP
      obtain ⟨rfl, hyy⟩ := hy
      have hyy : y = V.int (i : Int) := hyy.trans (zi i)
      subst hyy
      have hi8 : i < 8 := by omega
      walk_at "rd"
      rw [max_if]
      refine ⟨sm_nat (L_le _ (by omega)), sm_nat (by omega), by exact_mod_cast L_pos (i - 1), by omega, ?_⟩
      rw [L_next]
      walk_at "rd"
      rw [max_if]
      refine ⟨sm_mul (sm_nat (fact_le _ (by omega))) (sm_nat (by omega)), ?_⟩
      have ef := fact_next i
      walk_at "rd"
      refine ⟨(show 3 ≤ sizeLine by decide), fun r hr2 => ?_⟩
      obtain ⟨v, hv, hvb⟩ := way_at (w := fact i) (l := L i) (fact_le7 i (by omega)) (L_le7 i (by omega)) hd0 hd3
      rw [← ef] at hv
      walk_at "rd"
      refine ⟨_, _, _, _, rfl, rfl, sql_new, hv, ?_⟩
      have s1 : Same H'' (upd H'' r (.lst [.int ((fact (i - 1) : Int) * ((max i 1 : Nat) : Int)), .int (L i : Int), .int 1])) := same_upd hr2
      walk_at "rd"
      refine ⟨.inl ⟨rfl, _, sql (s1 _ _ ho')⟩, ?_⟩
      walk_at "rd"
      refine ⟨j, 13, 2 + i, rfl, hJm.same s1, by omega, by decide, by decide, fun H5 d5 b5 hJ5 h50 h513 => ?_⟩
      walk_at "rd"
      refine ⟨sm_mul (sm_le (n := 5040) hvb (by decide)) (sm_le (n := 20) (by omega) (by decide)), ?_⟩
      refine ⟨_, _, _, rfl, rfl, b5 _ _ hoj (s1 _ _ ho'), sz1000 (by rw [List.length_map]; omega), ?_⟩
      walk_at "rd"
      refine ⟨((bm.trans s1.but).trans b5).mut2 ho, hJ5.upd hoj, cs ++ [v * (d5 - 6)], some (.int (i : Int)), some (.int v), t3, ?_, by rw [List.length_append, hcl]; rfl, fun a ha => ?_, ?_⟩
      · rw [upd_same, List.map_append]
        rfl
      · rcases List.mem_append.mp ha with h | h
        · exact hB a h
        · have e1 := List.mem_singleton.mp h
          rw [e1, Int.natAbs_mul]
          have h1 : (d5 - 6).natAbs ≤ 6 := by omega
          exact Nat.lt_of_le_of_lt (Nat.mul_le_mul hvb h1) (by decide)
      · rw [Nat.add_sub_cancel, ← ef]
        rfl
    · obtain ⟨bm, hJm, cs, t1, t2, t3, ho', hcl, hB, rfl⟩ := hP
      have hl8 : cs.length ≤ 8 := by omega
      have hne : cs ≠ [] := fun e => by
        rw [e] at hcl
        have : ([] : List Int).length = 0 := rfl
        omega
      walk_at "rd"
      refine ⟨_, _, rfl, .inl (sql ho'), ?_⟩
      rw [List.length_map]
      walk_at "rd"
      refine ⟨by omega, by omega, fun D1 hD1 => ?_⟩
      refine lc_data RI stb_RI (tabL cs) (fun _ => true) (walk_range (lo := 0) (n := ((cs.length : Nat) : Int).toNat)) (by rw [tabL_len]; omega) (sz1000 (by omega)) hD1 (fun _ _ => trivial) (fun i b x H5 H6 N1 N0 hb s5 hy hn1 hn0 => ?_) (fun H5 vs5 s5 hD5 he5 => ?_)
      · obtain ⟨rfl, hyy⟩ := hy
        have hyy : x = V.int (i : Int) := hyy.trans (zi i)
        subst hyy
        have hi := (List.getElem?_eq_some_iff.mp hb).1
        rw [tabL_len] at hi
        have eb : b = valF 0 cs i := by
          unfold tabL at hb
          rw [List.getElem?_map, List.getElem?_range hi] at hb
          exact (Option.some.inj hb).symm
        subst eb
        walk_at "rd"
        refine ⟨o, cs, i, rfl, s5.seq (sql ho'), hl8, hB, by omega, fun H7 s7 => ?_⟩
        exact hn1 rfl _ _ s7 rfl
      · have ew := els_ints he5
        rw [List.filter_eq_self.mpr (fun _ _ => rfl)] at ew
        subst ew
        refine ⟨_, _, rfl, .inl ⟨sql hD5, fun l hl => ?_⟩⟩
        exact q _ l (tabL cs) (((b1.trans bm).trans s5.but).trans (same_upd hl).but) (((hJm.mono (by omega)).same s5).same (same_upd hl)) sqt_new (tab_of hne hl8 hB) (by rw [tabL_len]; exact hl8)
end
end K79
/-! The law's question of one table. -/
namespace K79
open PySem PySem.Spec PyProof.Rows L2
local macro_rules | `(tactic| walk_at "rd1") => `(tactic| first | refine ⟨_, rfl, ?_⟩ | refine ⟨_, _, rfl, rfl, ?_⟩ | refine ⟨_, _, rfl, ?_⟩ | refine ⟨rfl, ?_⟩)
local macro_rules | `(tactic| walk_at "rd") => `(tactic| repeat walk_at "rd1")
abbrev claimD (word : Str) (ns : List Int) : PyData := .tuple [.str word, .tuple (iD ns)]
theorem shaped_claim (word : Str) (ns : List Int) (h : PyData.strOk word = true) : SeqAt.shaped (claimD word ns) = true := by
  unfold SeqAt.shaped claimD
  rw [Bool.and_eq_true]
  refine ⟨?_, decide_eq_true ?_⟩
  · have := canLay_ints ns
    simpa [PyData.canLay0, PyData.canLayAll0, h] using this
  · have := depth_ints' ns
    simp only [PyData.depth, PyData.depthAll, this]
    decide
theorem eqvAll_ints : ∀ ns : List Int, PyData.eqvAll (iD ns) (iD ns) = true
  | [] => by simp [PyData.eqvAll]
  | n :: ns => by
    have := eqvAll_ints ns
    simp only [iD, List.map_cons, PyData.eqvAll, PyData.eqv] at this ⊢
    rw [this]
    simp
theorem eqv_ints (ns : List Int) : PyData.eqv (.tuple (iD ns)) (.tuple (iD ns)) = true := by
  rw [PyData.eqv]
  exact eqvAll_ints ns
theorem eqv_claim (word : Str) (ns : List Int) : PyData.eqv (claimD word ns) (claimD word ns) = true := by
  have := eqvAll_ints ns
  simp [PyData.eqv, PyData.eqvAll, this]
theorem far_ok {d1 d2 z : Int} (h1 : 0 ≤ d1) (h2 : d1 < 60) (h3 : 0 ≤ d2) (h4 : d2 < 99) (h : z = d1 ∨ z = 1000000 + d2) : ∃ x : Nat, z = (x : Int) ∧ x < 2 ^ 20 := by
  refine ⟨z.toNat, by omega, ?_⟩
  have e : (2 : Nat) ^ 20 = 1048576 := by decide
  omega
section
variable {P : Program} {w : World} {K : PySem.W.Frag} {mg : Str → Option Value} {base : Heap}
theorem TupOf.ext {β : Type} {R : Hp → V → β → Prop} {H H' : Hp} {a : Addr} {l : List β} (sR : Stb' R) (e : Ext H H') (h : TupOf K R H a l) : TupOf K R H' a l := let ⟨vs, h1, h2⟩ := h; ⟨vs, e.tup h1, h2.ext sR e⟩
def spRight (K : PySem.W.Frag) : Sp := fun vs H Q _ => ∃ j : Addr, vs = [.ref j] ∧ Jar H j 0 ∧ ∀ H', But j H H' → Q (.bl true) H'
theorem sc__law_right : FnScope ["_law_jar_here", "_law_told", "_law_word", "_law_pair", "_law_claim_here", "_law_paper", "_law_rows", "_law_line", "_law_numbers_here", "_law_shown", "_law_far", "_law_rest_here", "_law_part", "_law_factors_here", "_law_x", "_law_number_here"] ["_law_jar_here"] (defScope (topS 94)) := ⟨rfl, rfl, rfl, by decide +kernel, rfl, by decide +kernel, by decide +kernel⟩
theorem c__law_right (D : Df K mg "_law_right" (topS 94)) (M : Md mg)
    (c__law_values : Cal P w K mg base 3 "_law_values" (spVals K)) (c_certify_values : Cal P w K mg base 3 "certify_values" (spCertV K)) (c__law_take : Cal P w K mg base 2 "_law_take" (spTake K)) (c_sort_of : Cal P w K mg base 4 "sort_of" (spSort K))
    (c_first_loose : Cal P w K mg base 3 "first_loose" (spFirstLoose K)) (c_through : Cal P w K mg base 4 "through" (spThrough K)) (c_certify_points : Cal P w K mg base 4 "certify_points" (spCertP K)) (c_known : Cal P w K mg base 6 "known" (spKnown K))
    (c_accepts : Cal P w K mg base 5 "accepts" (spAccepts K)) (c_fits : Cal P w K mg base 5 "fits" (spFits K)) (c__law_dig : Cal P w K mg base 1 "_law_dig" spDig) (c__law_agree : Cal P w K mg base 1 "_law_agree" spLAgree)
    (c_steps : Cal P w K mg base 3 "steps" (spSteps K)) (c_value_from : Cal P w K mg base 3 "value_from" (spValFrom K)) (c_keeps : Cal P w K mg base 5 "keeps" (spKeeps K)) (c_value_of : Cal P w K mg base 5 "value_of" (spValueOf K))
    (c_quarrels : Cal P w K mg base 5 "quarrels" (spQuarrels K)) : Cal P w K mg base 7 "_law_right" (spRight K) := by
  refine cal_of D sc__law_right (fun _ _ _ _ _ _ us hl => match us, hl with | [_], _ => rfl) (fun vs H Q E h => ?_) (fun f cdv A outer s H vs Q E hr h => ?_)
  · obtain ⟨a, rfl, _⟩ := h
    rfl
  · obtain ⟨j, rfl, hJ, q⟩ := h
    have nd := sc__law_right.nd
    refine ⟨_, (pss_cons (ps_set (i := 1) nd rfl (Or.inr rfl) (pe_c c__law_values hr (by decide) (by rfl) (pa_cons (pv 0) pa_nil))) (pss_cons (ps_par (i := 2) (j := 3) rfl nd rfl rfl (by decide) rfl rfl (pa_cons (pe_c c_sort_of hr (by decide) (by rfl) (pa_cons (pv 1) pa_nil)) (pa_cons (pe_c c_first_loose hr (by decide) (by rfl) (pa_cons (pv 1) pa_nil)) pa_nil)) (by rfl)) (pss_cons (ps_asg (pe_c c_certify_values hr (by decide) (by rfl) (pa_cons (pv 1) pa_nil)) (pg_tup rfl (pgs_cons (pg_name (i := 4) nd rfl (by first | exact Or.inl rfl | exact Or.inr rfl)) (pgs_cons (pg_name (i := 5) nd rfl (by first | exact Or.inl rfl | exact Or.inr rfl)) pgs_nil)))) (pss_cons (ps_if (pw_or (pt_cmpR (op_neD hr.units) (pv 4) (pe_tup (pa_cons (pe_ifExp (pt_cmpR op_eq (pv 2) pe_str (nomark _)) pe_str pe_str) (pa_cons (pv 1) pa_nil))) (nomark _)) (pw_or1 (pt_not (pt_val (pe_c c_accepts hr (by decide) (by rfl) (pa_cons (pv 4) (pa_cons (pv 5) pa_nil))))))).pt (pss_one (ps_ret pe_bl)) pss_nil) (pss_cons (ps_if (pw_or (pw_and (pt_cmpR op_ne (pv 2) pe_str (nomark _)) (pw_and1 (pt_cmpR (op_neD hr.units) (pv 5) (pe_c c_steps hr (by decide) (by rfl) (pa_cons (pv 1) pa_nil)) (nomark _)))).pt (pw_or1 (pt_cmpR op_ne (pe_cmp (pc_isN (pv 3))) (pe_cmpR op_ne (pv 2) pe_str (nomark _)) (nomark _)))).pt (pss_one (ps_ret pe_bl)) pss_nil) (pss_cons (ps_set (i := 6) nd rfl (Or.inl rfl) (pe_callTy call_tuple_of (by rfl) M.tuple (by decide +kernel) (pa_cons (pe_lc (own := [("_law_x", 14)]) (g := gName 14) rfl nd (pi_range1 (by rfl) M.range (pa_cons (pe_callB call_len_seq (by rfl) M.len (by decide +kernel) (pa_cons (pv 1) pa_nil)) pa_nil)) (blkOk_by (own := [("_law_x", 14)]) (N := ["_law_jar_here", "_law_told", "_law_word", "_law_pair", "_law_claim_here", "_law_paper", "_law_rows", "_law_line", "_law_numbers_here", "_law_shown", "_law_far", "_law_rest_here", "_law_part", "_law_factors_here", "_law_x", "_law_number_here"]) (sc := defScope (topS 94)) (by decide +kernel)) (fun _ _ _ _ _ => (pg_name (i := 14) nd rfl (by first | exact Or.inl rfl | exact Or.inr rfl))) (fun _ _ _ _ _ => pts_nil) (fun _ _ _ _ _ => (pe_tup (pa_cons (pv 14) (pa_cons (pe_ix (kix_tup (K := K) rfl) (pv 1) (pv 14) (fun _ _ => rfl)) (pa_cons pe_int pa_nil)))))) pa_nil))) (pss_cons (ps_if (pw_or (pt_cmpR op_ne (pe_c c_fits hr (by decide) (by rfl) (pa_cons (pv 6) pa_nil)) (pe_cmpR op_ne (pv 2) pe_str (nomark _)) (nomark _)) (pw_or1 (pw_and (pt_cmpR op_eq (pv 2) pe_str (nomark _)) (pw_and1 (pt_cmpR (op_neD hr.units) (pe_ix (kix_tup (K := K) rfl) (pe_c c_quarrels hr (by decide) (by rfl) (pa_cons (pv 6) pa_nil)) pe_int (fun _ _ => rfl)) (pv 3) (nomark _)))).pt)).pt (pss_one (ps_ret pe_bl)) pss_nil) (pss_cons (ps_set (i := 7) nd rfl (Or.inl rfl) (pe_callTy call_tuple_of (by rfl) M.tuple (by decide +kernel) (pa_cons (pe_lc (own := [("_law_x", 14)]) (g := gName 14) rfl nd (pi_range1 (by rfl) M.range (pa_cons (pe_callB call_len_seq (by rfl) M.len (by decide +kernel) (pa_cons (pv 1) pa_nil)) pa_nil)) (blkOk_by (own := [("_law_x", 14)]) (N := ["_law_jar_here", "_law_told", "_law_word", "_law_pair", "_law_claim_here", "_law_paper", "_law_rows", "_law_line", "_law_numbers_here", "_law_shown", "_law_far", "_law_rest_here", "_law_part", "_law_factors_here", "_law_x", "_law_number_here"]) (sc := defScope (topS 94)) (by decide +kernel)) (fun _ _ _ _ _ => (pg_name (i := 14) nd rfl (by first | exact Or.inl rfl | exact Or.inr rfl))) (fun _ _ _ _ _ => pts_nil) (fun _ _ _ _ _ => (pe_tup (pa_cons (pv 14) (pa_cons (pe_ix (kix_tup (K := K) rfl) (pv 1) (pv 14) (fun _ _ => rfl)) pa_nil))))) pa_nil))) (pss_cons (ps_par (i := 8) (j := 9) rfl nd rfl rfl (by decide) rfl rfl (pa_cons (pe_c c_through hr (by decide) (by rfl) (pa_cons (pv 7) pa_nil)) (pa_cons (pe_c c_certify_points hr (by decide) (by rfl) (pa_cons (pv 7) pa_nil)) pa_nil)) (by rfl)) (pss_cons (ps_if (pw_or (pt_cmpR op_ne (pe_cmp (pc_notN (pv 8))) (pe_cmpR op_eq (pv 2) pe_str (nomark _)) (nomark _)) (pw_or1 (pt_not (pt_val (pe_c c_accepts hr (by decide) (by rfl) (pa_cons (pe_ix (kix_tup (K := K) rfl) (pv 9) pe_int (fun _ _ => rfl)) (pa_cons (pe_ix (kix_tup (K := K) rfl) (pv 9) pe_int (fun _ _ => rfl)) pa_nil))))))).pt (pss_one (ps_ret pe_bl)) pss_nil) (pss_cons (ps_set (i := 10) nd rfl (Or.inl rfl) (pe_c c__law_take hr (by decide) (by rfl) (pa_cons (pv 0) (pa_cons (pe_lst (pa_cons (pe_c c__law_dig hr (by decide) (by rfl) (pa_cons (pv 0) (pa_cons pe_int pa_nil))) (pa_cons (pe_op op_add (pe_op op_pow pe_int pe_int) (pe_c c__law_dig hr (by decide) (by rfl) (pa_cons (pv 0) (pa_cons pe_int pa_nil)))) pa_nil))) pa_nil)))) (pss_cons (ps_if (pt_cmpR op_ne (pv 2) pe_str (nomark _)) (pss_cons (ps_asg (pe_c c_known hr (by decide) (by rfl) (pa_cons (pv 6) (pa_cons (pv 10) pa_nil))) (pg_tup rfl (pgs_cons (pg_name (i := 11) nd rfl (by first | exact Or.inl rfl | exact Or.inr rfl)) (pgs_cons (pg_name (i := 12) nd rfl (by first | exact Or.inl rfl | exact Or.inr rfl)) pgs_nil)))) (pss_one (ps_if (pt_not (pt_val (pe_c c__law_agree hr (by decide) (by rfl) (pa_cons (pv 11) (pa_cons (pe_c c_value_from hr (by decide) (by rfl) (pa_cons (pv 1) (pa_cons (pv 10) pa_nil))) (pa_cons (pv 12) pa_nil)))))) (pss_one (ps_ret pe_bl)) pss_nil))) pss_nil) (pss_cons (ps_if (pt_cmp (pc_notN (pv 8))) (pss_cons (ps_set (i := 13) nd rfl (Or.inl rfl) (pe_callTy call_tuple_of (by rfl) M.tuple (by decide +kernel) (pa_cons (pe_lc (own := [("_law_number_here", 15)]) (g := gName 15) rfl nd (pi_tup (pv 8)) (blkOk_by (own := [("_law_number_here", 15)]) (N := ["_law_jar_here", "_law_told", "_law_word", "_law_pair", "_law_claim_here", "_law_paper", "_law_rows", "_law_line", "_law_numbers_here", "_law_shown", "_law_far", "_law_rest_here", "_law_part", "_law_factors_here", "_law_x", "_law_number_here"]) (sc := defScope (topS 94)) (by decide +kernel)) (fun _ _ _ _ _ => (pg_name (i := 15) nd rfl (by first | exact Or.inl rfl | exact Or.inr rfl))) (fun _ _ _ _ _ => pts_nil) (fun _ _ _ _ _ => (pe_tup (pa_cons (pv 15) (pa_cons pe_int pa_nil))))) pa_nil))) (pss_one (ps_if (pw_or (pt_not (pt_val (pe_c c_keeps hr (by decide) (by rfl) (pa_cons (pv 13) pa_nil)))) (pw_or1 (pt_cmpR (op_neD hr.units) (pe_c c_value_of hr (by decide) (by rfl) (pa_cons (pv 13) (pa_cons (pv 10) pa_nil))) (pe_tup (pa_cons (pe_c c_value_from hr (by decide) (by rfl) (pa_cons (pv 1) (pa_cons (pv 10) pa_nil))) (pa_cons pe_int pa_nil))) (nomark _)))).pt (pss_one (ps_ret pe_bl)) pss_nil))) pss_nil) (pss_one (ps_ret pe_bl))))))))))))))), ?_⟩
    have e0 : ∀ N : List Str, N.length = 16 → L2.start N [V.ref j] = [some (V.ref j), none, none, none, none, none, none, none, none, none, none, none, none, none, none, none] := fun N hN => by
      show [some (V.ref j)] ++ List.replicate (N.length - 1) none = _
      rw [hN]
      rfl
    rw [e0 _ (by rfl)]
    walk_at "rd"
    refine ⟨hJ, fun H1 t ns b1 hJ1 hT hTab hl8 => ?_⟩
    have hlen := hTab.len
    walk_at "rd"
    refine ⟨_, _, rfl, hT, hTab.ne, hTab.len, fun H2 s2 => ⟨fun hW => ?_, fun hnW hK => ?_, fun hnW hnK => ?_⟩⟩
    · have hK := whole_kept hW
      have hno : looseL ns = [] := loose_iff.mpr hK
      walk_at "rd"
      refine ⟨_, _, rfl, s2.tup hT, hTab.ne, by omega, fun H3 s3 => ⟨fun _ => ?_, fun v p tl hp => absurd (hp.symm.trans hno) (by simp)⟩⟩
      have sA := s2.trans s3
      walk_at "rd"
      refine ⟨_, _, rfl, sA.tup hT, hTab.ne, by omega, fun H4 r c s4 => ⟨fun _ sc hr4 hc4 hs4 => ?_, fun v p tl hp => absurd (hp.symm.trans hno) (by simp)⟩⟩
      refine ⟨r, _, rfl, hr4, rfl, ?_⟩
      have sB := sA.trans s4
      walk_at "rd"
      refine ⟨(show 2 ≤ sizeLine by decide), fun p5 hp5 => ?_⟩
      have s5 := same_upd (o := .tup [.str "kept", .ref t]) hp5
      have sC := sB.trans s5
      refine ⟨claimD "kept" ns, claimD "kept" ns, .tup (s5.tup hc4) (.cons (.str _) (.cons (.tup (sC.tup hT) (dpa_ints ns)) .nil)), .tup sqt_new (.cons (.str _) (.cons (.tup (sC.tup hT) (dpa_ints ns)) .nil)), shaped_claim _ _ (by decide +kernel), shaped_claim _ _ (by decide +kernel), ?_⟩
      rw [eqv_claim]
      walk_at "rd"
      refine ⟨c, t, _, .ref sc, ns, rfl, s5.tup hc4, fun H6 s6 => ?_, .inl ⟨sC.tup hT, hTab.ne, by omega, .inl ⟨rfl, sc, rfl, s5.tup hs4, hK⟩⟩⟩
      walk_at "rd"
      have sD := sC.trans s6
      refine ⟨_, _, rfl, sD.tup hT, hTab.ne, by omega, fun H7 p7 s7 hp7 => ?_⟩
      refine ⟨.tuple (iD (stepsL ns)), .tuple (iD (stepsL ns)), .tup (((s5.trans s6).trans s7).tup hs4) (dpa_ints _), .tup hp7 (dpa_ints _), shaped_tup _, shaped_tup _, ?_⟩
      rw [eqv_ints]
      walk_at "rd"
      have sE := sD.trans s7
      refine ⟨_, _, rfl, .inr (sE.tup hT), ?_⟩
      rw [List.length_map]
      walk_at "rd"
      refine ⟨by omega, by omega, fun D1 hD1 => ?_⟩
      refine lc_data (RT K) stb_RT (rowsL ns) (fun _ => true) (walk_range (lo := 0) (n := ((ns.length : Nat) : Int).toNat)) (by rw [rowsL_len]; omega) (sz1000 (by omega)) hD1 (fun _ _ => trivial) (fun i b x H5 H6 N1 N0 hb s5 hy hn1 hn0 => ?_) (fun H8 ws8 s8 hD8 he8 => ?_)
      · obtain ⟨rfl, hyy⟩ := hy
        have hyy : x = V.int (i : Int) := hyy.trans (zi i)
        subst hyy
        obtain ⟨u, hu, rfl⟩ := rowsL_of hb
        walk_at "rd"
        refine ⟨_, _, _, _, rfl, rfl, (sE.trans s5).tup hT, atI_nat (j := i) (v := .int u) (by rw [List.getElem?_map, hu]; rfl), ?_⟩
        walk_at "rd"
        refine ⟨(show 3 ≤ sizeLine by decide), fun p hp => ?_⟩
        exact hn1 rfl _ _ (same_upd hp) ⟨p, rfl, sqt_new⟩
      rw [List.filter_eq_self.mpr (fun _ _ => rfl)] at he8
      refine ⟨_, _, rfl, .inl ⟨sql hD8, fun rr hrr => ?_⟩⟩
      have s9 := same_upd (o := .tup ws8) hrr
      have hRows : RowsAt K (upd H8 rr (.tup ws8)) rr ns := ⟨ws8, sqt_new, he8.ext stb_RT s9.ext⟩
      have sF := (sE.trans s8).trans s9
      generalize upd H8 rr (.tup ws8) = H9 at *
      walk_at "rd"
      refine ⟨_, _, rfl, hRows, by omega, fun H10 s10 => ?_⟩
      rw [hno]
      walk_at "rd"
      have sG := sF.trans s10
      dsimp only [List.set]
      have hRows2 := hRows.same stb_RT s10
      have sH := sG
      refine ⟨_, _, rfl, .inr (sH.tup hT), ?_⟩
      rw [List.length_map]
      walk_at "rd"
      refine ⟨by omega, by omega, fun D2 hD2 => ?_⟩
      refine lc_data (RP K) stb_RP (ptsL ns) (fun _ => true) (walk_range (lo := 0) (n := ((ns.length : Nat) : Int).toNat)) (by rw [ptsL_len]; omega) (sz1000 (by omega)) hD2 (fun _ _ => trivial) (fun i b x H5 H6 N1 N0 hb s5 hy hn1 hn0 => ?_) (fun H12 ws12 s12 hD12 he12 => ?_)
      · obtain ⟨rfl, hyy⟩ := hy
        have hyy : x = V.int (i : Int) := hyy.trans (zi i)
        subst hyy
        obtain ⟨u, hu, rfl⟩ := ptsL_of hb
        walk_at "rd"
        refine ⟨_, _, _, _, rfl, rfl, (sH.trans s5).tup hT, atI_nat (j := i) (v := .int u) (by rw [List.getElem?_map, hu]; rfl), ?_⟩
        walk_at "rd"
        refine ⟨(show 2 ≤ sizeLine by decide), fun p hp => ?_⟩
        exact hn1 rfl _ _ (same_upd hp) ⟨p, rfl, sqt_new⟩
      rw [List.filter_eq_self.mpr (fun _ _ => rfl)] at he12
      refine ⟨_, _, rfl, .inl ⟨sql hD12, fun ll hll => ?_⟩⟩
      have s13 := same_upd (o := .tup ws12) hll
      have hPts : PtsAt K (upd H12 ll (.tup ws12)) ll ns := ⟨ws12, sqt_new, he12.ext stb_RP s13.ext⟩
      have sI := (sH.trans s12).trans s13
      have sR := s12.trans s13
      generalize upd H12 ll (.tup ws12) = H13 at *
      walk_at "rd"
      dsimp only [List.set]
      refine ⟨_, _, rfl, hPts, hTab, fun H14 s14 => ⟨fun _ pn as hpn hTr => ?_, fun hn => absurd hW hn⟩⟩
      walk_at "rd"
      refine ⟨_, _, rfl, hPts.same stb_RP s14, hTab, fun H15 r5 c5 s15 => ⟨fun _ sp as2 hr5 hc5 hsp hTr2 => ?_, fun hn => absurd hW hn⟩⟩
      have sJ := (sI.trans s14).trans s15
      have hPts5 := hPts.same stb_RP (s14.trans s15)
      walk_at "rd"
      refine ⟨_, _, _, _, rfl, rfl, hr5, atI_nat (j := 0) rfl, ?_⟩
      walk_at "rd"
      refine ⟨_, _, _, _, rfl, rfl, hr5, atI_nat (j := 1) rfl, ?_⟩
      walk_at "rd"
      refine ⟨c5, ll, _, .ref sp, ns, rfl, hc5, fun H16 s16 => ?_, .inr ⟨hPts5, hTab, .inr ⟨rfl, sp, as2, rfl, hsp, hW, hTr2⟩⟩⟩
      walk_at "rd"
      have sK := sJ.trans s16
      have hJa := hJ1.same sK
      refine ⟨j, 60, 20, rfl, hJa, by decide, by decide, by decide, fun Hd1 d1 bd1 hJd1 hd0 hd60 => ?_⟩
      walk_at "rd"
      refine ⟨⟨by decide, by decide, by decide⟩, ?_⟩
      walk_at "rd"
      refine ⟨j, 99, 21, rfl, hJd1, by decide, by decide, by decide, fun Hd2 d2 bd2 hJd2 hd20 hd99 => ?_⟩
      walk_at "rd"
      refine ⟨(show 2 ≤ sizeLine by decide), fun l hl => ?_⟩
      have hlj := hJd2.ne hl
      have sl1 := same_upd (o := .lst [.int d1, .int (1000000 + d2)]) hl
      walk_at "rd"
      refine ⟨j, l, d1, 1000000 + d2, 22, rfl, upd_same, hlj, hJd2.same sl1, by decide, fun Hf z bf hJf hz => ?_⟩
      obtain ⟨x, rfl, hx⟩ := far_ok hd0 hd60 hd20 hd99 hz
      have eX : Ext H16 Hf := ((bd1.ext hJa).trans (bd2.ext hJd1)).trans (sl1.ext.trans (bf.ext (hJd2.same sl1)))
      have bX : But j H1 Hf := ((sK.but.trans bd1).trans bd2).trans (sl1.but.trans bf)
      have hTf : SqT K Hf t (ns.map V.int) := eX.tup (sK.tup hT)
      have hRf : RowsAt K Hf rr ns := TupOf.ext stb_RT eX (hRows2.same stb_RT ((sR.trans (s14.trans s15)).trans s16))
      walk_at "rd1"
      dsimp only [List.set]
      walk_at "rd"
      refine ⟨_, _, x, rfl, hRf, ⟨hlen, hTab.v, hx, hno⟩, fun H20 p20 r20 m20 s20 hp20 h20 hd20' => ?_⟩
      refine ⟨p20, _, rfl, hp20, rfl, ?_⟩
      walk_at "rd"
      refine ⟨_, _, x, rfl, s20.tup hTf, hTab.ne, hTab.len, hTab.c, hx, fun H21 s21 => ?_⟩
      walk_at "rd"
      refine ⟨_, _, _, rfl, h20, hd20', ?_⟩
      walk_at "rd"
      have sL := s20.trans s21
      have hpnf : SqT K H21 pn (as.map V.int) := sL.tup (eX.tup ((s15.trans s16).tup hpn))
      have al := trim_len hTr
      rw [polyN_len] at al
      have aB : Bnd 200 as := trim_bnd hTr ((polyN_bnd2 hTab.c (by omega)).mono (by decide))
      refine ⟨⟨_, hpnf⟩, fun D3 hD3 => ?_⟩
      refine lc_data (RP K) stb_RP (fracL as) (fun _ => true) (walk_tup (xs := as.map V.int)) (by rw [fracL_len, List.length_map]) (sz1000 (by rw [List.length_map]; omega)) hD3 (fun H5 s5 => s5.tup hpnf) (fun i b x H5 H6 N1 N0 hb s5 hy hn1 hn0 => ?_) (fun H22 ws22 s22 hD22 he22 => ?_)
      · obtain ⟨rfl, hyy⟩ := hy
        obtain ⟨u, hu, rfl⟩ := fracL_of hb
        rw [List.getElem?_map, hu] at hyy
        obtain rfl := Option.some.inj hyy
        walk_at "rd"
        refine ⟨(show 2 ≤ sizeLine by decide), fun p hp => ?_⟩
        exact hn1 rfl _ _ (same_upd hp) ⟨p, rfl, sqt_new⟩
      rw [List.filter_eq_self.mpr (fun _ _ => rfl)] at he22
      refine ⟨_, _, rfl, .inl ⟨sql hD22, fun ff hff => ?_⟩⟩
      have s23 := same_upd (o := .tup ws22) hff
      have hFr : FracAt K (upd H22 ff (.tup ws22)) ff as := ⟨ws22, sqt_new, he22.ext stb_RP s23.ext⟩
      have sM := (sL.trans s22).trans s23
      generalize upd H22 ff (.tup ws22) = H23 at *
      walk_at "rd"
      refine ⟨_, _, rfl, hFr, hTr.1, by omega, aB, fun H24 s24 => ?_⟩
      walk_at "rd"
      refine ⟨_, _, _, rfl, hFr.same stb_RP s24, hTr.1, ⟨by omega, aB, by omega⟩, fun H25 p25 s25 hp25 => ?_⟩
      walk_at "rd"
      have sN := (sM.trans s24).trans s25
      refine ⟨_, _, x, rfl, sN.tup hTf, hTab.ne, hTab.len, hTab.c, hx, fun H26 s26 => ?_⟩
      walk_at "rd"
      refine ⟨(show 2 ≤ sizeLine by decide), fun p27 hp27 => ?_⟩
      have s27 := same_upd (o := .tup [.int (valF 0 (stepsL ns) x), .int 1]) hp27
      refine ⟨.tuple (iD [evalP as (x : Int), 1]), .tuple (iD [valF 0 (stepsL ns) x, 1]), .tup (sqt ((s26.trans s27) _ _ hp25)) (dpa_ints [evalP as (x : Int), 1]), .tup sqt_new (dpa_ints [valF 0 (stepsL ns) x, 1]), shaped_tup _, shaped_tup _, ?_⟩
      rw [trim_eval hTr, poly_val hW, eqv_ints]
      walk_at "rd"
      exact q _ ((b1.trans bX).trans ((sN.trans s26).trans s27).but)
    · have hno : looseL ns = [] := loose_iff.mpr hK
      walk_at "rd"
      refine ⟨_, _, rfl, s2.tup hT, hTab.ne, by omega, fun H3 s3 => ⟨fun _ => ?_, fun v p tl hp => absurd (hp.symm.trans hno) (by simp)⟩⟩
      have sA := s2.trans s3
      walk_at "rd"
      refine ⟨_, _, rfl, sA.tup hT, hTab.ne, by omega, fun H4 r c s4 => ⟨fun _ sc hr4 hc4 hs4 => ?_, fun v p tl hp => absurd (hp.symm.trans hno) (by simp)⟩⟩
      refine ⟨r, _, rfl, hr4, rfl, ?_⟩
      have sB := sA.trans s4
      walk_at "rd"
      refine ⟨(show 2 ≤ sizeLine by decide), fun p5 hp5 => ?_⟩
      have s5 := same_upd (o := .tup [.str "kept", .ref t]) hp5
      have sC := sB.trans s5
      refine ⟨claimD "kept" ns, claimD "kept" ns, .tup (s5.tup hc4) (.cons (.str _) (.cons (.tup (sC.tup hT) (dpa_ints ns)) .nil)), .tup sqt_new (.cons (.str _) (.cons (.tup (sC.tup hT) (dpa_ints ns)) .nil)), shaped_claim _ _ (by decide +kernel), shaped_claim _ _ (by decide +kernel), ?_⟩
      rw [eqv_claim]
      walk_at "rd"
      refine ⟨c, t, _, .ref sc, ns, rfl, s5.tup hc4, fun H6 s6 => ?_, .inl ⟨sC.tup hT, hTab.ne, by omega, .inl ⟨rfl, sc, rfl, s5.tup hs4, hK⟩⟩⟩
      walk_at "rd"
      have sD := sC.trans s6
      refine ⟨_, _, rfl, sD.tup hT, hTab.ne, by omega, fun H7 p7 s7 hp7 => ?_⟩
      refine ⟨.tuple (iD (stepsL ns)), .tuple (iD (stepsL ns)), .tup (((s5.trans s6).trans s7).tup hs4) (dpa_ints _), .tup hp7 (dpa_ints _), shaped_tup _, shaped_tup _, ?_⟩
      rw [eqv_ints]
      walk_at "rd"
      have sE := sD.trans s7
      refine ⟨_, _, rfl, .inr (sE.tup hT), ?_⟩
      rw [List.length_map]
      walk_at "rd"
      refine ⟨by omega, by omega, fun D1 hD1 => ?_⟩
      refine lc_data (RT K) stb_RT (rowsL ns) (fun _ => true) (walk_range (lo := 0) (n := ((ns.length : Nat) : Int).toNat)) (by rw [rowsL_len]; omega) (sz1000 (by omega)) hD1 (fun _ _ => trivial) (fun i b x H5 H6 N1 N0 hb s5 hy hn1 hn0 => ?_) (fun H8 ws8 s8 hD8 he8 => ?_)
      · obtain ⟨rfl, hyy⟩ := hy
        have hyy : x = V.int (i : Int) := hyy.trans (zi i)
        subst hyy
        obtain ⟨u, hu, rfl⟩ := rowsL_of hb
        walk_at "rd"
        refine ⟨_, _, _, _, rfl, rfl, (sE.trans s5).tup hT, atI_nat (j := i) (v := .int u) (by rw [List.getElem?_map, hu]; rfl), ?_⟩
        walk_at "rd"
        refine ⟨(show 3 ≤ sizeLine by decide), fun p hp => ?_⟩
        exact hn1 rfl _ _ (same_upd hp) ⟨p, rfl, sqt_new⟩
      rw [List.filter_eq_self.mpr (fun _ _ => rfl)] at he8
      refine ⟨_, _, rfl, .inl ⟨sql hD8, fun rr hrr => ?_⟩⟩
      have s9 := same_upd (o := .tup ws8) hrr
      have hRows : RowsAt K (upd H8 rr (.tup ws8)) rr ns := ⟨ws8, sqt_new, he8.ext stb_RT s9.ext⟩
      have sF := (sE.trans s8).trans s9
      generalize upd H8 rr (.tup ws8) = H9 at *
      walk_at "rd"
      refine ⟨_, _, rfl, hRows, by omega, fun H10 s10 => ?_⟩
      rw [hno]
      walk_at "rd"
      have sG := sF.trans s10
      dsimp only [List.set]
      have hRows2 := hRows.same stb_RT s10
      have sH := sG
      refine ⟨_, _, rfl, .inr (sH.tup hT), ?_⟩
      rw [List.length_map]
      walk_at "rd"
      refine ⟨by omega, by omega, fun D2 hD2 => ?_⟩
      refine lc_data (RP K) stb_RP (ptsL ns) (fun _ => true) (walk_range (lo := 0) (n := ((ns.length : Nat) : Int).toNat)) (by rw [ptsL_len]; omega) (sz1000 (by omega)) hD2 (fun _ _ => trivial) (fun i b x H5 H6 N1 N0 hb s5 hy hn1 hn0 => ?_) (fun H12 ws12 s12 hD12 he12 => ?_)
      · obtain ⟨rfl, hyy⟩ := hy
        have hyy : x = V.int (i : Int) := hyy.trans (zi i)
        subst hyy
        obtain ⟨u, hu, rfl⟩ := ptsL_of hb
        walk_at "rd"
        refine ⟨_, _, _, _, rfl, rfl, (sH.trans s5).tup hT, atI_nat (j := i) (v := .int u) (by rw [List.getElem?_map, hu]; rfl), ?_⟩
        walk_at "rd"
        refine ⟨(show 2 ≤ sizeLine by decide), fun p hp => ?_⟩
        exact hn1 rfl _ _ (same_upd hp) ⟨p, rfl, sqt_new⟩
      rw [List.filter_eq_self.mpr (fun _ _ => rfl)] at he12
      refine ⟨_, _, rfl, .inl ⟨sql hD12, fun ll hll => ?_⟩⟩
      have s13 := same_upd (o := .tup ws12) hll
      have hPts : PtsAt K (upd H12 ll (.tup ws12)) ll ns := ⟨ws12, sqt_new, he12.ext stb_RP s13.ext⟩
      have sI := (sH.trans s12).trans s13
      have sR := s12.trans s13
      generalize upd H12 ll (.tup ws12) = H13 at *
      walk_at "rd"
      dsimp only [List.set]
      refine ⟨_, _, rfl, hPts, hTab, fun H14 s14 => ⟨fun hW => absurd hW hnW, fun _ => ?_⟩⟩
      walk_at "rd"
      refine ⟨_, _, rfl, hPts.same stb_RP s14, hTab, fun H15 r5 c5 s15 => ⟨fun hW => absurd hW hnW, fun _ m hm hRe hr5 hc5 => ?_⟩⟩
      have sJ := (sI.trans s14).trans s15
      have hPts5 := hPts.same stb_RP (s14.trans s15)
      walk_at "rd"
      refine ⟨_, _, _, _, rfl, rfl, hr5, atI_nat (j := 0) rfl, ?_⟩
      walk_at "rd"
      refine ⟨_, _, _, _, rfl, rfl, hr5, atI_nat (j := 1) rfl, ?_⟩
      walk_at "rd"
      refine ⟨c5, ll, _, _, ns, rfl, hc5, fun H16 s16 => ?_, .inr ⟨hPts5, hTab, .inl ⟨rfl, m, rfl, hRe, hm⟩⟩⟩
      walk_at "rd"
      have sK := sJ.trans s16
      have hJa := hJ1.same sK
      refine ⟨j, 60, 20, rfl, hJa, by decide, by decide, by decide, fun Hd1 d1 bd1 hJd1 hd0 hd60 => ?_⟩
      walk_at "rd"
      refine ⟨⟨by decide, by decide, by decide⟩, ?_⟩
      walk_at "rd"
      refine ⟨j, 99, 21, rfl, hJd1, by decide, by decide, by decide, fun Hd2 d2 bd2 hJd2 hd20 hd99 => ?_⟩
      walk_at "rd"
      refine ⟨(show 2 ≤ sizeLine by decide), fun l hl => ?_⟩
      have hlj := hJd2.ne hl
      have sl1 := same_upd (o := .lst [.int d1, .int (1000000 + d2)]) hl
      walk_at "rd"
      refine ⟨j, l, d1, 1000000 + d2, 22, rfl, upd_same, hlj, hJd2.same sl1, by decide, fun Hf z bf hJf hz => ?_⟩
      obtain ⟨x, rfl, hx⟩ := far_ok hd0 hd60 hd20 hd99 hz
      have eX : Ext H16 Hf := ((bd1.ext hJa).trans (bd2.ext hJd1)).trans (sl1.ext.trans (bf.ext (hJd2.same sl1)))
      have bX : But j H1 Hf := ((sK.but.trans bd1).trans bd2).trans (sl1.but.trans bf)
      have hTf : SqT K Hf t (ns.map V.int) := eX.tup (sK.tup hT)
      have hRf : RowsAt K Hf rr ns := TupOf.ext stb_RT eX (hRows2.same stb_RT ((sR.trans (s14.trans s15)).trans s16))
      walk_at "rd1"
      dsimp only [List.set]
      walk_at "rd"
      refine ⟨_, _, x, rfl, hRf, ⟨hlen, hTab.v, hx, hno⟩, fun H20 p20 r20 m20 s20 hp20 h20 hd20' => ?_⟩
      refine ⟨p20, _, rfl, hp20, rfl, ?_⟩
      walk_at "rd"
      refine ⟨_, _, x, rfl, s20.tup hTf, hTab.ne, hTab.len, hTab.c, hx, fun H21 s21 => ?_⟩
      walk_at "rd"
      refine ⟨_, _, _, rfl, h20, hd20', ?_⟩
      walk_at "rd"
      have sL := s20.trans s21
      exact q _ ((b1.trans bX).trans sL.but)
    · obtain ⟨pr, tl, hno⟩ : ∃ pr tl, looseL ns = pr :: tl := by
        cases hl : looseL ns with
        | nil => exact absurd (loose_iff.mp hl) hnK
        | cons a b => exact ⟨a, b, rfl⟩
      walk_at "rd"
      refine ⟨_, _, rfl, s2.tup hT, hTab.ne, by omega, fun H3 s3 => ⟨fun hp => absurd (hp.symm.trans hno) (by simp), fun v p tl hp hv3 => ?_⟩⟩
      obtain ⟨rfl, rfl⟩ := List.cons.inj (hp.symm.trans hno)
      obtain ⟨pa, rfl, hpa⟩ := hv3
      have sA := s2.trans s3
      walk_at "rd"
      refine ⟨_, _, rfl, sA.tup hT, hTab.ne, by omega, fun H4 r c s4 => ⟨fun hp => absurd (hp.symm.trans hno) (by simp), fun v p tl hp hr4 hc4 hv4 => ?_⟩⟩
      obtain ⟨rfl, rfl⟩ := List.cons.inj (hp.symm.trans hno)
      obtain ⟨sc, rfl, hs4⟩ := hv4
      refine ⟨r, _, rfl, hr4, rfl, ?_⟩
      have sB := sA.trans s4
      walk_at "rd"
      refine ⟨(show 2 ≤ sizeLine by decide), fun p5 hp5 => ?_⟩
      have s5 := same_upd (o := .tup [.str "loose", .ref t]) hp5
      have sC := sB.trans s5
      refine ⟨claimD "loose" ns, claimD "loose" ns, .tup (s5.tup hc4) (.cons (.str _) (.cons (.tup (sC.tup hT) (dpa_ints ns)) .nil)), .tup sqt_new (.cons (.str _) (.cons (.tup (sC.tup hT) (dpa_ints ns)) .nil)), shaped_claim _ _ (by decide +kernel), shaped_claim _ _ (by decide +kernel), ?_⟩
      rw [eqv_claim]
      walk_at "rd"
      refine ⟨c, t, _, .ref sc, ns, rfl, s5.tup hc4, fun H6 s6 => ?_, .inl ⟨sC.tup hT, hTab.ne, by omega, .inr ⟨rfl, sc, p, rfl, sqt (s5 _ _ hs4), by rw [hno]; exact List.mem_cons_self⟩⟩⟩
      walk_at "rd"
      have sD := sC.trans s6
      have sE := sD
      refine ⟨_, _, rfl, .inr (sE.tup hT), ?_⟩
      rw [List.length_map]
      walk_at "rd"
      refine ⟨by omega, by omega, fun D1 hD1 => ?_⟩
      refine lc_data (RT K) stb_RT (rowsL ns) (fun _ => true) (walk_range (lo := 0) (n := ((ns.length : Nat) : Int).toNat)) (by rw [rowsL_len]; omega) (sz1000 (by omega)) hD1 (fun _ _ => trivial) (fun i b x H5 H6 N1 N0 hb s5 hy hn1 hn0 => ?_) (fun H8 ws8 s8 hD8 he8 => ?_)
      · obtain ⟨rfl, hyy⟩ := hy
        have hyy : x = V.int (i : Int) := hyy.trans (zi i)
        subst hyy
        obtain ⟨u, hu, rfl⟩ := rowsL_of hb
        walk_at "rd"
        refine ⟨_, _, _, _, rfl, rfl, (sE.trans s5).tup hT, atI_nat (j := i) (v := .int u) (by rw [List.getElem?_map, hu]; rfl), ?_⟩
        walk_at "rd"
        refine ⟨(show 3 ≤ sizeLine by decide), fun p hp => ?_⟩
        exact hn1 rfl _ _ (same_upd hp) ⟨p, rfl, sqt_new⟩
      rw [List.filter_eq_self.mpr (fun _ _ => rfl)] at he8
      refine ⟨_, _, rfl, .inl ⟨sql hD8, fun rr hrr => ?_⟩⟩
      have s9 := same_upd (o := .tup ws8) hrr
      have hRows : RowsAt K (upd H8 rr (.tup ws8)) rr ns := ⟨ws8, sqt_new, he8.ext stb_RT s9.ext⟩
      have sF := (sE.trans s8).trans s9
      generalize upd H8 rr (.tup ws8) = H9 at *
      walk_at "rd"
      refine ⟨_, _, rfl, hRows, by omega, fun H10 s10 => ?_⟩
      rw [hno]
      walk_at "rd"
      have sG := sF.trans s10
      dsimp only [List.set]
      refine ⟨_, _, rfl, hRows.same stb_RT s10, by omega, fun H11 p11 s11 hq11 => ?_⟩
      obtain ⟨wq, hwq, heq⟩ := hq11
      rw [hno] at heq
      obtain ⟨v0, hv0, q0, rfl, hq0⟩ := heq.at (i := 0) rfl
      refine ⟨_, _, _, _, rfl, rfl, hwq, atI_nat (j := 0) hv0, ?_⟩
      walk_at "rd"
      have hpb := (((((((s4.trans s5).trans s6).trans s8).trans s9).trans s10).trans s11)) _ _ hpa
      refine ⟨.tuple (iD [p.1, p.2]), .tuple (iD [p.1, p.2]), .tup (sqt hq0) (dpa_ints [p.1, p.2]), .tup (sqt hpb) (dpa_ints [p.1, p.2]), shaped_tup _, shaped_tup _, ?_⟩
      rw [eqv_ints]
      walk_at "rd"
      have sH := sG.trans s11
      have hRows2 := hRows.same stb_RT (s10.trans s11)
      refine ⟨_, _, rfl, .inr (sH.tup hT), ?_⟩
      rw [List.length_map]
      walk_at "rd"
      refine ⟨by omega, by omega, fun D2 hD2 => ?_⟩
      refine lc_data (RP K) stb_RP (ptsL ns) (fun _ => true) (walk_range (lo := 0) (n := ((ns.length : Nat) : Int).toNat)) (by rw [ptsL_len]; omega) (sz1000 (by omega)) hD2 (fun _ _ => trivial) (fun i b x H5 H6 N1 N0 hb s5 hy hn1 hn0 => ?_) (fun H12 ws12 s12 hD12 he12 => ?_)
      · obtain ⟨rfl, hyy⟩ := hy
        have hyy : x = V.int (i : Int) := hyy.trans (zi i)
        subst hyy
        obtain ⟨u, hu, rfl⟩ := ptsL_of hb
        walk_at "rd"
        refine ⟨_, _, _, _, rfl, rfl, (sH.trans s5).tup hT, atI_nat (j := i) (v := .int u) (by rw [List.getElem?_map, hu]; rfl), ?_⟩
        walk_at "rd"
        refine ⟨(show 2 ≤ sizeLine by decide), fun p hp => ?_⟩
        exact hn1 rfl _ _ (same_upd hp) ⟨p, rfl, sqt_new⟩
      rw [List.filter_eq_self.mpr (fun _ _ => rfl)] at he12
      refine ⟨_, _, rfl, .inl ⟨sql hD12, fun ll hll => ?_⟩⟩
      have s13 := same_upd (o := .tup ws12) hll
      have hPts : PtsAt K (upd H12 ll (.tup ws12)) ll ns := ⟨ws12, sqt_new, he12.ext stb_RP s13.ext⟩
      have sI := (sH.trans s12).trans s13
      have sR := s12.trans s13
      generalize upd H12 ll (.tup ws12) = H13 at *
      walk_at "rd"
      dsimp only [List.set]
      refine ⟨_, _, rfl, hPts, hTab, fun H14 s14 => ⟨fun hW => absurd hW hnW, fun _ => ?_⟩⟩
      walk_at "rd"
      refine ⟨_, _, rfl, hPts.same stb_RP s14, hTab, fun H15 r5 c5 s15 => ⟨fun hW => absurd hW hnW, fun _ m hm hRe hr5 hc5 => ?_⟩⟩
      have sJ := (sI.trans s14).trans s15
      have hPts5 := hPts.same stb_RP (s14.trans s15)
      walk_at "rd"
      refine ⟨_, _, _, _, rfl, rfl, hr5, atI_nat (j := 0) rfl, ?_⟩
      walk_at "rd"
      refine ⟨_, _, _, _, rfl, rfl, hr5, atI_nat (j := 1) rfl, ?_⟩
      walk_at "rd"
      refine ⟨c5, ll, _, _, ns, rfl, hc5, fun H16 s16 => ?_, .inr ⟨hPts5, hTab, .inl ⟨rfl, m, rfl, hRe, hm⟩⟩⟩
      walk_at "rd"
      have sK := sJ.trans s16
      have hJa := hJ1.same sK
      refine ⟨j, 60, 20, rfl, hJa, by decide, by decide, by decide, fun Hd1 d1 bd1 hJd1 hd0 hd60 => ?_⟩
      walk_at "rd"
      refine ⟨⟨by decide, by decide, by decide⟩, ?_⟩
      walk_at "rd"
      refine ⟨j, 99, 21, rfl, hJd1, by decide, by decide, by decide, fun Hd2 d2 bd2 hJd2 hd20 hd99 => ?_⟩
      walk_at "rd"
      refine ⟨(show 2 ≤ sizeLine by decide), fun l hl => ?_⟩
      have hlj := hJd2.ne hl
      have sl1 := same_upd (o := .lst [.int d1, .int (1000000 + d2)]) hl
      walk_at "rd"
      refine ⟨j, l, d1, 1000000 + d2, 22, rfl, upd_same, hlj, hJd2.same sl1, by decide, fun Hf z bf hJf hz => ?_⟩
      obtain ⟨x, rfl, hx⟩ := far_ok hd0 hd60 hd20 hd99 hz
      have eX : Ext H16 Hf := ((bd1.ext hJa).trans (bd2.ext hJd1)).trans (sl1.ext.trans (bf.ext (hJd2.same sl1)))
      have bX : But j H1 Hf := ((sK.but.trans bd1).trans bd2).trans (sl1.but.trans bf)
      have hTf : SqT K Hf t (ns.map V.int) := eX.tup (sK.tup hT)
      have hRf : RowsAt K Hf rr ns := TupOf.ext stb_RT eX (hRows2.same stb_RT ((sR.trans (s14.trans s15)).trans s16))
      walk_at "rd1"
      dsimp only [List.set]
      walk_at "rd"
      exact q _ (b1.trans bX)
end
end K79
/-! The law. -/
namespace K79
open PySem PySem.Spec PyProof.Rows L2
local macro_rules | `(tactic| walk_at "rd1") => `(tactic| first | refine ⟨_, rfl, ?_⟩ | refine ⟨_, _, rfl, rfl, ?_⟩ | refine ⟨_, _, rfl, ?_⟩ | refine ⟨rfl, ?_⟩)
local macro_rules | `(tactic| walk_at "rd") => `(tactic| repeat walk_at "rd1")
section
variable {P : Program} {w : World} {K : PySem.W.Frag} {mg : Str → Option Value} {base : Heap} {f : Addr} {fd : FuncData}
def spLaw (K : PySem.W.Frag) : Sp := fun vs H Q _ => ∃ (a : Addr) (ns : List Int), vs = [.ref a] ∧ SqL K H a (ns.map V.int) ∧ ns.length ≤ 63 ∧ ∀ H', Q (.bl true) H'
theorem sc_law : FnScope ["_law_cells", "_law_k"] ["_law_cells"] (defScope (topS 95)) := ⟨rfl, rfl, rfl, by decide +kernel, rfl, by decide +kernel, by decide +kernel⟩
theorem few (n : Nat) : ∃ e : Nat, (if (if (3 : Int) < (n : Int) then (3 : Int) else (n : Int)) > 2 then (if (3 : Int) < (n : Int) then (3 : Int) else (n : Int)) else 2) = (e : Int) ∧ e ≤ 3 := by
  refine ⟨(if (if (3 : Int) < (n : Int) then (3 : Int) else (n : Int)) > 2 then (if (3 : Int) < (n : Int) then (3 : Int) else (n : Int)) else 2).toNat, ?_, ?_⟩
  · split <;> split <;> omega
  · split <;> split <;> omega
theorem ok_law (F : FnP K "law" (topS 95) f fd) (M : Md mg) (c__law_right : Cal P w K mg base 7 "_law_right" (spRight K)) (c__law_jar : Cal P w K mg base 2 "_law_jar" (spJar K)) : FnOk P w K mg base CX0 8 f fd ["_law_cells"] (spLaw K) := by
  refine F.ok sc_law (fun vs H Q E h => ?_) (fun cdv A outer s H vs Q E hr h => ?_)
  · obtain ⟨a, _, rfl, _⟩ := h
    rfl
  · obtain ⟨a, ns, rfl, hL, hlen, q⟩ := h
    have nd := sc_law.nd
    refine ⟨_, PSs.nox (pss_one (ps_ret (pe_callB (cr_all rfl) (by rfl) M.all (by decide +kernel) (pa_cons (pe_lc (own := [("_law_k", 1)]) (g := gName 1) rfl nd (pi_range1 (by rfl) M.range (pa_cons (pe_callB (call_max2 rfl) (by rfl) M.max (by decide +kernel) (pa_cons pe_int (pa_cons (pe_callB (call_min2 rfl) (by rfl) M.min (by decide +kernel) (pa_cons (pe_callB call_len_seq (by rfl) M.len (by decide +kernel) (pa_cons (pv 0) pa_nil)) (pa_cons pe_int pa_nil))) pa_nil))) pa_nil)) (blkOk_by (own := [("_law_k", 1)]) (N := ["_law_cells", "_law_k"]) (sc := defScope (topS 95)) (by decide +kernel)) (fun _ _ _ _ _ => (pg_name (i := 1) nd rfl (by first | exact Or.inl rfl | exact Or.inr rfl))) (fun _ _ _ _ _ => pts_nil) (fun _ _ _ _ _ => (pe_c c__law_right hr (by decide) (by rfl) (pa_cons (pe_c c__law_jar hr (by decide) (by rfl) (pa_cons (pv 0) (pa_cons (pv 1) pa_nil))) pa_nil)))) pa_nil)))), ?_⟩
    walk_at "rd"
    refine ⟨_, _, rfl, .inl hL, ?_⟩
    rw [List.length_map]
    walk_at "rd"
    obtain ⟨e, he, he3⟩ := few ns.length
    rw [he]
    refine ⟨by omega, by omega, fun D1 hD1 => ?_⟩
    refine lc_data RB stb_RB (List.replicate ((e : Nat) : Int).toNat true) (fun _ => true) (walk_range (lo := 0) (n := ((e : Nat) : Int).toNat)) (by rw [List.length_replicate]) (sz1000 (by omega)) hD1 (fun _ _ => trivial) (fun i b x H5 H6 N1 N0 hb s5 hy hn1 hn0 => ?_) (fun H5 vs5 s5 hD5 he5 => ?_)
    · obtain ⟨rfl, hyy⟩ := hy
      have hyy : x = V.int (i : Int) := hyy.trans (zi i)
      subst hyy
      have hi := (List.getElem?_eq_some_iff.mp hb).1
      rw [List.length_replicate] at hi
      have eb : b = true := List.eq_of_mem_replicate (List.mem_of_getElem? hb)
      subst eb
      walk_at "rd"
      refine ⟨a, ns, i, rfl, s5.seq hL, by omega, by omega, fun H1 j s1 hjn hJ => ?_⟩
      walk_at "rd"
      refine ⟨hJ, fun H2 b2 => ?_⟩
      exact hn1 rfl _ _ (fun b x hb => b2 b x (ne_of_none hb hjn) (s1 b x hb)) rfl
    · have ew := els_bools he5
      rw [List.filter_eq_self.mpr (fun _ _ => rfl)] at ew
      subst ew
      refine ⟨_, _, rfl, sql hD5, ?_⟩
      rw [all_true]
      exact q _
end
end K79
set_option maxHeartbeats 0
/-! The head: what the module holds, by names; the run of the top. -/
namespace K79
open PySem PySem.Spec PyProof.Rows L2
theorem facts {P : Program} {w : World} {K : PySem.W.Frag} {h : Heap} {mg : Str → Option Value} {f : Addr} (X : K.In h) (G : h.Ns mainGlobals mg) (hfa : mg ("law" : Str) = some (.ref f)) (c : He.SaysD fa fn K) :
    ∃ fd : FuncData, (∀ (s : Shared) (v : Value), BindsTo s fd ⟨[v], []⟩ [("_law_cells", v)]) ∧ ∀ base : Heap, K.In base → base.Ns mainGlobals mg → FnOk P w K mg base CX0 8 f fd ["_law_cells"] (spLaw K) := by
  have D_gcd : Df K mg "gcd" (topS 13) := let ⟨fd, F⟩ := c.def_ 0 (d := d_gcd) rfl; ⟨⟨_, fd, F, He.glo_ok X G (c.fact 0 (f := .glo "gcd") rfl)⟩⟩
  have D_lcm : Df K mg "lcm" (topS 14) := let ⟨fd, F⟩ := c.def_ 1 (d := d_lcm) rfl; ⟨⟨_, fd, F, He.glo_ok X G (c.fact 1 (f := .glo "lcm") rfl)⟩⟩
  have D_rest_by : Df K mg "rest_by" (topS 15) := let ⟨fd, F⟩ := c.def_ 2 (d := d_rest_by) rfl; ⟨⟨_, fd, F, He.glo_ok X G (c.fact 2 (f := .glo "rest_by") rfl)⟩⟩
  have D_agree : Df K mg "agree" (topS 16) := let ⟨fd, F⟩ := c.def_ 3 (d := d_agree) rfl; ⟨⟨_, fd, F, He.glo_ok X G (c.fact 3 (f := .glo "agree") rfl)⟩⟩
  have D_inverse : Df K mg "inverse" (topS 17) := let ⟨fd, F⟩ := c.def_ 4 (d := d_inverse) rfl; ⟨⟨_, fd, F, He.glo_ok X G (c.fact 4 (f := .glo "inverse") rfl)⟩⟩
  have D_met : Df K mg "met" (topS 18) := let ⟨fd, F⟩ := c.def_ 5 (d := d_met) rfl; ⟨⟨_, fd, F, He.glo_ok X G (c.fact 5 (f := .glo "met") rfl)⟩⟩
  have D_is_integer : Df K mg "is_integer" (topS 20) := let ⟨fd, F⟩ := c.def_ 6 (d := d_is_integer) rfl; ⟨⟨_, fd, F, He.glo_ok X G (c.fact 6 (f := .glo "is_integer") rfl)⟩⟩
  have D_is_base : Df K mg "is_base" (topS 21) := let ⟨fd, F⟩ := c.def_ 7 (d := d_is_base) rfl; ⟨⟨_, fd, F, He.glo_ok X G (c.fact 7 (f := .glo "is_base") rfl)⟩⟩
  have D_are_integers : Df K mg "are_integers" (topS 22) := let ⟨fd, F⟩ := c.def_ 8 (d := d_are_integers) rfl; ⟨⟨_, fd, F, He.glo_ok X G (c.fact 8 (f := .glo "are_integers") rfl)⟩⟩
  have D_check_integer : Df K mg "check_integer" (topS 23) := let ⟨fd, F⟩ := c.def_ 9 (d := d_check_integer) rfl; ⟨⟨_, fd, F, He.glo_ok X G (c.fact 9 (f := .glo "check_integer") rfl)⟩⟩
  have D_check_values : Df K mg "check_values" (topS 25) := let ⟨fd, F⟩ := c.def_ 10 (d := d_check_values) rfl; ⟨⟨_, fd, F, He.glo_ok X G (c.fact 10 (f := .glo "check_values") rfl)⟩⟩
  have D_all_steps : Df K mg "all_steps" (topS 26) := let ⟨fd, F⟩ := c.def_ 11 (d := d_all_steps) rfl; ⟨⟨_, fd, F, He.glo_ok X G (c.fact 11 (f := .glo "all_steps") rfl)⟩⟩
  have D_steps : Df K mg "steps" (topS 27) := let ⟨fd, F⟩ := c.def_ 12 (d := d_steps) rfl; ⟨⟨_, fd, F, He.glo_ok X G (c.fact 12 (f := .glo "steps") rfl)⟩⟩
  have D_are_kept : Df K mg "are_kept" (topS 28) := let ⟨fd, F⟩ := c.def_ 13 (d := d_are_kept) rfl; ⟨⟨_, fd, F, He.glo_ok X G (c.fact 13 (f := .glo "are_kept") rfl)⟩⟩
  have D_are_whole : Df K mg "are_whole" (topS 29) := let ⟨fd, F⟩ := c.def_ 14 (d := d_are_whole) rfl; ⟨⟨_, fd, F, He.glo_ok X G (c.fact 14 (f := .glo "are_whole") rfl)⟩⟩
  have D_sort_of : Df K mg "sort_of" (topS 30) := let ⟨fd, F⟩ := c.def_ 15 (d := d_sort_of) rfl; ⟨⟨_, fd, F, He.glo_ok X G (c.fact 15 (f := .glo "sort_of") rfl)⟩⟩
  have D_loose_pairs : Df K mg "loose_pairs" (topS 31) := let ⟨fd, F⟩ := c.def_ 16 (d := d_loose_pairs) rfl; ⟨⟨_, fd, F, He.glo_ok X G (c.fact 16 (f := .glo "loose_pairs") rfl)⟩⟩
  have D_first_loose : Df K mg "first_loose" (topS 32) := let ⟨fd, F⟩ := c.def_ 17 (d := d_first_loose) rfl; ⟨⟨_, fd, F, He.glo_ok X G (c.fact 17 (f := .glo "first_loose") rfl)⟩⟩
  have D_value_from : Df K mg "value_from" (topS 33) := let ⟨fd, F⟩ := c.def_ 18 (d := d_value_from) rfl; ⟨⟨_, fd, F, He.glo_ok X G (c.fact 18 (f := .glo "value_from") rfl)⟩⟩
  have D_is_fact : Df K mg "is_fact" (topS 35) := let ⟨fd, F⟩ := c.def_ 19 (d := d_is_fact) rfl; ⟨⟨_, fd, F, He.glo_ok X G (c.fact 19 (f := .glo "is_fact") rfl)⟩⟩
  have D_check_facts : Df K mg "check_facts" (topS 36) := let ⟨fd, F⟩ := c.def_ 20 (d := d_check_facts) rfl; ⟨⟨_, fd, F, He.glo_ok X G (c.fact 20 (f := .glo "check_facts") rfl)⟩⟩
  have D_do_quarrel : Df K mg "do_quarrel" (topS 37) := let ⟨fd, F⟩ := c.def_ 21 (d := d_do_quarrel) rfl; ⟨⟨_, fd, F, He.glo_ok X G (c.fact 21 (f := .glo "do_quarrel") rfl)⟩⟩
  have D_all_quarrels : Df K mg "all_quarrels" (topS 38) := let ⟨fd, F⟩ := c.def_ 22 (d := d_all_quarrels) rfl; ⟨⟨_, fd, F, He.glo_ok X G (c.fact 22 (f := .glo "all_quarrels") rfl)⟩⟩
  have D_quarrels : Df K mg "quarrels" (topS 39) := let ⟨fd, F⟩ := c.def_ 23 (d := d_quarrels) rfl; ⟨⟨_, fd, F, He.glo_ok X G (c.fact 23 (f := .glo "quarrels") rfl)⟩⟩
  have D_fits : Df K mg "fits" (topS 40) := let ⟨fd, F⟩ := c.def_ 24 (d := d_fits) rfl; ⟨⟨_, fd, F, He.glo_ok X G (c.fact 24 (f := .glo "fits") rfl)⟩⟩
  have D_check_machine : Df K mg "check_machine" (topS 41) := let ⟨fd, F⟩ := c.def_ 25 (d := d_check_machine) rfl; ⟨⟨_, fd, F, He.glo_ok X G (c.fact 25 (f := .glo "check_machine") rfl)⟩⟩
  have D_known_by : Df K mg "known_by" (topS 42) := let ⟨fd, F⟩ := c.def_ 26 (d := d_known_by) rfl; ⟨⟨_, fd, F, He.glo_ok X G (c.fact 26 (f := .glo "known_by") rfl)⟩⟩
  have D_known : Df K mg "known" (topS 43) := let ⟨fd, F⟩ := c.def_ 27 (d := d_known) rfl; ⟨⟨_, fd, F, He.glo_ok X G (c.fact 27 (f := .glo "known") rfl)⟩⟩
  have D_is_fraction : Df K mg "is_fraction" (topS 45) := let ⟨fd, F⟩ := c.def_ 28 (d := d_is_fraction) rfl; ⟨⟨_, fd, F, He.glo_ok X G (c.fact 28 (f := .glo "is_fraction") rfl)⟩⟩
  have D_check_factors : Df K mg "check_factors" (topS 46) := let ⟨fd, F⟩ := c.def_ 29 (d := d_check_factors) rfl; ⟨⟨_, fd, F, He.glo_ok X G (c.fact 29 (f := .glo "check_factors") rfl)⟩⟩
  have D_value_at : Df K mg "value_at" (topS 47) := let ⟨fd, F⟩ := c.def_ 30 (d := d_value_at) rfl; ⟨⟨_, fd, F, He.glo_ok X G (c.fact 30 (f := .glo "value_at") rfl)⟩⟩
  have D_value_of : Df K mg "value_of" (topS 48) := let ⟨fd, F⟩ := c.def_ 31 (d := d_value_of) rfl; ⟨⟨_, fd, F, He.glo_ok X G (c.fact 31 (f := .glo "value_of") rfl)⟩⟩
  have D_broken_pairs : Df K mg "broken_pairs" (topS 49) := let ⟨fd, F⟩ := c.def_ 32 (d := d_broken_pairs) rfl; ⟨⟨_, fd, F, He.glo_ok X G (c.fact 32 (f := .glo "broken_pairs") rfl)⟩⟩
  have D_keeps : Df K mg "keeps" (topS 50) := let ⟨fd, F⟩ := c.def_ 33 (d := d_keeps) rfl; ⟨⟨_, fd, F, He.glo_ok X G (c.fact 33 (f := .glo "keeps") rfl)⟩⟩
  have D_check_points : Df K mg "check_points" (topS 51) := let ⟨fd, F⟩ := c.def_ 34 (d := d_check_points) rfl; ⟨⟨_, fd, F, He.glo_ok X G (c.fact 34 (f := .glo "check_points") rfl)⟩⟩
  have D_whole_value : Df K mg "whole_value" (topS 52) := let ⟨fd, F⟩ := c.def_ 35 (d := d_whole_value) rfl; ⟨⟨_, fd, F, He.glo_ok X G (c.fact 35 (f := .glo "whole_value") rfl)⟩⟩
  have D_grown : Df K mg "grown" (topS 53) := let ⟨fd, F⟩ := c.def_ 36 (d := d_grown) rfl; ⟨⟨_, fd, F, He.glo_ok X G (c.fact 36 (f := .glo "grown") rfl)⟩⟩
  have D_stretched : Df K mg "stretched" (topS 54) := let ⟨fd, F⟩ := c.def_ 37 (d := d_stretched) rfl; ⟨⟨_, fd, F, He.glo_ok X G (c.fact 37 (f := .glo "stretched") rfl)⟩⟩
  have D_whole_through : Df K mg "whole_through" (topS 55) := let ⟨fd, F⟩ := c.def_ 38 (d := d_whole_through) rfl; ⟨⟨_, fd, F, He.glo_ok X G (c.fact 38 (f := .glo "whole_through") rfl)⟩⟩
  have D_trimmed : Df K mg "trimmed" (topS 56) := let ⟨fd, F⟩ := c.def_ 39 (d := d_trimmed) rfl; ⟨⟨_, fd, F, He.glo_ok X G (c.fact 39 (f := .glo "trimmed") rfl)⟩⟩
  have D_through : Df K mg "through" (topS 57) := let ⟨fd, F⟩ := c.def_ 40 (d := d_through) rfl; ⟨⟨_, fd, F, He.glo_ok X G (c.fact 40 (f := .glo "through") rfl)⟩⟩
  have D_certify_values : Df K mg "certify_values" (topS 59) := let ⟨fd, F⟩ := c.def_ 41 (d := d_certify_values) rfl; ⟨⟨_, fd, F, He.glo_ok X G (c.fact 41 (f := .glo "certify_values") rfl)⟩⟩
  have D_certify_points : Df K mg "certify_points" (topS 60) := let ⟨fd, F⟩ := c.def_ 42 (d := d_certify_points) rfl; ⟨⟨_, fd, F, He.glo_ok X G (c.fact 42 (f := .glo "certify_points") rfl)⟩⟩
  have D_divides : Df K mg "divides" (topS 66) := let ⟨fd, F⟩ := c.def_ 43 (d := d_divides) rfl; ⟨⟨_, fd, F, He.glo_ok X G (c.fact 43 (f := .glo "divides") rfl)⟩⟩
  have D_are_whole_numbers : Df K mg "are_whole_numbers" (topS 67) := let ⟨fd, F⟩ := c.def_ 44 (d := d_are_whole_numbers) rfl; ⟨⟨_, fd, F, He.glo_ok X G (c.fact 44 (f := .glo "are_whole_numbers") rfl)⟩⟩
  have D_are_values : Df K mg "are_values" (topS 69) := let ⟨fd, F⟩ := c.def_ 45 (d := d_are_values) rfl; ⟨⟨_, fd, F, He.glo_ok X G (c.fact 45 (f := .glo "are_values") rfl)⟩⟩
  have D_are_points : Df K mg "are_points" (topS 70) := let ⟨fd, F⟩ := c.def_ 46 (d := d_are_points) rfl; ⟨⟨_, fd, F, He.glo_ok X G (c.fact 46 (f := .glo "are_points") rfl)⟩⟩
  have D_is_pair_below : Df K mg "is_pair_below" (topS 71) := let ⟨fd, F⟩ := c.def_ 47 (d := d_is_pair_below) rfl; ⟨⟨_, fd, F, He.glo_ok X G (c.fact 47 (f := .glo "is_pair_below") rfl)⟩⟩
  have D_is_shown_of_values : Df K mg "is_shown_of_values" (topS 78) := let ⟨fd, F⟩ := c.def_ 48 (d := d_is_shown_of_values) rfl; ⟨⟨_, fd, F, He.glo_ok X G (c.fact 48 (f := .glo "is_shown_of_values") rfl)⟩⟩
  have D_value_there : Df K mg "value_there" (topS 79) := let ⟨fd, F⟩ := c.def_ 49 (d := d_value_there) rfl; ⟨⟨_, fd, F, He.glo_ok X G (c.fact 49 (f := .glo "value_there") rfl)⟩⟩
  have D_gap_and_product : Df K mg "gap_and_product" (topS 80) := let ⟨fd, F⟩ := c.def_ 50 (d := d_gap_and_product) rfl; ⟨⟨_, fd, F, He.glo_ok X G (c.fact 50 (f := .glo "gap_and_product") rfl)⟩⟩
  have D_is_stopped_at : Df K mg "is_stopped_at" (topS 81) := let ⟨fd, F⟩ := c.def_ 51 (d := d_is_stopped_at) rfl; ⟨⟨_, fd, F, He.glo_ok X G (c.fact 51 (f := .glo "is_stopped_at") rfl)⟩⟩
  have D_is_shown_of_points : Df K mg "is_shown_of_points" (topS 82) := let ⟨fd, F⟩ := c.def_ 52 (d := d_is_shown_of_points) rfl; ⟨⟨_, fd, F, He.glo_ok X G (c.fact 52 (f := .glo "is_shown_of_points") rfl)⟩⟩
  have D_accepts : Df K mg "accepts" (topS 83) := let ⟨fd, F⟩ := c.def_ 53 (d := d_accepts) rfl; ⟨⟨_, fd, F, He.glo_ok X G (c.fact 53 (f := .glo "accepts") rfl)⟩⟩
  have D__law_cell : Df K mg "_law_cell" (topS 85) := let ⟨fd, F⟩ := c.def_ 54 (d := d__law_cell) rfl; ⟨⟨_, fd, F, He.glo_ok X G (c.fact 54 (f := .glo "_law_cell") rfl)⟩⟩
  have D__law_jar : Df K mg "_law_jar" (topS 86) := let ⟨fd, F⟩ := c.def_ 55 (d := d__law_jar) rfl; ⟨⟨_, fd, F, He.glo_ok X G (c.fact 55 (f := .glo "_law_jar") rfl)⟩⟩
  have D__law_dig : Df K mg "_law_dig" (topS 87) := let ⟨fd, F⟩ := c.def_ 56 (d := d__law_dig) rfl; ⟨⟨_, fd, F, He.glo_ok X G (c.fact 56 (f := .glo "_law_dig") rfl)⟩⟩
  have D__law_take : Df K mg "_law_take" (topS 88) := let ⟨fd, F⟩ := c.def_ 57 (d := d__law_take) rfl; ⟨⟨_, fd, F, He.glo_ok X G (c.fact 57 (f := .glo "_law_take") rfl)⟩⟩
  have D__law_gcd : Df K mg "_law_gcd" (topS 89) := let ⟨fd, F⟩ := c.def_ 58 (d := d__law_gcd) rfl; ⟨⟨_, fd, F, He.glo_ok X G (c.fact 58 (f := .glo "_law_gcd") rfl)⟩⟩
  have D__law_lcm : Df K mg "_law_lcm" (topS 90) := let ⟨fd, F⟩ := c.def_ 59 (d := d__law_lcm) rfl; ⟨⟨_, fd, F, He.glo_ok X G (c.fact 59 (f := .glo "_law_lcm") rfl)⟩⟩
  have D__law_agree : Df K mg "_law_agree" (topS 91) := let ⟨fd, F⟩ := c.def_ 60 (d := d__law_agree) rfl; ⟨⟨_, fd, F, He.glo_ok X G (c.fact 60 (f := .glo "_law_agree") rfl)⟩⟩
  have D__law_run : Df K mg "_law_run" (topS 92) := let ⟨fd, F⟩ := c.def_ 61 (d := d__law_run) rfl; ⟨⟨_, fd, F, He.glo_ok X G (c.fact 61 (f := .glo "_law_run") rfl)⟩⟩
  have D__law_values : Df K mg "_law_values" (topS 93) := let ⟨fd, F⟩ := c.def_ 62 (d := d__law_values) rfl; ⟨⟨_, fd, F, He.glo_ok X G (c.fact 62 (f := .glo "_law_values") rfl)⟩⟩
  have D__law_right : Df K mg "_law_right" (topS 94) := let ⟨fd, F⟩ := c.def_ 63 (d := d__law_right) rfl; ⟨⟨_, fd, F, He.glo_ok X G (c.fact 63 (f := .glo "_law_right") rfl)⟩⟩
  have M : Md mg := ⟨He.free_ok X G (c.fact 65 (f := .free "abs") rfl),
    He.free_ok X G (c.fact 66 (f := .free "len") rfl),
    He.free_ok X G (c.fact 67 (f := .free "max") rfl),
    He.free_ok X G (c.fact 68 (f := .free "min") rfl),
    He.free_ok X G (c.fact 69 (f := .free "divmod") rfl),
    He.free_ok X G (c.fact 70 (f := .free "sorted") rfl),
    He.free_ok X G (c.fact 71 (f := .free "all") rfl),
    He.free_ok X G (c.fact 72 (f := .free "isinstance") rfl),
    He.free_ok X G (c.fact 73 (f := .free "int") rfl),
    He.free_ok X G (c.fact 74 (f := .free "bool") rfl),
    He.free_ok X G (c.fact 75 (f := .free "str") rfl),
    He.free_ok X G (c.fact 76 (f := .free "tuple") rfl),
    He.free_ok X G (c.fact 77 (f := .free "list") rfl),
    He.free_ok X G (c.fact 78 (f := .free "range") rfl),
    He.free_ok X G (c.fact 79 (f := .free "enumerate") rfl),
    He.free_ok X G (c.fact 80 (f := .free "zip") rfl),
    He.free_ok X G (c.fact 81 (f := .free "reversed") rfl),
    (let ⟨t, ht⟩ := He.int_ok X G (c.fact 82 (f := .int "MOST_FACTS" 40) rfl); ⟨_, ht, ⟨t, rfl⟩⟩),
    (let ⟨t, ht⟩ := He.int_ok X G (c.fact 83 (f := .int "MOST_PLACES" 40) rfl); ⟨_, ht, ⟨t, rfl⟩⟩),
    (let ⟨t, ht⟩ := He.int_ok X G (c.fact 84 (f := .int "MOST_DEGREE" 12) rfl); ⟨_, ht, ⟨t, rfl⟩⟩),
    (let ⟨t, ht⟩ := He.int_ok X G (c.fact 85 (f := .int "LONGEST_VALUES" 40) rfl); ⟨_, ht, ⟨t, rfl⟩⟩),
    (let ⟨t, ht⟩ := He.int_ok X G (c.fact 86 (f := .int "LONGEST_POINTS" 13) rfl); ⟨_, ht, ⟨t, rfl⟩⟩)⟩
  obtain ⟨fd, F⟩ := c.def_ 64 (d := d_law) rfl
  have e := hfa.symm.trans (He.glo_ok X G (c.fact 64 (f := .glo "law") rfl))
  cases e
  have b := FunD.bindsA (ps := ["_law_cells"]) F fun _ _ _ _ _ _ us hl => match us, hl with | [_], _ => rfl
  refine ⟨fd, fun s v => b s [v] rfl, fun base _ _ => ?_⟩
  have k_gcd := c_gcd (P := P) (w := w) (base := base) D_gcd M 
  have k_lcm := c_lcm (P := P) (w := w) (base := base) D_lcm M k_gcd
  have k_rest_by := c_rest_by (P := P) (w := w) (base := base) D_rest_by M 
  have k_agree := c_agree (P := P) (w := w) (base := base) D_agree M k_rest_by
  have k_is_integer := c_is_integer (P := P) (w := w) (base := base) D_is_integer M 
  have k_is_base := c_is_base (P := P) (w := w) (base := base) D_is_base M k_is_integer
  have k_check_integer := c_check_integer (P := P) (w := w) (base := base) D_check_integer M k_is_integer
  have k_are_integers := c_are_integers (P := P) (w := w) (base := base) D_are_integers M k_is_integer
  have k_inverse := c_inverse (P := P) (w := w) (base := base) D_inverse M 
  have k_met := c_met (P := P) (w := w) (base := base) D_met M k_gcd k_lcm k_inverse
  have k_check_values := c_check_values (P := P) (w := w) (base := base) D_check_values M k_is_integer
  have k_all_steps := c_all_steps (P := P) (w := w) (base := base) D_all_steps M 
  have k_steps := c_steps (P := P) (w := w) (base := base) D_steps M k_check_values k_all_steps
  have k_are_kept := c_are_kept (P := P) (w := w) (base := base) D_are_kept M k_lcm
  have k_are_whole := c_are_whole (P := P) (w := w) (base := base) D_are_whole M 
  have k_sort_of := c_sort_of (P := P) (w := w) (base := base) D_sort_of M k_check_values k_all_steps k_are_kept k_are_whole
  have k_value_from := c_value_from (P := P) (w := w) (base := base) D_value_from M k_check_values k_is_base k_all_steps
  have k_loose_pairs := c_loose_pairs (P := P) (w := w) (base := base) D_loose_pairs M 
  have k_first_loose := c_first_loose (P := P) (w := w) (base := base) D_first_loose M k_check_values k_loose_pairs
  have k_certify_values := c_certify_values (P := P) (w := w) (base := base) D_certify_values M k_check_values k_loose_pairs k_all_steps
  have k_is_fact := c_is_fact (P := P) (w := w) (base := base) D_is_fact M k_are_integers
  have k_check_facts := c_check_facts (P := P) (w := w) (base := base) D_check_facts M k_is_fact
  have k_do_quarrel := c_do_quarrel (P := P) (w := w) (base := base) D_do_quarrel M k_agree k_gcd
  have k_all_quarrels := c_all_quarrels (P := P) (w := w) (base := base) D_all_quarrels M k_do_quarrel
  have k_quarrels := c_quarrels (P := P) (w := w) (base := base) D_quarrels M k_check_facts k_all_quarrels
  have k_fits := c_fits (P := P) (w := w) (base := base) D_fits M k_check_facts k_all_quarrels
  have k_check_machine := c_check_machine (P := P) (w := w) (base := base) D_check_machine M k_all_quarrels
  have k_known_by := c_known_by (P := P) (w := w) (base := base) D_known_by M k_gcd k_met k_rest_by
  have k_known := c_known (P := P) (w := w) (base := base) D_known M k_check_facts k_check_integer k_check_machine k_known_by
  have k_is_fraction := c_is_fraction (P := P) (w := w) (base := base) D_is_fraction M k_are_integers k_gcd
  have k_check_factors := c_check_factors (P := P) (w := w) (base := base) D_check_factors M k_is_fraction
  have k_value_at := c_value_at (P := P) (w := w) (base := base) D_value_at M k_gcd
  have k_value_of := c_value_of (P := P) (w := w) (base := base) D_value_of M k_check_factors k_check_integer k_value_at
  have k_broken_pairs := c_broken_pairs (P := P) (w := w) (base := base) D_broken_pairs M k_value_at k_agree
  have k_keeps := c_keeps (P := P) (w := w) (base := base) D_keeps M k_check_factors k_broken_pairs
  have k_check_points := c_check_points (P := P) (w := w) (base := base) D_check_points M k_are_integers
  have k_whole_value := c_whole_value (P := P) (w := w) (base := base) D_whole_value M 
  have k_grown := c_grown (P := P) (w := w) (base := base) D_grown M 
  have k_stretched := c_stretched (P := P) (w := w) (base := base) D_stretched M 
  have k_whole_through := c_whole_through (P := P) (w := w) (base := base) D_whole_through M k_whole_value k_grown k_stretched
  have k_trimmed := c_trimmed (P := P) (w := w) (base := base) D_trimmed M 
  have k_through := c_through (P := P) (w := w) (base := base) D_through M k_check_points k_whole_through k_trimmed
  have k_certify_points := c_certify_points (P := P) (w := w) (base := base) D_certify_points M k_check_points k_whole_through k_trimmed
  have k_divides := c_divides (P := P) (w := w) (base := base) D_divides M 
  have k_are_whole_numbers := c_are_whole_numbers (P := P) (w := w) (base := base) D_are_whole_numbers M k_is_integer
  have k_are_values := c_are_values (P := P) (w := w) (base := base) D_are_values M k_are_whole_numbers
  have k_are_points := c_are_points (P := P) (w := w) (base := base) D_are_points M k_are_whole_numbers
  have k_is_pair_below := c_is_pair_below (P := P) (w := w) (base := base) D_is_pair_below M k_are_whole_numbers
  have k_is_shown_of_values := c_is_shown_of_values (P := P) (w := w) (base := base) D_is_shown_of_values M k_are_whole_numbers k_is_pair_below k_divides
  have k_value_there := c_value_there (P := P) (w := w) (base := base) D_value_there M 
  have k_gap_and_product := c_gap_and_product (P := P) (w := w) (base := base) D_gap_and_product M 
  have k_is_stopped_at := c_is_stopped_at (P := P) (w := w) (base := base) D_is_stopped_at M k_gap_and_product k_divides
  have k_is_shown_of_points := c_is_shown_of_points (P := P) (w := w) (base := base) D_is_shown_of_points M k_are_whole_numbers k_is_integer k_is_stopped_at k_value_there
  have k_accepts := c_accepts (P := P) (w := w) (base := base) D_accepts M k_are_values k_is_shown_of_values k_are_points k_is_shown_of_points
  have k__law_cell := c__law_cell (P := P) (w := w) (base := base) D__law_cell M 
  have k__law_jar := c__law_jar (P := P) (w := w) (base := base) D__law_jar M k__law_cell
  have k__law_dig := c__law_dig (P := P) (w := w) (base := base) D__law_dig M 
  have k__law_gcd := c__law_gcd (P := P) (w := w) (base := base) D__law_gcd M 
  have k__law_lcm := c__law_lcm (P := P) (w := w) (base := base) D__law_lcm M k__law_gcd
  have k__law_agree := c__law_agree (P := P) (w := w) (base := base) D__law_agree M 
  have k__law_take := c__law_take (P := P) (w := w) (base := base) D__law_take M k__law_dig
  have k__law_run := c__law_run (P := P) (w := w) (base := base) D__law_run M 
  have k__law_values := c__law_values (P := P) (w := w) (base := base) D__law_values M k__law_dig k__law_lcm k__law_run
  have k__law_right := c__law_right (P := P) (w := w) (base := base) D__law_right M k__law_values k_certify_values k__law_take k_sort_of k_first_loose k_through k_certify_points k_known k_accepts k_fits k__law_dig k__law_agree k_steps k_value_from k_keeps k_value_of k_quarrels
  exact ok_law F M k__law_right k__law_jar
end K79
open PySem PySem.W PySem.Calls PyProof.Rows
theorem PySem.Challenge.cw_keptrests_k79_whole_machines_from_end_to_holds : PySem.Challenge.rw_keptrests_k79_whole_machines_from_end_to.Holds := by
  w_on; o_law
  refine HandSHeadRun.head_any (r := OpenLaw.row PySem.Challenge.rw_keptrests_k79_whole_machines_from_end_to) (q := view (OpenLaw.row PySem.Challenge.rw_keptrests_k79_whole_machines_from_end_to).prog [95]) (H := K79.hk) (ob := K79.ob) (M := 20000) (loose := K79.loose) (d := HandSHeadRun.topDef (OpenLaw.row PySem.Challenge.rw_keptrests_k79_whole_machines_from_end_to).prog 95) (kwd := []) K79.ob_eq
    (by kernel_rfl) (fun s => by kernel_rfl) K79.run (by kernel_rfl) (by kernel_rfl) (by kernel_rfl) (by rfl) (by first | assumption | decide +kernel) (by decide +kernel) ⟨rfl, rfl, rfl, rfl, rfl, by decide +kernel⟩ ?hw ?hc
  case hw => w_witness2
  case hc =>
    refine L2.walk_ofE (l := PySem.Challenge.rw_keptrests_k79_whole_machines_from_end_to) (n := 63) (k := 8) (x := "_law_cells") (CX := L2.CX0) rfl (by decide) (by kernel_rfl) ⟨rfl, by decide, by decide⟩ ?F (fun _ _ _ _ z => z)
    intro w mg fa h Y G hmg0
    obtain ⟨K, KX, c⟩ := Y
    have hmg : mg ("law" : PySem.Str) = some (.ref fa) := by
      have e : (HandSHeadRun.topDef (OpenLaw.row PySem.Challenge.rw_keptrests_k79_whole_machines_from_end_to).prog 95).name = ("law" : PySem.Str) := by kernel_rfl
      rw [← e]
      exact hmg0
    obtain ⟨fd, hb, hF⟩ := K79.facts (P := (PySem.Challenge.rw_keptrests_k79_whole_machines_from_end_to).prog) (w := w) KX G hmg c
    exact ⟨K, fd, K79.spLaw K, KX, hb, fun H a ns hl _ hS => ⟨a, ns, rfl, hS, hl, fun _ => rfl⟩, hF⟩
