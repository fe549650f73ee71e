import PyProof.Rows.All
import Wide.All
import OpenK.AllK
import Wide.FinOn
import HandS.ForMost
import HandS.Zip
import HandS.Sort
import KE.GoesEnum
import KE.GoesZip
import HandS.TupAny
import HandS.Codes
import HandS.Defaults
import HandS.DictComp
import HandS.Star
import HandS.Property
import HandS.MakeKwOnly
import HandS.IsInst
import HandS.TupSets
import HandS.SortKw
import HandS.IterVal
import HandS.ListItems
import HandS.Deep
import KE.BitLaws
import KE.KeyNested
import HandS.Dict
import PyProof.Rows.TupTab
import KE.DatumOrd
import KE.SortData
import KE.KDictZip
import HandS.Head0
import HandS.Head1
import HandS.Head2
import HandS.HeadEnd
import HandS.HeadHook1
import HandS.HeadHook2
import PySem.Challenge.RW_signoff_k69_whole_schedules_are_clean
set_option Elab.async false
set_option linter.all false
set_option maxRecDepth 100000
set_option maxHeartbeats 0
/-! Head: the top run once, the facts by names. -/
namespace Sg
open PySem PySem.Spec PyProof.Rows L2
def top (i : Nat) : Stmt := PySem.Challenge.pw_signoff_k69_whole_schedules_are_clean.main.body.getD i (.Pass ⟨0, 0, 0, 0⟩)

def hdF0 : List He.DefD := [
  ⟨("bits_at", none), "bits_at", "bits_at", defArgs (top 10), defBody (top 10), defScope (top 10), [], []⟩,
  ⟨("look_up", none), "look_up", "look_up", defArgs (top 11), defBody (top 11), defScope (top 11), [], []⟩,
  ⟨("agrees", none), "agrees", "agrees", defArgs (top 12), defBody (top 12), defScope (top 12), [], []⟩,
  ⟨("forced", none), "forced", "forced", defArgs (top 13), defBody (top 13), defScope (top 13), [], []⟩,
  ⟨("sources", none), "sources", "sources", defArgs (top 15), defBody (top 15), defScope (top 15), [], []⟩,
  ⟨("all_nets", none), "all_nets", "all_nets", defArgs (top 16), defBody (top 16), defScope (top 16), [], []⟩,
  ⟨("check_net", none), "check_net", "check_net", defArgs (top 17), defBody (top 17), defScope (top 17), [], []⟩,
  ⟨("drivers", none), "drivers", "drivers", defArgs (top 18), defBody (top 18), defScope (top 18), [], []⟩,
  ⟨("gate_order", none), "gate_order", "gate_order", defArgs (top 19), defBody (top 19), defScope (top 19), [], []⟩,
  ⟨("settle", none), "settle", "settle", defArgs (top 22), defBody (top 22), defScope (top 22), [], []⟩,
  ⟨("start_state", none), "start_state", "start_state", defArgs (top 23), defBody (top 23), defScope (top 23), [], []⟩,
  ⟨("in_window", none), "in_window", "in_window", defArgs (top 25), defBody (top 25), defScope (top 25), [], []⟩,
  ⟨("check_delays", none), "check_delays", "check_delays", defArgs (top 27), defBody (top 27), defScope (top 27), [], []⟩,
  ⟨("Tracker", some "__init__"), "__init__", "Tracker.__init__", defArgs (inClass (top 28) 0), defBody (inClass (top 28) 0), defScope (inClass (top 28) 0), [], []⟩,
  ⟨("Tracker", some "value"), "value", "Tracker.value", defArgs (inClass (top 28) 1), defBody (inClass (top 28) 1), defScope (inClass (top 28) 1), [], []⟩,
  ⟨("Settled", some "__init__"), "__init__", "Settled.__init__", defArgs (inClass (top 30) 0), defBody (inClass (top 30) 0), defScope (inClass (top 30) 0), [], []⟩,
  ⟨("Settled", some "_vectors"), "_vectors", "Settled._vectors", defArgs (inClass (top 30) 2), defBody (inClass (top 30) 2), defScope (inClass (top 30) 2), [], []⟩,
  ⟨("Settled", some "settled_value"), "settled_value", "Settled.settled_value", defArgs (inClass (top 30) 3), defBody (inClass (top 30) 3), defScope (inClass (top 30) 3), [], []⟩,
  ⟨("Settled", some "fits"), "fits", "Settled.fits", defArgs (inClass (top 30) 4), defBody (inClass (top 30) 4), defScope (inClass (top 30) 4), [], []⟩,
  ⟨("Settled", some "marks"), "marks", "Settled.marks", defArgs (inClass (top 30) 5), defBody (inClass (top 30) 5), defScope (inClass (top 30) 5), [], []⟩]
def hdF1 : List He.DefD := [
  ⟨("Settled", some "_loose_vectors"), "_loose_vectors", "Settled._loose_vectors", defArgs (inClass (top 30) 7), defBody (inClass (top 30) 7), defScope (inClass (top 30) 7), [], []⟩,
  ⟨("Settled", some "loose_vector"), "loose_vector", "Settled.loose_vector", defArgs (inClass (top 30) 9), defBody (inClass (top 30) 9), defScope (inClass (top 30) 9), [], []⟩,
  ⟨("check_holds", none), "check_holds", "check_holds", defArgs (top 32), defBody (top 32), defScope (top 32), [], []⟩,
  ⟨("check_pairs", none), "check_pairs", "check_pairs", defArgs (top 33), defBody (top 33), defScope (top 33), [], []⟩,
  ⟨("Clocked", some "__init__"), "__init__", "Clocked.__init__", defArgs (inClass (top 34) 0), defBody (inClass (top 34) 0), defScope (inClass (top 34) 0), [], []⟩,
  ⟨("Clocked", some "is_clean"), "is_clean", "Clocked.is_clean", defArgs (inClass (top 34) 2), defBody (inClass (top 34) 2), defScope (inClass (top 34) 2), [], []⟩,
  ⟨("Clocked", some "circuit"), "circuit", "Clocked.circuit", defArgs (inClass (top 34) 3), defBody (inClass (top 34) 3), defScope (inClass (top 34) 3), [], []⟩,
  ⟨("Clocked", some "holds"), "holds", "Clocked.holds", defArgs (inClass (top 34) 4), defBody (inClass (top 34) 4), defScope (inClass (top 34) 4), [], []⟩,
  ⟨("Clocked", some "windows"), "windows", "Clocked.windows", defArgs (inClass (top 34) 5), defBody (inClass (top 34) 5), defScope (inClass (top 34) 5), [], []⟩,
  ⟨("Clocked", some "settled"), "settled", "Clocked.settled", defArgs (inClass (top 34) 6), defBody (inClass (top 34) 6), defScope (inClass (top 34) 6), [], []⟩,
  ⟨("Clocked", some "_row"), "_row", "Clocked._row", defArgs (inClass (top 34) 7), defBody (inClass (top 34) 7), defScope (inClass (top 34) 7), [], []⟩,
  ⟨("Clocked", some "needed"), "needed", "Clocked.needed", defArgs (inClass (top 34) 8), defBody (inClass (top 34) 8), defScope (inClass (top 34) 8), [], []⟩,
  ⟨("Clocked", some "violation"), "violation", "Clocked.violation", defArgs (inClass (top 34) 9), defBody (inClass (top 34) 9), defScope (inClass (top 34) 9), [], []⟩,
  ⟨("Clocked", some "violations"), "violations", "Clocked.violations", defArgs (inClass (top 34) 10), defBody (inClass (top 34) 10), defScope (inClass (top 34) 10), [], []⟩,
  ⟨("shifted", none), "shifted", "shifted", defArgs (top 37), defBody (top 37), defScope (top 37), [], []⟩,
  ⟨("longest_sums", none), "longest_sums", "longest_sums", defArgs (top 38), defBody (top 38), defScope (top 38), [], []⟩,
  ⟨("constraints", none), "constraints", "constraints", defArgs (top 39), defBody (top 39), defScope (top 39), [], []⟩,
  ⟨("as_edge", none), "as_edge", "as_edge", defArgs (top 40), defBody (top 40), defScope (top 40), [], []⟩,
  ⟨("relaxed", none), "relaxed", "relaxed", defArgs (top 41), defBody (top 41), defScope (top 41), [], []⟩,
  ⟨("find_shifts", none), "find_shifts", "find_shifts", defArgs (top 42), defBody (top 42), defScope (top 42), [], []⟩]
def hdF2 : List He.DefD := [
  ⟨("least_period", none), "least_period", "least_period", defArgs (top 43), defBody (top 43), defScope (top 43), [], []⟩,
  ⟨("check_lists", none), "check_lists", "check_lists", defArgs (top 45), defBody (top 45), defScope (top 45), [], []⟩,
  ⟨("ClockedRun", some "__init__"), "__init__", "ClockedRun.__init__", defArgs (inClass (top 46) 0), defBody (inClass (top 46) 0), defScope (inClass (top 46) 0), [], []⟩,
  ⟨("ClockedRun", some "_play"), "_play", "ClockedRun._play", defArgs (inClass (top 46) 1), defBody (inClass (top 46) 1), defScope (inClass (top 46) 1), [], []⟩,
  ⟨("ClockedRun", some "edge_time"), "edge_time", "ClockedRun.edge_time", defArgs (inClass (top 46) 2), defBody (inClass (top 46) 2), defScope (inClass (top 46) 2), [], []⟩,
  ⟨("ClockedRun", some "source_value"), "source_value", "ClockedRun.source_value", defArgs (inClass (top 46) 3), defBody (inClass (top 46) 3), defScope (inClass (top 46) 3), [], []⟩,
  ⟨("ClockedRun", some "_input_value"), "_input_value", "ClockedRun._input_value", defArgs (inClass (top 46) 4), defBody (inClass (top 46) 4), defScope (inClass (top 46) 4), [], []⟩,
  ⟨("ClockedRun", some "_output_value"), "_output_value", "ClockedRun._output_value", defArgs (inClass (top 46) 5), defBody (inClass (top 46) 5), defScope (inClass (top 46) 5), [], []⟩,
  ⟨("ClockedRun", some "state"), "state", "ClockedRun.state", defArgs (inClass (top 46) 6), defBody (inClass (top 46) 6), defScope (inClass (top 46) 6), [], []⟩,
  ⟨("_law_same", none), "_law_same", "_law_same", defArgs (top 48), defBody (top 48), defScope (top 48), [], []⟩,
  ⟨("_law_pool", none), "_law_pool", "_law_pool", defArgs (top 49), defBody (top 49), defScope (top 49), [], []⟩,
  ⟨("_law_spread", none), "_law_spread", "_law_spread", defArgs (top 50), defBody (top 50), defScope (top 50), [], []⟩,
  ⟨("_law_draw", none), "_law_draw", "_law_draw", defArgs (top 51), defBody (top 51), defScope (top 51), [], []⟩,
  ⟨("_law_names", none), "_law_names", "_law_names", defArgs (top 52), defBody (top 52), defScope (top 52), [], []⟩,
  ⟨("_law_span", none), "_law_span", "_law_span", defArgs (top 53), defBody (top 53), defScope (top 53), [], []⟩,
  ⟨("_law_gate", none), "_law_gate", "_law_gate", defArgs (top 54), defBody (top 54), defScope (top 54), [], []⟩,
  ⟨("_law_times", none), "_law_times", "_law_times", defArgs (top 55), defBody (top 55), defScope (top 55), [], []⟩,
  ⟨("_law_circuit", none), "_law_circuit", "_law_circuit", defArgs (top 56), defBody (top 56), defScope (top 56), [], []⟩,
  ⟨("_law_sources", none), "_law_sources", "_law_sources", defArgs (top 57), defBody (top 57), defScope (top 57), [], []⟩,
  ⟨("_law_sorted_gates", none), "_law_sorted_gates", "_law_sorted_gates", defArgs (top 59), defBody (top 59), defScope (top 59), [], []⟩]
def hdF3 : List He.DefD := [
  ⟨("_law_settle", none), "_law_settle", "_law_settle", defArgs (top 60), defBody (top 60), defScope (top 60), [], []⟩,
  ⟨("_law_vector", none), "_law_vector", "_law_vector", defArgs (top 61), defBody (top 61), defScope (top 61), [], []⟩,
  ⟨("_law_delays", none), "_law_delays", "_law_delays", defArgs (top 65), defBody (top 65), defScope (top 65), [], []⟩,
  ⟨("_law_clock", none), "_law_clock", "_law_clock", defArgs (top 71), defBody (top 71), defScope (top 71), [], []⟩,
  ⟨("_law_windows", none), "_law_windows", "_law_windows", defArgs (top 72), defBody (top 72), defScope (top 72), [], []⟩,
  ⟨("_law_bools", none), "_law_bools", "_law_bools", defArgs (top 75), defBody (top 75), defScope (top 75), [], []⟩,
  ⟨("_law_choices", none), "_law_choices", "_law_choices", defArgs (top 76), defBody (top 76), defScope (top 76), [], []⟩,
  ⟨("_law_trace", none), "_law_trace", "_law_trace", defArgs (top 77), defBody (top 77), defScope (top 77), [], []⟩,
  ⟨("_law_sums", none), "_law_sums", "_law_sums", defArgs (top 78), defBody (top 78), defScope (top 78), [], []⟩,
  ⟨("_law_constraints", none), "_law_constraints", "_law_constraints", defArgs (top 79), defBody (top 79), defScope (top 79), [], []⟩,
  ⟨("_law_sides", none), "_law_sides", "_law_sides", defArgs (top 80), defBody (top 80), defScope (top 80), [], []⟩,
  ⟨("_law_broken", none), "_law_broken", "_law_broken", defArgs (top 81), defBody (top 81), defScope (top 81), [], []⟩,
  ⟨("_law_least_shifts", none), "_law_least_shifts", "_law_least_shifts", defArgs (top 82), defBody (top 82), defScope (top 82), [], []⟩,
  ⟨("law", none), "law", "law", defArgs (top 84), defBody (top 84), defScope (top 84), [], []⟩]
def hdF : List He.DefD := hdF0 ++ hdF1 ++ hdF2 ++ hdF3
def hdA0 : List He.Fa := [.free "len", .free "list", .free "tuple", .free "int", .free "str", .free "abs", .free "sum", .free "min", .free "max", .free "all", .free "isinstance", .free "range", .free "sorted", .free "enumerate", .free "zip", .free "bool", .int "GROUND" (-1), .glo "Tracker", .cls "Tracker", .mkr "Tracker"]
def hdA1 : List He.Fa := [.noat "Tracker" "circuit", .noat "Tracker" "delays", .noat "Tracker" "origin", .noat "Tracker" "driven", .noat "Tracker" "known", .glo "Settled", .cls "Settled", .mkr "Settled", .noat "Settled" "_circuit", .noat "Settled" "_windows", .noat "Settled" "_driven", .noat "Settled" "_known", .noat "Settled" "_values", .glo "Clocked", .cls "Clocked", .mkr "Clocked", .noat "Clocked" "_circuit", .noat "Clocked" "_period", .noat "Clocked" "_holds", .glo "ClockedRun"]
def hdA2 : List He.Fa := [.cls "ClockedRun", .mkr "ClockedRun", .noat "ClockedRun" "_clocked", .noat "ClockedRun" "_circuit", .noat "ClockedRun" "_rows", .noat "ClockedRun" "_edges", .noat "ClockedRun" "_shakes", .noat "ClockedRun" "_places", .noat "ClockedRun" "_stored", .noat "ClockedRun" "_tracker", .glo "bits_at", .glo "look_up", .glo "agrees", .glo "forced", .glo "sources", .glo "all_nets", .glo "check_net", .glo "drivers", .glo "gate_order", .glo "settle"]
def hdA3 : List He.Fa := [.glo "start_state", .glo "in_window", .glo "check_delays", .meth "Tracker" "value", .meth "Settled" "_vectors", .meth "Settled" "settled_value", .meth "Settled" "fits", .meth "Settled" "marks", .meth "Settled" "_loose_vectors", .meth "Settled" "loose_vector", .glo "check_holds", .glo "check_pairs", .meth "Clocked" "is_clean", .meth "Clocked" "circuit", .meth "Clocked" "holds", .meth "Clocked" "windows", .meth "Clocked" "settled", .meth "Clocked" "_row", .meth "Clocked" "needed", .meth "Clocked" "violation"]
def hdA4 : List He.Fa := [.meth "Clocked" "violations", .glo "shifted", .glo "longest_sums", .glo "constraints", .glo "as_edge", .glo "relaxed", .glo "find_shifts", .glo "least_period", .glo "check_lists", .meth "ClockedRun" "_play", .meth "ClockedRun" "edge_time", .meth "ClockedRun" "source_value", .meth "ClockedRun" "_input_value", .meth "ClockedRun" "_output_value", .meth "ClockedRun" "state", .glo "_law_same", .glo "_law_pool", .glo "_law_spread", .glo "_law_draw", .glo "_law_names"]
def hdA5 : List He.Fa := [.glo "_law_span", .glo "_law_gate", .glo "_law_times", .glo "_law_circuit", .glo "_law_sources", .glo "_law_sorted_gates", .glo "_law_settle", .glo "_law_vector", .glo "_law_delays", .glo "_law_clock", .glo "_law_windows", .glo "_law_bools", .glo "_law_choices", .glo "_law_trace", .glo "_law_sums", .glo "_law_constraints", .glo "_law_sides", .glo "_law_broken", .glo "_law_least_shifts", .glo "law"]
def hdA : List He.Fa := hdA0 ++ hdA1 ++ hdA2 ++ hdA3 ++ hdA4 ++ hdA5
def hdN0 : List PySem.Str := ["_wall", "SignoffError", "BadArgument", "Looped", "DeckError", "UnknownName", "WrongCount", "BadRange", "bits_at", "look_up", "agrees", "forced", "sources", "all_nets", "check_net", "drivers", "gate_order", "loop_names", "settle", "start_state", "in_window", "check_delays", "Tracker", "Settled", "check_holds", "check_pairs", "Clocked", "GROUND", "shifted", "longest_sums"]
def hdN1 : List PySem.Str := ["constraints", "as_edge", "relaxed", "find_shifts", "least_period", "check_lists", "ClockedRun", "_law_same", "_law_pool", "_law_spread", "_law_draw", "_law_names", "_law_span", "_law_gate", "_law_times", "_law_circuit", "_law_sources", "_law_nets", "_law_sorted_gates", "_law_settle", "_law_vector", "_law_all_vectors", "_law_changes", "_law_wave_value", "_law_delays", "_law_value", "_law_place", "_law_starts", "_law_arrivals", "_law_paths"]
def hdN2 : List PySem.Str := ["_law_clock", "_law_windows", "_law_margins", "_law_period", "_law_bools", "_law_choices", "_law_trace", "_law_sums", "_law_constraints", "_law_sides", "_law_broken", "_law_least_shifts", "_law_tight"]
def hdN : List PySem.Str := hdN0 ++ hdN1 ++ hdN2
/-! the property -/
def prA (K : PySem.W.Frag) : Addr := He.ma K (He.ga K "Clocked") "period"
def prG (K : PySem.W.Frag) : Addr := match PySem.W.recIn K (prA K) "property" with
  | some (.ref g :: _) => g
  | _ => 0
def prV (K : PySem.W.Frag) : He.FnW := match K.lookup (prG K) with
  | some o => (match o.data with
    | .func q => some (q.name, q.qualname, q.params, q.body, q.scope, q.globals, q.closure, q.builtins)
    | _ => none)
  | none => none
def prW : He.FnW := some ("period", "Clocked.period", defArgs (inClass (top 34) 1), .stmts (defBody (inClass (top 34) 1)), defScope (inClass (top 34) 1), mainGlobals, [], builtinsNs)
def prR (K : PySem.W.Frag) : Bool := match PySem.W.recIn K (prA K) "property" with
  | some (.ref _ :: _) => true
  | _ => false
def prD (K : PySem.W.Frag) : Bool := match K.lookup (prG K) with
  | some o => (match o.data with
    | .func q => PySem.W.codeIn K q.code "Clocked.period" && (He.dflB K q.defaults [] && He.kwdB K q.kwdefaults [])
    | _ => false)
  | none => false
def prB (K : PySem.W.Frag) : Bool := decide (PySem.W.findIn K (.ref (He.ga K "Clocked")) "period" = some (some (.ref (prA K)))) && (decide (PySem.W.specialIn K (.ref (prA K)) "__get__" = some (some (.builtin "property.__get__"))) && (decide (PySem.W.takesIn K (.ref (prA K)) = some true) && (prR K && (PySem.W.keepIn K (.ref (prG K)) && prD K))))
theorem pr_fun {K : PySem.W.Frag} (e : prV K = prW) (h : prD K = true) (kp : PySem.W.keepIn K (.ref (prG K)) = true) : ∃ fd, FunD K "period" "Clocked.period" (defArgs (inClass (top 34) 1)) (defBody (inClass (top 34) 1)) (defScope (inClass (top 34) 1)) [] [] (prG K) fd := by
  unfold prV at e
  unfold prD at h
  cases q : K.lookup (prG K) with
  | none => rw [q] at h; cases h
  | some o =>
    obtain ⟨oc, od, dt, osl⟩ := o
    rw [q] at e h
    cases dt with
    | func fd =>
      obtain ⟨m1, m2, m3, m4, m5, m6, m7, m8, m9, m10, m11, m12, m13, m14, m15⟩ := fd
      have e2 : (some (m1, m2, m3, m4, m5, m6, m7, m15) : He.FnW) = prW := e
      unfold prW at e2
      simp only [Option.some.injEq, Prod.mk.injEq] at e2
      obtain ⟨a1, a2, a3, a4, a5, a6, a7, a8⟩ := e2
      subst a1 a2 a3 a4 a5 a6 a7 a8
      obtain ⟨p1, p2⟩ := He.ba h
      obtain ⟨p3, p4⟩ := He.ba p2
      exact ⟨_, ⟨oc, od, m8, m9, m10, m11, m12, m13, m14, osl, rfl, q, p1, He.dflB_ok p3, He.kwdB_ok p4⟩, kp⟩
    | _ => cases h
theorem pr_of {K : PySem.W.Frag} (h : prB K = true) : PropOf K (He.ga K "Clocked") "period" (prA K) (prG K) ∧ PySem.W.keepIn K (.ref (prG K)) = true ∧ prD K = true := by
  obtain ⟨h1, h⟩ := He.ba h
  obtain ⟨h2, h⟩ := He.ba h
  obtain ⟨h3, h⟩ := He.ba h
  obtain ⟨h4, h⟩ := He.ba h
  obtain ⟨h5, h6⟩ := He.ba h
  refine ⟨⟨of_decide_eq_true h1, of_decide_eq_true h2, of_decide_eq_true h3, ?_⟩, h5, h6⟩
  unfold prR at h4
  unfold prG
  cases e : PySem.W.recIn K (prA K) "property" with
  | none => rw [e] at h4; cases h4
  | some l =>
    rw [e] at h4
    cases l with
    | nil => cases h4
    | cons v l =>
      cases v <;> first
        | exact ⟨l, rfl⟩
        | cases h4
/-! what is looked at -/
abbrev hdT : Type := Bool × (List He.FnW × He.FnW)
def hdO (K : PySem.W.Frag) : hdT := ((hdA.all fun f => f.ok K) && ((hdF.all fun d => d.ok K) && prB K), hdF.map fun d => He.fnW K d.at_, prV K)
def hdV : hdT := (true, hdF.map He.DefD.val, prW)
def hdS : List Addr := List.range 830
abbrev hk : PySem.W.Hook where
  α := hdT
  obs := fun s => hdO (He.frG s.heap.get? hdS)
  val := fun _ => hdV
  says := fun _ h => ∃ K : PySem.W.Frag, K.In h ∧ hdO K = hdV
  of := fun _ _ e => ⟨_, He.frG_in, e⟩
  keeps := fun _ _ _ ⟨K, a, c⟩ k => ⟨K, PySem.W.Frag.In.keeps a k, c⟩
def ob (s : PySem.W.SharedT) : hdT := hdO (He.frG (HandSHeadRun.getT s) hdS)
theorem ob_eq (s : PySem.W.SharedT) : ob s = hk.obs s.abs := by
  have e : HandSHeadRun.getT s = s.abs.heap.get? := funext (HandSHeadRun.getT_eq s)
  unfold ob
  rw [e]
structure HdSays (K : PySem.W.Frag) : Prop where
  all : hdO K = hdV
theorem HdSays.fact {K : PySem.W.Frag} (c : HdSays K) (i : Nat) {f : He.Fa} (h : hdA[i]? = some f := by rfl) : f.ok K = true := by
  have c1 := (He.ba (congrArg (fun z : hdT => z.1) c.all)).1
  exact List.all_eq_true.mp c1 f (List.mem_of_getElem? h)
theorem HdSays.dfn {K : PySem.W.Frag} (c : HdSays K) (i : Nat) {d : He.DefD} (h : hdF[i]? = some d) : ∃ fd, FunD K d.name d.qual d.params d.body d.scope (d.dvs K) (d.kws K) (He.fAd K d.at_) fd := by
  have c2 := (He.ba (He.ba (congrArg (fun z : hdT => z.1) c.all)).2).1
  have e1 : hdF.map (fun d => He.fnW K d.at_) = hdF.map He.DefD.val := congrArg (fun z : hdT => z.2.1) c.all
  have e2 : (hdF.map fun d => He.fnW K d.at_)[i]? = (hdF.map He.DefD.val)[i]? := by rw [e1]
  rw [List.getElem?_map, List.getElem?_map, h] at e2
  exact He.DefD.funD (Option.some.inj e2) (List.all_eq_true.mp c2 d (List.mem_of_getElem? h))
theorem HdSays.prop {K : PySem.W.Frag} (c : HdSays K) : ∃ p a, PropOf K (He.ga K "Clocked") "period" p a ∧ ∃ fd, FunD K "period" "Clocked.period" (defArgs (inClass (top 34) 1)) (defBody (inClass (top 34) 1)) (defScope (inClass (top 34) 1)) [] [] a fd := by
  obtain ⟨a, b, d⟩ := pr_of (He.ba (He.ba (congrArg (fun z : hdT => z.1) c.all)).2).2
  exact ⟨_, _, a, pr_fun (congrArg (fun z : hdT => z.2.2) c.all) d b⟩
abbrev hdR : PySem.W.OpenRow := PySem.W.OpenLaw.row PySem.Challenge.rw_signoff_k69_whole_schedules_are_clean

theorem run (w : World) : HandSHeadRun.RunEq hdR (PySem.W.view hdR.prog [84]) hk ob 60000 hdN w := by
  intro os
  kernel_rfl

end Sg
set_option maxHeartbeats 1000000
/-! Den0: for over a list, a tuple or a kept range; enumerate and zip over lists and tuples, mixed. -/
namespace Dn
open PySem PySem.Spec PyProof.Rows L2

/-- a sequence: a list (b) or a tuple -/
def Sq (K : PySem.W.Frag) (H : Hp) (a : Addr) (b : Bool) (xs : List V) : Prop := if b = true then SqL K H a xs else SqT K H a xs
def SqO (h : Heap) (a : Addr) (b : Bool) (items : Array Value) : Prop := if b = true then h.IsList a items else h.IsTuple a items
def SqI (h : Heap) (it a : Addr) (b : Bool) (i : Nat) : Prop := if b = true then h.IsListIter it a i else h.IsTupleIter it a i
def itO (a : Addr) (b : Bool) : Obj := if b = true then { cls := .type "list_iterator", data := .fields #[.ref a, .int 0 0] } else { cls := .type "tuple_iterator", data := .fields #[.ref a, .int 0 0] }
section
variable {X : Cx} {pins : List (Addr × Obj)} {σ : L2.St} {H : Hp} {s : Shared} {a it : Addr} {b : Bool} {xs ys : List V}
theorem Sq.seq (I : Inv X pins σ H s) (h : Sq X.K H a b xs) : ∃ its : List Value, Vals xs its ∧ SqO s.heap a b its.toArray ∧ a < s.heap.objs.size := by
  cases b with
  | true =>
    obtain ⟨its, r, p, _⟩ := I.list (show SqL X.K H a xs from h)
    exact ⟨its, r, p.isList, p.lt⟩
  | false =>
    obtain ⟨its, r, p, _⟩ := I.tuple (show SqT X.K H a xs from h)
    exact ⟨its, r, p, p.lt⟩
theorem Sq.inj (I : Inv X pins σ H s) (h : Sq X.K H a b xs) (h' : Sq X.K H a b ys) : xs = ys := by
  cases b with
  | true => exact I.list_inj h h'
  | false => exact I.tuple_inj h h'
theorem begins_sq (a : Addr) (b : Bool) (items : Array Value) : Begins (.ref a) (itO a b) fun h => SqO h a b items := by
  cases b with
  | true => exact begins_list a items
  | false => exact begins_tuple a items
theorem sqI_new {h : Heap} {it a : Addr} {b : Bool} (e : h.get? it = some (itO a b)) : SqI h it a b 0 := by
  cases b with
  | true => exact ⟨_, e, rfl, rfl⟩
  | false => exact ⟨_, e, rfl, rfl⟩
theorem SqI.live {h : Heap} {i : Nat} (x : SqI h it a b i) : ∃ o, h.get? it = some o ∧ ∀ v, o.data ≠ .cell v := by
  cases b with
  | true => obtain ⟨o, e, _, d⟩ := (show h.IsListIter it a i from x); exact ⟨o, e, fun v z => by rw [d] at z; cases z⟩
  | false => obtain ⟨o, e, _, d⟩ := (show h.IsTupleIter it a i from x); exact ⟨o, e, fun v z => by rw [d] at z; cases z⟩
theorem SqI.keep {h h' : Heap} {i : Nat} (x : SqI h it a b i) (k : ∀ o, h.get? it = some o → h'.get? it = some o) : SqI h' it a b i := by
  cases b with
  | true => exact (show h.IsListIter it a i from x).at k
  | false => exact (show h.IsTupleIter it a i from x).at k
theorem draws_sq {prog : Program} {w : World} {A : Around} (hh : A.handled = none) (it a : Addr) (b : Bool) (hne : a ≠ it) (items : Array Value) :
    Draws prog w A it [it, a] items.size (fun i v => items[i]? = some v) (fun i h => SqI h it a b i ∧ SqO h a b items) := by
  cases b with
  | true => exact Draws.list hh it a hne items
  | false => exact Draws.tuple hh it a hne items
end

/-! ### enumerate -/
def IteB (K : PySem.W.Frag) (a : Addr) (b : Bool) : It :=
  ⟨fun i H => ∃ (xs : List V) (x : V), Sq K H a b xs ∧ xs[i]? = some x, fun i H v H' => ∃ T x, v = .ref T ∧ H T = none ∧ H' = upd H T (.tup [.int (i : Nat), x]) ∧ ∀ xs, Sq K H a b xs → xs[i]? = some x, fun i H => ∃ xs : List V, Sq K H a b xs ∧ xs.length = i⟩
theorem turn_enumB {P : Program} {w : World} {K : PySem.W.Frag} {elts : List Expr} {kk : Nat} {tpos : Pos} (a : Addr) (b : Bool) (e it : Addr) :
    Turn P w K (.Tuple elts kk tpos) (IteB K a b) [e, it] e (fun i h => (∃ old, IsEnum h e it ((i : Nat) : Int) old) ∧ SqI h it a b i ∧ e ≠ it ∧ a ≠ it ∧ a ≠ e) where
  mem := List.mem_cons_self ..
  obj := fun i h st c hc => by
    obtain ⟨⟨old, he⟩, hi, _⟩ := st
    have e' : c = e ∨ c = it := by simpa using hc
    rcases e' with z | z
    · subst z; exact ⟨_, he, fun v q => nomatch q⟩
    · subst z; exact hi.live
  keep := fun i h h' st k => by
    obtain ⟨⟨old, he⟩, hi, n⟩ := st
    exact ⟨⟨old, k e (by simp) _ he⟩, hi.keep fun o q => k it (by simp) o q, n⟩
  item := by
    intro X hP hw hK hc i pins s σ H E I hf st hg
    subst hP hw hK
    obtain ⟨⟨old, he⟩, hit, n1, n2, n3⟩ := st
    obtain ⟨xs, x, hq, hx⟩ := hg
    obtain ⟨its, rv, so, ha⟩ := hq.seq I
    obtain ⟨u, hu, ru⟩ := rv.get hx
    have D := draws_sq (prog := X.prog) (w := X.w) (A := X.A.in1) (I.ok.hd hc) it a b n2 its.toArray
    have hil : i < its.toArray.size := by
      have := (List.getElem?_eq_some_iff.mp hu).1
      simpa using this
    have ea : e ∉ [it, a] := by simp only [List.mem_cons, List.not_mem_nil, or_false, not_or]; exact ⟨n1, Ne.symm n3⟩
    refine wpAny_pyNext_enum_itemD D he ⟨hit, so⟩ hil n1 ea fun u' h' tk hP ho hit' hT hsz hk => ?_
    have eu : u' = u := by
      have z : its.toArray[i]? = some u := by simpa using hu
      rw [show its.toArray[i]? = some u' from hP] at z
      exact Option.some.inj z
    subst eu
    have hel : e < s.heap.objs.size := Heap.lt_size he
    have hilt : it < s.heap.objs.size := by obtain ⟨_, q, _⟩ := hit.live; exact Heap.lt_size q
    refine ⟨_, rfl, wpAny_letOwnedTupleGo_enum (s := { s with heap := h', toks := tk + 1 }) ho fun h'' he' sb => ?_⟩
    have hT2 : h''.get? s.heap.objs.size = some { cls := .type "tuple", data := .seq #[.int i tk, u'] } := (sb.2 _ (Nat.ne_of_gt hel)).trans hT
    have new : ObjOk X.prog X.w (upd H s.heap.objs.size (.tup [.int (i : Nat), x])) h'' s.heap.objs.size (.tup [.int (i : Nat), x]) :=
      ⟨by show 2 ≤ sizeLine; decide, [.int i tk, u'], .cons ⟨_, rfl⟩ (.cons ru .nil), ⟨_, hT2, rfl, _, rfl⟩⟩
    have I1 : Inv X pins σ (upd H s.heap.objs.size (.tup [.int (i : Nat), x])) { s with heap := h'', toks := tk + 1 } :=
      I.turnedNew (ch := [e, it]) (fun c ob hb q => (sb.2 c fun z => hb (by simp [z])).trans (hk c ob (fun z => hb (by simp [z])) (fun z => hb (by simp [z])) q)) hf (Nat.le_refl _) new
    refine ⟨.ref s.heap.objs.size, _, I1, rfl, ⟨_, x, rfl, I.hok.fresh (Nat.le_refl _), rfl, fun ys hy => by rw [hy.inj I hq]; exact hx⟩, ⟨⟨u', ?_⟩, hit'.1.keep fun o q => (sb.2 it (Ne.symm n1)).trans q, n1, n2, n3⟩, fun c hcm => ?_⟩
    · have e1 : ((i + 1 : Nat) : Int) = (i : Int) + 1 := by omega
      rw [e1]
      exact he'
    · have hb' : c < s.heap.objs.size := by
        have e' : c = e ∨ c = it := by simpa using hcm
        rcases e' with z | z
        · rw [z]; exact hel
        · rw [z]; exact hilt
      rw [upd_ne (Nat.ne_of_lt hb')]
      exact (hf c hcm).1
  done := by
    intro X hP hw hK hc i pins s σ H E I hf st hg
    subst hP hw hK
    obtain ⟨⟨old, he⟩, hit, n1, n2, n3⟩ := st
    obtain ⟨xs, hq, hx⟩ := hg
    obtain ⟨its, rv, so, ha⟩ := hq.seq I
    have D := draws_sq (prog := X.prog) (w := X.w) (A := X.A.in1) (I.ok.hd hc) it a b n2 its.toArray
    have hl := rv.length
    obtain ⟨f0, f1, f2, f3, f4, f5⟩ := hf it (by simp)
    have sz : its.toArray.size = i := by rw [List.size_toArray]; omega
    exact wpAny_pyNext_enum_endD D he (show _ ∧ _ by rw [sz]; exact ⟨hit, so⟩) fun h' eb => ⟨rfl, I.turned (t' := s.toks) (fun c o hb q => eb c o hb q) f0 f1 f3 f4 f5⟩
  self := fun A i s Q E st h => by
    obtain ⟨⟨_, he⟩, _⟩ := st
    exact wpAny_pyIter_enum he h

theorem meets_enumB {v : Value} {o : Obj} {Hh : Heap → Prop} (B : Begins v o Hh) :
    Meets (Builtin.«enumerate.__new__» ⟨[.type "enumerate", v], []⟩) (fun _ R s => Hh s.heap ∧
      R (.ok (.ret (.ref (s.heap.push o).objs.size))) { s with heap := (s.heap.push o).push { cls := .type "enumerate", data := .fields #[.none, .bool false, .ref s.heap.objs.size, rawInt 0, .none, .none] } }) :=
  .of_wp fun prog w A R s h => by
    obtain ⟨hp, g, d, tk, os⟩ := s; obtain ⟨h1, h⟩ := h
    have hsub := sub_enumerate
    have q1 : ∀ {A' : Around} {E : Value → Shared → Prop} {Q : Value → Shared → Prop}, Q (.ref hp.objs.size) ⟨hp.push o, g, d, tk, os⟩ → wpAny (model prog w) A' (pyIter v) Q E ⟨hp, g, d, tk, os⟩ :=
      fun q => B.iter prog w _ _ ⟨hp, g, d, tk, os⟩ _ h1 q
    wp_walk using q1
    refine wpAny_stack_any fun st => wpAny_pure ?_
    split
    · rename_i c _ _ _ _ _
      cases (c == Value.type "enumerate")
      · wp_walk using q1
        exact ⟨_, rfl, h⟩
      · wp_walk using q1
        exact ⟨_, rfl, h⟩
    · wp_walk using q1
      exact ⟨_, rfl, h⟩
theorem call_enumB {prog : Program} {w : World} {A : Around} {E : Value → Shared → Prop} {s : Shared} {v : Value} {o : Obj} {Hh : Heap → Prop} {Q : Value → Shared → Prop} (B : Begins v o Hh) (h1 : Hh s.heap)
    (h : ∀ h', IsEnum h' (s.heap.objs.size + 1) s.heap.objs.size 0 .none → h'.get? s.heap.objs.size = some o → h'.objs.size = s.heap.objs.size + 2 → (∀ b o, s.heap.get? b = some o → h'.get? b = some o) →
      Q (.ref (s.heap.objs.size + 1)) { s with heap := h' }) : wpAny (model prog w) A (call (.type "enumerate") [v]) Q E s := by
  refine callType_new F.called_enumerate (by decide) (F.typeCall_enumerate_1 _) (F.newCall_enumerate_1 _) (fun obj => F.args_object_init_2 obj _) F.entry_enumerate_new (meets_enumB B) ⟨h1, ?_⟩
  have hz : (s.heap.push o).objs.size = s.heap.objs.size + 1 := Heap.size_push ..
  show _ ∧ _
  rw [hz]
  have he := Heap.get?_push_size (s.heap.push o) (o := { cls := .type "enumerate", data := .fields #[.none, .bool false, .ref s.heap.objs.size, rawInt 0, .none, .none] }) rfl
  rw [hz] at he
  exact ⟨⟨_, he, rfl⟩, h _ he (Heap.get?_push_of_some _ (Heap.get?_push_size _ B.free)) (by rw [Heap.size_push, hz]) fun c u x => Heap.get?_push_of_some _ (Heap.get?_push_of_some _ x)⟩
def iEnumB (K : PySem.W.Frag) (ta : TA) : TI := fun σ H R => ta σ H fun vs H1 => ∃ a b xs, vs = [.ref a] ∧ Sq K H1 a b xs ∧ R (IteB K a b) H1
theorem pi_enumB {X : Cx} {e : Expr} {ta : TA} {p pos tpos : Pos} {elts : List Expr} {kk : Nat} (hg : Gl X "enumerate") (hm : X.mg "enumerate" = none) (ha : PA X [e] ta) (hs : starEach [e] X.env = [(false, eval e X.env)] := by rfl) :
    PI X (.Tuple elts kk tpos) (.Call (.Name "enumerate" p) [e] [] pos) (iEnumB X.K ta) := by
  refine ⟨fun pins s σ H R I h => ?_⟩
  refine Call_ (ld_blt I hg hm boot_enumerate (PyProof.Rows.callWith_type1 (thn (ha.run pos pins s σ H _ I h) fun us s1 ⟨vs, H1, I1, r1, a, b, xs, ex, hq, q⟩ => ?_) hs rfl))
  subst ex
  cases r1 with
  | cons r rr =>
    cases rr
    cases r
    obtain ⟨its, rv, so, al⟩ := hq.seq I1
    refine call_enumB (begins_sq a b its.toArray) so fun h' he hit hsz hk => wpAny_pyIter_enum he ?_
    have I2 : Inv X pins σ H1 { s1 with heap := h' } := I1.kept (t' := s1.toks) hk
    refine ⟨s1.heap.objs.size + 1, [s1.heap.objs.size + 1, s1.heap.objs.size], _, _, H1, rfl, I2, turn_enumB a b (s1.heap.objs.size + 1) s1.heap.objs.size, ⟨⟨.none, he⟩, sqI_new hit, Nat.succ_ne_self _, Nat.ne_of_lt al, Nat.ne_of_lt (Nat.lt_succ_of_lt al)⟩, fun c hb => ?_, q⟩
    have hle : s1.heap.objs.size ≤ c := by
      have e' : c = s1.heap.objs.size + 1 ∨ c = s1.heap.objs.size := by simpa using hb
      rcases e' with z | z <;> rw [z]
      · exact Nat.le_succ _
      · exact Nat.le_refl _
    exact I1.fpOk hle (I1.hok.fresh hle)

/-! ### zip -/
def ItzB (K : PySem.W.Frag) (a : Addr) (b : Bool) (c : Addr) (d : Bool) : It :=
  ⟨fun i H => ∃ (xs ys : List V) (x y : V), Sq K H a b xs ∧ Sq K H c d ys ∧ xs[i]? = some x ∧ ys[i]? = some y,
    fun i H v H' => ∃ T x y, v = .ref T ∧ H T = none ∧ H' = upd H T (.tup [x, y]) ∧ (∀ xs, Sq K H a b xs → xs[i]? = some x) ∧ ∀ ys, Sq K H c d ys → ys[i]? = some y,
    fun i H => ∃ xs ys : List V, Sq K H a b xs ∧ Sq K H c d ys ∧ i = min xs.length ys.length⟩
theorem turn_zipB {P : Program} {w : World} {K : PySem.W.Frag} {elts : List Expr} {kk : Nat} {tpos : Pos} {a c z TI TO i1 i2 : Addr} {b d : Bool} (S : ZipSep2 z TI TO i1 i2 [i1, a] [i2, c]) :
    Turn P w K (.Tuple elts kk tpos) (ItzB K a b c d) [z, TI, TO, i1, i2] z (fun i h => IsZip h z TI TO .none ∧ IsTupOf2 h TI (.ref i1) (.ref i2) ∧ (∃ x y, IsTupOf2 h TO x y) ∧ SqI h i1 a b i ∧ SqI h i2 c d i ∧ a ≠ i1 ∧ c ≠ i2) where
  mem := List.mem_cons_self ..
  obj := fun i h st e he => by
    obtain ⟨hz, hTI, ⟨x, y, hTO⟩, h1, h2, _⟩ := st
    have e' : e = z ∨ e = TI ∨ e = TO ∨ e = i1 ∨ e = i2 := by simpa using he
    rcases e' with q | q | q | q | q <;> subst q
    · exact ⟨_, hz, fun v q => nomatch q⟩
    · exact ⟨_, hTI, fun v q => nomatch q⟩
    · exact ⟨_, hTO, fun v q => nomatch q⟩
    · exact h1.live
    · exact h2.live
  keep := fun i h h' st k => by
    obtain ⟨hz, hTI, ⟨x, y, hTO⟩, h1, h2, n⟩ := st
    exact ⟨k z (by simp) _ hz, k TI (by simp) _ hTI, ⟨x, y, k TO (by simp) _ hTO⟩, h1.keep fun o q => k i1 (by simp) o q, h2.keep fun o q => k i2 (by simp) o q, n⟩
  item := by
    intro X hP hw hK hc i pins s σ H E I hf st hg
    subst hP hw hK
    obtain ⟨hz, hTI, ⟨x0, y0, hTO⟩, h1, h2, n1, n2⟩ := st
    obtain ⟨xs, ys, x, y, hqx, hqy, hx, hy⟩ := hg
    obtain ⟨its, rv, so, al⟩ := hqx.seq I
    obtain ⟨jts, rw', so2, cl⟩ := hqy.seq I
    obtain ⟨u, hu, ru⟩ := rv.get hx
    obtain ⟨u2, hu2, ru2⟩ := rw'.get hy
    have D1 := draws_sq (prog := X.prog) (w := X.w) (A := X.A.in1) (I.ok.hd hc) i1 a b n1 its.toArray
    have D2 := draws_sq (prog := X.prog) (w := X.w) (A := X.A.in1) (I.ok.hd hc) i2 c d n2 jts.toArray
    have l1 : i < its.toArray.size := by
      have := (List.getElem?_eq_some_iff.mp hu).1
      simpa using this
    have l2 : i < jts.toArray.size := by
      have := (List.getElem?_eq_some_iff.mp hu2).1
      simpa using this
    have hzl : z < s.heap.objs.size := Heap.lt_size hz
    refine wpAny_pyNext_zipD2_item S D1 D2 hz hTI hTO ⟨h1, so⟩ ⟨h2, so2⟩ l1 l2 fun v1 v2 h' tk p1 p2 z' TO' h1' h2' hT hsz hk => ?_
    have e1 : v1 = u := by
      have q : its.toArray[i]? = some u := by simpa using hu
      rw [show its.toArray[i]? = some v1 from p1] at q
      exact Option.some.inj q
    have e2 : v2 = u2 := by
      have q : jts.toArray[i]? = some u2 := by simpa using hu2
      rw [show jts.toArray[i]? = some v2 from p2] at q
      exact Option.some.inj q
    subst e1 e2
    refine ⟨_, rfl, wpAny_letOwnedTupleGo_zip (s := { s with heap := h', toks := tk }) z' fun h'' z'' sb => ?_⟩
    have hT2 : h''.get? s.heap.objs.size = some { cls := .type "tuple", data := .seq #[v1, v2] } := (sb.2 _ (Nat.ne_of_gt hzl)).trans hT
    have new : ObjOk X.prog X.w (upd H s.heap.objs.size (.tup [x, y])) h'' s.heap.objs.size (.tup [x, y]) :=
      ⟨by show 2 ≤ sizeLine; decide, [v1, v2], .cons ru (.cons ru2 .nil), ⟨_, hT2, rfl, _, rfl⟩⟩
    have I1 : Inv X pins σ (upd H s.heap.objs.size (.tup [x, y])) { s with heap := h'', toks := tk } :=
      I.turnedNew (ch := [z, TI, TO, i1, i2]) (fun e o hb q => (sb.2 e fun q' => hb (by simp [q'])).trans (hk e o (fun q' => hb (by simp [q'])) (fun q' => hb (by simp [q'])) (fun q' => hb (by simp [q'])) (fun q' => hb (by simp [q'])) q)) hf (Nat.le_refl _) new
    refine ⟨.ref s.heap.objs.size, _, I1, rfl, ⟨_, x, y, rfl, I.hok.fresh (Nat.le_refl _), rfl, fun l hl => by rw [hl.inj I hqx]; exact hx, fun l hl => by rw [hl.inj I hqy]; exact hy⟩,
      ⟨z'', (sb.2 _ S.TIz).trans (hk _ _ S.TIz S.TITO S.TIi1 S.TIi2 hTI), ⟨v1, v2, (sb.2 _ S.TOz).trans TO'⟩, h1'.1.keep fun o q => (sb.2 _ (Ne.symm S.zi1)).trans q, h2'.1.keep fun o q => (sb.2 _ (Ne.symm S.zi2)).trans q, n1, n2⟩, fun e hcm => ?_⟩
    have hlt : e < s.heap.objs.size := by
      have e' : e = z ∨ e = TI ∨ e = TO ∨ e = i1 ∨ e = i2 := by simpa using hcm
      rcases e' with q | q | q | q | q <;> subst q
      · exact hzl
      · exact Heap.lt_size hTI
      · exact Heap.lt_size hTO
      · obtain ⟨_, q, _⟩ := h1.live; exact Heap.lt_size q
      · obtain ⟨_, q, _⟩ := h2.live; exact Heap.lt_size q
    rw [upd_ne (Nat.ne_of_lt hlt)]
    exact (hf e hcm).1
  done := by
    intro X hP hw hK hc i pins s σ H E I hf st hg
    subst hP hw hK
    obtain ⟨hz, hTI, ⟨x0, y0, hTO⟩, h1, h2, n1, n2⟩ := st
    obtain ⟨xs, ys, hqx, hqy, hend⟩ := hg
    obtain ⟨its, rv, so, al⟩ := hqx.seq I
    obtain ⟨jts, rw', so2, cl⟩ := hqy.seq I
    have l1 := rv.length
    have l2 := rw'.length
    have s1 : its.toArray.size = its.length := List.size_toArray ..
    have s2 : jts.toArray.size = jts.length := List.size_toArray ..
    have D1 := draws_sq (prog := X.prog) (w := X.w) (A := X.A.in1) (I.ok.hd hc) i1 a b n1 its.toArray
    have D2 := draws_sq (prog := X.prog) (w := X.w) (A := X.A.in1) (I.ok.hd hc) i2 c d n2 jts.toArray
    exact wpAny_pyNext_zipD2_end S D1 D2 hz hTI hTO ⟨h1, so⟩ ⟨h2, so2⟩ (by omega) (by omega) (by omega) fun h' tk hk => ⟨rfl, I.turnedL (ch := [z, TI, TO, i1, i2]) (fun e o hb q =>
      hk e o (fun q' => hb (by simp [q'])) (fun q' => hb (by simp [q'])) (fun q' => hb (by simp [q'])) (fun q' => hb (by simp [q'])) q) hf⟩
  self := fun A i s Q E st h => wpAny_pyIter_zip st.1 h
theorem zip_apart {N a c : Nat} (ha : a < N) (hc : c < N) : ZipSep2 (N + 4) (N + 2) (N + 3) N (N + 1) [N, a] [N + 1, c] :=
  zip_sep2 (fp1 := [a]) (fp2 := [c]) (fun b hb => by rw [List.mem_singleton.mp hb]; exact ha) fun b hb => by rw [List.mem_singleton.mp hb]; exact hc
def iZipB (K : PySem.W.Frag) (ta : TA) : TI := fun σ H R => ta σ H fun vs H1 => ∃ a b c d xs ys, vs = [.ref a, .ref c] ∧ Sq K H1 a b xs ∧ Sq K H1 c d ys ∧ R (ItzB K a b c d) H1
theorem pi_zipB {X : Cx} {e e2 : Expr} {ta : TA} {p pos tpos : Pos} {elts : List Expr} {kk : Nat} (hg : Gl X "zip") (hm : X.mg "zip" = none) (ha : PA X [e, e2] ta)
    (hs : starEach [e, e2] X.env = (false, eval e X.env) :: starEach [e2] X.env := by rfl) (hpl : (backTo pos (starEach [e2] X.env)).any (·.1) = false := by rfl) :
    PI X (.Tuple elts kk tpos) (.Call (.Name "zip" p) [e, e2] [] pos) (iZipB X.K ta) := by
  refine ⟨fun pins s σ H R I h => ?_⟩
  refine Call_ (ld_blt I hg hm PyProof.Rows.boot_zip (PyProof.Rows.callWith_type1 (thn (ha.run pos pins s σ H _ I h) fun us s1 ⟨vs, H1, I1, r1, a, b, c, d, xs, ys, ex, hqx, hqy, q⟩ => ?_) hs hpl))
  subst ex
  cases r1 with
  | cons r rr =>
    cases rr with
    | cons r' rr =>
      cases rr
      cases r
      cases r'
      obtain ⟨its, rv, so, al⟩ := hqx.seq I1
      obtain ⟨jts, rw', so2, cl⟩ := hqy.seq I1
      refine zip_begins2 (begins_sq a b its.toArray) (begins_sq c d jts.toArray) so so2 fun h' hz hTI hTO h1 h2 hsz hk => wpAny_pyIter_zip hz ?_
      have I2 : Inv X pins σ H1 { s1 with heap := h' } := I1.kept (t' := s1.toks) hk
      refine ⟨s1.heap.objs.size + 4, [s1.heap.objs.size + 4, s1.heap.objs.size + 2, s1.heap.objs.size + 3, s1.heap.objs.size, s1.heap.objs.size + 1], _, _, H1, rfl, I2, turn_zipB (zip_apart al cl), ⟨hz, hTI, ⟨_, _, hTO⟩, sqI_new h1, sqI_new h2, Nat.ne_of_lt al, Nat.ne_of_lt (Nat.lt_succ_of_lt cl)⟩, fun e hcm => ?_, q⟩
      have hle : s1.heap.objs.size ≤ e := by
        have e' : e = s1.heap.objs.size + 4 ∨ e = s1.heap.objs.size + 2 ∨ e = s1.heap.objs.size + 3 ∨ e = s1.heap.objs.size ∨ e = s1.heap.objs.size + 1 := by simpa using hcm
        rcases e' with z | z | z | z | z <;> rw [z] <;> first | exact Nat.le_add_right _ _ | exact Nat.le_refl _
      exact I1.fpOk hle (I1.hok.fresh hle)

/-! ### a list, a tuple, a range that stands -/
def iSeq (K : PySem.W.Frag) (tl : TE) : TI := fun σ H R => tl σ H fun x H1 => ∃ a, x = .ref a ∧
  (((∃ xs, SqL K H1 a xs) ∧ R (Itl K a) H1) ∨ ((∃ xs, SqT K H1 a xs) ∧ R (Itt K a) H1) ∨ ∃ lo hi : Int, H1 a = some (.rng lo hi) ∧ (-(2 ^ 62) ≤ lo ∧ lo < 2 ^ 62 ∧ -(2 ^ 62) ≤ hi ∧ hi < 2 ^ 62) ∧ R (Itr lo (hi - lo).toNat) H1)
theorem pi_seq {X : Cx} {tg l : Expr} {tl : TE} (hl : PE X l tl) : PI X tg l (iSeq X.K tl) := by
  refine ⟨fun pins s σ H R I h => ?_⟩
  refine thn (hl.run pins s σ H _ I h) fun v s1 ⟨x, H1, I1, r1, a, e, q⟩ => ?_
  subst e
  cases r1
  have fr : ∀ c ∈ [s1.heap.objs.size], FpOk X pins H1 c := fun c hc => by
    rw [List.mem_singleton.mp hc]
    exact I1.fpOk (Nat.le_refl _) (I1.hok.fresh (Nat.le_refl _))
  rcases q with ⟨⟨xs, hq⟩, q⟩ | ⟨⟨xs, hq⟩, q⟩ | ⟨lo, hi, hq, ⟨b1, b2, b3, b4⟩, q⟩
  · obtain ⟨its, rv, p, hz⟩ := I1.list hq
    refine wpAny_pyIter_list p.isList ?_
    exact ⟨s1.heap.objs.size, [s1.heap.objs.size], _, _, H1, rfl, I1.kept (t' := s1.toks) fun b o e => Heap.get?_push_of_some _ e, turn_list a _, ⟨_, Heap.get?_push_size _ rfl, rfl, rfl⟩, fr, q⟩
  · obtain ⟨its, rv, p, hz⟩ := I1.tuple hq
    refine wpAny_pyIter_tuple (show s1.heap.IsTuple a its.toArray from p) ?_
    exact ⟨s1.heap.objs.size, [s1.heap.objs.size], _, _, H1, rfl, I1.kept (t' := s1.toks) fun b o e => Heap.get?_push_of_some _ e, turn_tuple a _, ⟨_, Heap.get?_push_size _ rfl, rfl, rfl⟩, fr, q⟩
  · obtain ⟨t, u, v, ho⟩ := I1.hok a _ hq
    refine wpAny_pyIter_range (show IsRange s1.heap a lo hi 1 t u v from ho) (small_one b1 b2 b3 b4) ?_
    refine ⟨s1.heap.objs.size, [s1.heap.objs.size], _, _, H1, rfl, I1.kept (t' := s1.toks) fun b o e => Heap.get?_push_of_some _ e, turn_range _ lo (hi - lo).toNat, ?_, fr, q⟩
    have e1 : lo + ((0 : Nat) : Int) * 1 = lo := by simp
    have e2 : (((hi - lo).toNat : Nat) : Int) - ((0 : Nat) : Int) = Builtin.Range.rangeSize lo hi 1 := by rw [rangeSize_one]; split <;> omega
    rw [e1, e2]
    exact Heap.get?_push_size _ rfl
end Dn
/-! Den1: data, how a heap bears them, the state of a body told by abstract slots. -/
namespace Dn
open PySem L2

/-- data that no one changes any more -/
inductive D where
  | non
  | bl (b : Bool)
  | int (i : Int)
  | str (x : Str)
  | lst (ds : List D)
  | tup (ds : List D)
  | dic (kvs : List (Key × D))
  | ins (C : Addr) (fs : List (Str × D))
  | rng (lo hi : Int)
  | adr (a : Addr)

def Le (F H : Hp) : Prop := ∀ a o, F a = some o → H a = some o
theorem Le.refl (F : Hp) : Le F F := fun _ _ h => h
theorem Le.trans {A B C : Hp} (x : Le A B) (y : Le B C) : Le A C := fun a o h => y a o (x a o h)
theorem Le.no {F H : Hp} {a : Addr} (x : Le F H) (h : H a = none) : F a = none := by
  cases e : F a with
  | none => rfl
  | some o => rw [x a o e] at h; cases h
theorem Le.new {F H : Hp} {a : Addr} {o : HO} (x : Le F H) (h : F a = none) : Le F (upd H a o) := fun b u e => by
  rw [upd_ne (ne_of_none e h)]
  exact x b u e
theorem Le.both {F H : Hp} {a : Addr} {o : HO} (x : Le F H) : Le (upd F a o) (upd H a o) := fun b u e => by
  by_cases q : b = a
  · subst q; rw [upd_same] at e ⊢; exact e
  · rw [upd_ne q] at e ⊢; exact x b u e
theorem Le.fr {F H : Hp} {a : Addr} {o : HO} (x : Le F H) (h : H a = some o) : Le (upd F a o) H := fun b u e => by
  by_cases q : b = a
  · subst q; rw [upd_same] at e; cases e; exact h
  · rw [upd_ne q] at e; exact x b u e

mutual
inductive Rep (F : Hp) : V → D → Prop
  | non : Rep F .non .non
  | bl (b : Bool) : Rep F (.bl b) (.bl b)
  | int (i : Int) : Rep F (.int i) (.int i)
  | str (x : Str) : Rep F (.str x) (.str x)
  | lst {a : Addr} {xs : List V} {ds : List D} : F a = some (.lst xs) → Reps F xs ds → Rep F (.ref a) (.lst ds)
  | tup {a : Addr} {xs : List V} {ds : List D} : F a = some (.tup xs) → Reps F xs ds → Rep F (.ref a) (.tup ds)
  | dic {a : Addr} {kvs : List (Key × V)} {ds : List (Key × D)} : F a = some (.dK kvs) → RepK F kvs ds → Rep F (.ref a) (.dic ds)
  | ins {a C dx : Addr} {fs : List (Str × V)} {ds : List (Str × D)} : F a = some (.ins C dx fs) → RepF F fs ds → Rep F (.ref a) (.ins C ds)
  | rng {a : Addr} {lo hi : Int} : F a = some (.rng lo hi) → Rep F (.ref a) (.rng lo hi)
  | adr (a : Addr) : Rep F (.ref a) (.adr a)
inductive Reps (F : Hp) : List V → List D → Prop
  | nil : Reps F [] []
  | cons {v : V} {vs : List V} {d : D} {ds : List D} : Rep F v d → Reps F vs ds → Reps F (v :: vs) (d :: ds)
inductive RepK (F : Hp) : List (Key × V) → List (Key × D) → Prop
  | nil : RepK F [] []
  | cons {k : Key} {v : V} {vs : List (Key × V)} {d : D} {ds : List (Key × D)} : Rep F v d → RepK F vs ds → RepK F ((k, v) :: vs) ((k, d) :: ds)
inductive RepF (F : Hp) : List (Str × V) → List (Str × D) → Prop
  | nil : RepF F [] []
  | cons {k : Str} {v : V} {vs : List (Str × V)} {d : D} {ds : List (Str × D)} : Rep F v d → RepF F vs ds → RepF F ((k, v) :: vs) ((k, d) :: ds)
end

section
variable {F G : Hp} (x : Le F G)
include x
mutual
theorem Rep.mono : ∀ {v : V} {d : D}, Rep F v d → Rep G v d
  | _, _, .non => .non
  | _, _, .bl b => .bl b
  | _, _, .int b => .int b
  | _, _, .str b => .str b
  | _, _, .lst h r => .lst (x _ _ h) (Reps.mono r)
  | _, _, .tup h r => .tup (x _ _ h) (Reps.mono r)
  | _, _, .dic h r => .dic (x _ _ h) (RepK.mono r)
  | _, _, .ins h r => .ins (x _ _ h) (RepF.mono r)
  | _, _, .rng h => .rng (x _ _ h)
  | _, _, .adr a => .adr a
theorem Reps.mono : ∀ {v : List V} {d : List D}, Reps F v d → Reps G v d
  | _, _, .nil => .nil
  | _, _, .cons h r => .cons (Rep.mono h) (Reps.mono r)
theorem RepK.mono : ∀ {v : List (Key × V)} {d : List (Key × D)}, RepK F v d → RepK G v d
  | _, _, .nil => .nil
  | _, _, .cons h r => .cons (Rep.mono h) (RepK.mono r)
theorem RepF.mono : ∀ {v : List (Str × V)} {d : List (Str × D)}, RepF F v d → RepF G v d
  | _, _, .nil => .nil
  | _, _, .cons h r => .cons (Rep.mono h) (RepF.mono r)
end
end

section
variable {F : Hp}
theorem Reps.length : ∀ {xs : List V} {ds : List D}, Reps F xs ds → xs.length = ds.length
  | _, _, .nil => rfl
  | _, _, .cons _ r => congrArg Nat.succ (Reps.length r)
theorem RepK.length : ∀ {xs : List (Key × V)} {ds : List (Key × D)}, RepK F xs ds → xs.length = ds.length
  | _, _, .nil => rfl
  | _, _, .cons _ r => congrArg Nat.succ (RepK.length r)
theorem RepF.length : ∀ {xs : List (Str × V)} {ds : List (Str × D)}, RepF F xs ds → xs.length = ds.length
  | _, _, .nil => rfl
  | _, _, .cons _ r => congrArg Nat.succ (RepF.length r)
theorem Reps.get : ∀ {xs : List V} {ds : List D} {i : Nat} {d : D}, Reps F xs ds → ds[i]? = some d → ∃ v, xs[i]? = some v ∧ Rep F v d
  | _, _, 0, _, .cons h _, e => by cases e; exact ⟨_, rfl, h⟩
  | _, _, i + 1, d, .cons _ r, e => Reps.get (i := i) (d := d) r e
theorem Reps.get' : ∀ {xs : List V} {ds : List D} {i : Nat} {v : V}, Reps F xs ds → xs[i]? = some v → ∃ d, ds[i]? = some d ∧ Rep F v d
  | _, _, 0, _, .cons h _, e => by cases e; exact ⟨_, rfl, h⟩
  | _, _, i + 1, d, .cons _ r, e => Reps.get' (i := i) r e
theorem Reps.snoc : ∀ {xs : List V} {ds : List D} {v : V} {d : D}, Reps F xs ds → Rep F v d → Reps F (xs ++ [v]) (ds ++ [d])
  | _, _, _, _, .nil, h => .cons h .nil
  | _, _, _, _, .cons h r, q => .cons h (Reps.snoc r q)
theorem Reps.append : ∀ {xs ys : List V} {ds es : List D}, Reps F xs ds → Reps F ys es → Reps F (xs ++ ys) (ds ++ es)
  | _, _, _, _, .nil, h => h
  | _, _, _, _, .cons h r, q => .cons h (Reps.append r q)
theorem Reps.set {v : V} {d : D} (h : Rep F v d) : ∀ {xs : List V} {ds : List D} (i : Nat), Reps F xs ds → Reps F (xs.set i v) (ds.set i d)
  | _, _, _, .nil => .nil
  | _, _, 0, .cons _ r => .cons h r
  | _, _, i + 1, .cons q r => .cons q (Reps.set h i r)
theorem Reps.take : ∀ {xs : List V} {ds : List D} (i : Nat), Reps F xs ds → Reps F (xs.take i) (ds.take i)
  | _, _, 0, _ => .nil
  | _, _, i + 1, .nil => .nil
  | _, _, i + 1, .cons q r => .cons q (Reps.take i r)
theorem Reps.drop : ∀ {xs : List V} {ds : List D} (i : Nat), Reps F xs ds → Reps F (xs.drop i) (ds.drop i)
  | _, _, 0, r => r
  | _, _, i + 1, .nil => .nil
  | _, _, i + 1, .cons q r => Reps.drop i r
theorem Reps.flat : ∀ {n : Nat} {xs : List V} {ds : List D}, Reps F xs ds → Reps F (List.replicate n xs).flatten (List.replicate n ds).flatten
  | 0, _, _, _ => .nil
  | n + 1, _, _, r => by
    rw [List.replicate_succ, List.replicate_succ]
    exact Reps.append r (Reps.flat r)

/-- ints, texts, bools as they are -/
theorem Reps.ints : ∀ {ns : List Int} {xs : List V}, Reps F xs (ns.map D.int) → xs = ns.map V.int
  | [], _, .nil => rfl
  | _ :: _, _, .cons (.int _) r => by rw [Reps.ints r]; rfl
theorem Reps.strs : ∀ {ns : List Str} {xs : List V}, Reps F xs (ns.map D.str) → xs = ns.map V.str
  | [], _, .nil => rfl
  | _ :: _, _, .cons (.str _) r => by rw [Reps.strs r]; rfl
theorem Reps.bls : ∀ {ns : List Bool} {xs : List V}, Reps F xs (ns.map D.bl) → xs = ns.map V.bl
  | [], _, .nil => rfl
  | _ :: _, _, .cons (.bl _) r => by rw [Reps.bls r]; rfl
end

/-! ### what a dict of data holds -/
section
variable {κ : Type} [DecidableEq κ] {α : Type}
def lk (kvs : List (κ × α)) (k : κ) : Option α := (kvs.find? fun kv => decide (kv.1 = k)).map (·.2)
def pt (kvs : List (κ × α)) (k : κ) (v : α) : List (κ × α) :=
  if (kvs.any fun kv => decide (kv.1 = k)) = true then kvs.map fun kv => if kv.1 = k then (kv.1, v) else kv else kvs ++ [(k, v)]
theorem lk_nil {k : κ} : lk ([] : List (κ × α)) k = none := rfl
theorem lk_cons {k j : κ} {v : α} {r : List (κ × α)} : lk ((j, v) :: r) k = if j = k then some v else lk r k := by
  unfold lk
  by_cases h : j = k
  · simp [h]
  · simp [h]
theorem lk_map {k j : κ} {v : α} : ∀ {r : List (κ × α)}, lk (r.map fun kv => if kv.1 = j then (kv.1, v) else kv) k = if j = k then (lk r k).map (fun _ => v) else lk r k
  | [] => by simp [lk_nil]
  | (i, u) :: r => by
    have ih := lk_map (k := k) (j := j) (v := v) (r := r)
    rw [List.map_cons]
    by_cases hij : i = j
    · subst hij
      rw [if_pos rfl, lk_cons, lk_cons, ih]
      by_cases hik : i = k
      · simp [hik]
      · simp [hik]
    · rw [if_neg hij, lk_cons, lk_cons, ih]
      by_cases hik : i = k
      · subst hik
        simp [Ne.symm hij]
      · simp [hik]
theorem lk_any {k : κ} : ∀ {r : List (κ × α)}, (r.any fun kv => decide (kv.1 = k)) = (lk r k).isSome
  | [] => rfl
  | (i, u) :: r => by
    rw [List.any_cons, lk_any, lk_cons]
    by_cases h : i = k
    · simp [h]
    · simp [h]
theorem lk_app {k j : κ} {v : α} : ∀ {r : List (κ × α)}, lk (r ++ [(j, v)]) k = (lk r k).or (if j = k then some v else none)
  | [] => by simp [lk_cons, lk_nil]
  | (i, u) :: r => by
    rw [List.cons_append, lk_cons, lk_cons, lk_app]
    by_cases h : i = k
    · simp [h]
    · simp [h]
theorem lk_pt {kvs : List (κ × α)} {k j : κ} {v : α} : lk (pt kvs j v) k = if j = k then some v else lk kvs k := by
  unfold pt
  by_cases h : (kvs.any fun kv => decide (kv.1 = j)) = true
  · rw [if_pos h, lk_map]
    by_cases e : j = k
    · subst e
      rw [if_pos rfl, if_pos rfl]
      rw [lk_any] at h
      cases q : lk kvs j with
      | none => rw [q] at h; cases h
      | some u => rfl
    · rw [if_neg e, if_neg e]
  · rw [if_neg h, lk_app]
    by_cases e : j = k
    · subst e
      rw [if_pos rfl, if_pos rfl]
      rw [lk_any] at h
      cases q : lk kvs j with
      | none => rfl
      | some u => rw [q] at h; exact absurd rfl h
    · rw [if_neg e, if_neg e]
      cases lk kvs k <;> rfl
theorem pt_len (kvs : List (κ × α)) (k : κ) (v : α) : (pt kvs k v).length ≤ kvs.length + 1 := by
  unfold pt
  split
  · rw [List.length_map]; exact Nat.le_succ _
  · rw [List.length_append]; exact Nat.le_refl _
end
section
variable {F : Hp}
theorem RepK.val (k : Key) : ∀ {xs : List (Key × V)} {ds : List (Key × D)}, RepK F xs ds → (lk ds k = none ∧ valV xs k = none) ∨ ∃ v d, lk ds k = some d ∧ valV xs k = some v ∧ Rep F v d
  | _, _, .nil => .inl ⟨rfl, rfl⟩
  | _, _, .cons (k := j) (v := v) (d := d) h r => by
    have e2 : ∀ (rest : List (Key × V)), valV ((j, v) :: rest) k = if j = k then some v else valV rest k := fun rest => by
      unfold valV
      by_cases q : j = k
      · simp [q]
      · simp [q]
    rw [lk_cons, e2]
    by_cases q : j = k
    · rw [if_pos q, if_pos q]; exact .inr ⟨v, d, rfl, rfl, h⟩
    · rw [if_neg q, if_neg q]; exact RepK.val k r
theorem RepK.map {k : Key} {v : V} {d : D} (h : Rep F v d) : ∀ {xs : List (Key × V)} {ds : List (Key × D)}, RepK F xs ds →
    RepK F (xs.map fun kv => if kv.1 = k then (kv.1, v) else kv) (ds.map fun kv => if kv.1 = k then (kv.1, d) else kv)
  | _, _, .nil => .nil
  | _, _, .cons (k := j) q r => by
    rw [List.map_cons, List.map_cons]
    by_cases e : j = k
    · rw [if_pos e, if_pos e]; exact .cons h (RepK.map h r)
    · rw [if_neg e, if_neg e]; exact .cons q (RepK.map h r)
theorem RepK.snoc {k : Key} {v : V} {d : D} (h : Rep F v d) : ∀ {xs : List (Key × V)} {ds : List (Key × D)}, RepK F xs ds → RepK F (xs ++ [(k, v)]) (ds ++ [(k, d)])
  | _, _, .nil => .cons h .nil
  | _, _, .cons q r => .cons q (RepK.snoc h r)
theorem RepK.any {k : Key} : ∀ {xs : List (Key × V)} {ds : List (Key × D)}, RepK F xs ds → (xs.any fun kv => decide (kv.1 = k)) = (ds.any fun kv => decide (kv.1 = k))
  | _, _, .nil => rfl
  | _, _, .cons q r => by rw [List.any_cons, List.any_cons, RepK.any r]
theorem RepK.put {k : Key} {v : V} {d : D} (h : Rep F v d) {xs : List (Key × V)} {ds : List (Key × D)} (r : RepK F xs ds) : RepK F (putK xs k v) (pt ds k d) := by
  unfold putK pt
  rw [RepK.any r]
  split
  · exact RepK.map h r
  · exact RepK.snoc h r
theorem RepF.look {f : Str} : ∀ {xs : List (Str × V)} {ds : List (Str × D)} {d : D}, RepF F xs ds → ds.lookup f = some d → ∃ v, xs.lookup f = some v ∧ Rep F v d
  | _, _, _, .nil, e => by cases e
  | _, _, d0, .cons (k := k) (v := v) (d := d) h r, e => by
    rw [List.lookup_cons] at e ⊢
    cases q : (f == k) with
    | true => rw [q] at e; cases e; exact ⟨v, rfl, h⟩
    | false => rw [q] at e; exact RepF.look r e
theorem RepF.lookN {f : Str} : ∀ {xs : List (Str × V)} {ds : List (Str × D)}, RepF F xs ds → ds.lookup f = none → xs.lookup f = none
  | _, _, .nil, _ => rfl
  | _, _, .cons (k := k) (v := v) (d := d) h r, e => by
    rw [List.lookup_cons] at e ⊢
    cases q : (f == k) with
    | true => rw [q] at e; cases e
    | false => rw [q] at e; exact RepF.lookN r e
def ptF (f : Str) (v : D) : List (Str × D) → List (Str × D)
  | [] => [(f, v)]
  | (g, x) :: r => if g = f then (g, v) :: r else (g, x) :: ptF f v r
theorem RepF.put {f : Str} {v : V} {d : D} (h : Rep F v d) : ∀ {xs : List (Str × V)} {ds : List (Str × D)}, RepF F xs ds → RepF F (putF f v xs) (ptF f d ds)
  | _, _, .nil => .cons h .nil
  | _, _, .cons (k := k) q r => by
    unfold putF ptF
    by_cases e : k = f
    · rw [if_pos e, if_pos e]; exact .cons h r
    · rw [if_neg e, if_neg e]; exact .cons q (RepF.put h r)
end

/-! ### objects that the body owns, slots -/
inductive Ow where
  | lst (ds : List D)
  | dic (kvs : List (Key × D))
  | ins (C : Addr) (fs : List (Str × D))
def Ow.d : Ow → D
  | .lst ds => .lst ds
  | .dic ds => .dic ds
  | .ins C fs => .ins C fs
inductive Sl where
  | no
  | dat (d : D)
  | raw (v : V)
  | bor (o : Ow)
  | own (o : Ow)
  | slf (a : Addr) (o : Ow)
def OwRep (F H : Hp) (a : Addr) : Ow → Prop
  | .lst ds => ∃ xs, H a = some (.lst xs) ∧ Reps F xs ds
  | .dic ds => ∃ kvs, H a = some (.dK kvs) ∧ RepK F kvs ds
  | .ins C ds => ∃ dx fs, H a = some (.ins C dx fs) ∧ RepF F fs ds
theorem OwRep.is {F H : Hp} {a : Addr} {o : Ow} (h : OwRep F H a o) : ∃ u, H a = some u := by
  cases o with
  | lst => obtain ⟨_, e, _⟩ := h; exact ⟨_, e⟩
  | dic => obtain ⟨_, e, _⟩ := h; exact ⟨_, e⟩
  | ins => obtain ⟨_, _, e, _⟩ := h; exact ⟨_, e⟩
theorem OwRep.mono {F H F' H' : Hp} {a : Addr} {o : Ow} (h : OwRep F H a o) (x : Le F F') (e : ∀ u, H a = some u → H' a = some u) : OwRep F' H' a o := by
  cases o with
  | lst => obtain ⟨xs, q, r⟩ := h; exact ⟨xs, e _ q, r.mono x⟩
  | dic => obtain ⟨xs, q, r⟩ := h; exact ⟨xs, e _ q, r.mono x⟩
  | ins => obtain ⟨dx, fs, q, r⟩ := h; exact ⟨dx, fs, e _ q, r.mono x⟩
theorem OwRep.rep {F H F' : Hp} {a : Addr} {o : Ow} (h : OwRep F H a o) (x : Le F F') (e : ∀ u, H a = some u → F' a = some u) : Rep F' (.ref a) o.d := by
  cases o with
  | lst => obtain ⟨xs, q, r⟩ := h; exact .lst (e _ q) (r.mono x)
  | dic => obtain ⟨xs, q, r⟩ := h; exact .dic (e _ q) (r.mono x)
  | ins => obtain ⟨dx, fs, q, r⟩ := h; exact .ins (e _ q) (r.mono x)

/-- what stands around a body: M the addresses that calls may change, J what holds of them, F0 (frozen) and H0 at the entry -/
structure Wd where
  M : Addr → Prop
  J : Hp → Hp → Prop
  st : ∀ {F H F' H' : Hp}, J F H → Le F F' → (∀ a, M a → H' a = H a) → J F' H'
  F0 : Hp
  H0 : Hp
/-- the state is in order -/
structure Sok (W : Wd) (F H : Hp) : Prop where
  le : Le F H
  mf : ∀ a, W.M a → F a = none
  mh : ∀ a, W.M a → H a ≠ none
  j : W.J F H
/-- from (F, H) on to (F', H') -/
structure Gr (W : Wd) (F H F' H' : Hp) : Prop where
  ok : Sok W F' H'
  ff : Le F F'
  nw : ∀ a o, F' a = some o → F a = some o ∨ H a = none
  kp : ∀ a o, H a = some o → ¬ W.M a → H' a = some o
section
variable {W : Wd} {F H F1 H1 F2 H2 : Hp}
theorem Gr.refl (s : Sok W F H) : Gr W F H F H := ⟨s, Le.refl _, fun _ _ e => .inl e, fun _ _ e _ => e⟩
theorem Gr.no (g : Gr W F H F1 H1) {a : Addr} (h : H1 a = none) : H a = none := by
  cases e : H a with
  | none => rfl
  | some o =>
    by_cases m : W.M a
    · exact absurd h (g.ok.mh a m)
    · rw [g.kp a o e m] at h; cases h
theorem Gr.trans (g : Gr W F H F1 H1) (k : Gr W F1 H1 F2 H2) : Gr W F H F2 H2 :=
  ⟨k.ok, g.ff.trans k.ff, fun a o e => (k.nw a o e).elim (fun q => g.nw a o q) fun q => .inr (g.no q), fun a o e m => k.kp a o (g.kp a o e m) m⟩
/-- what the heap holds but the frozen part does not stays so -/
theorem Gr.out (g : Gr W F H F1 H1) {a : Addr} {o : HO} (hf : F a = none) (hh : H a = some o) : F1 a = none := by
  cases e : F1 a with
  | none => rfl
  | some u =>
    rcases g.nw a u e with q | q
    · rw [hf] at q; cases q
    · rw [hh] at q; cases q
/-- a new frozen object -/
theorem Gr.new (s : Sok W F H) {p : Addr} {o : HO} (h : H p = none) : Gr W F H (upd F p o) (upd H p o) := by
  have hf : F p = none := s.le.no h
  have hm : ¬ W.M p := fun m => s.mh p m h
  refine ⟨⟨s.le.both, fun a m => ?_, fun a m => ?_, W.st s.j (Le.new (Le.refl _) hf) fun a m => ?_⟩, Le.new (Le.refl _) hf, fun a u e => ?_, fun a u e _ => ?_⟩
  · rw [upd_ne (fun q => hm (by rw [q] at m; exact m))]; exact s.mf a m
  · rw [upd_ne (fun q => hm (by rw [q] at m; exact m))]; exact s.mh a m
  · rw [upd_ne (fun q => hm (by rw [q] at m; exact m))]
  · by_cases q : a = p
    · subst q; exact .inr h
    · rw [upd_ne q] at e; exact .inl e
  · rw [upd_ne (ne_of_none e h)]; exact e
/-- a new object that is not frozen -/
theorem Gr.newO (s : Sok W F H) {p : Addr} {o : HO} (h : H p = none) : Gr W F H F (upd H p o) := by
  have hf : F p = none := s.le.no h
  have hm : ¬ W.M p := fun m => s.mh p m h
  refine ⟨⟨s.le.new hf, s.mf, fun a m => ?_, W.st s.j (Le.refl _) fun a m => ?_⟩, Le.refl _, fun a u e => .inl e, fun a u e _ => ?_⟩
  · rw [upd_ne (fun q => hm (by rw [q] at m; exact m))]; exact s.mh a m
  · rw [upd_ne (fun q => hm (by rw [q] at m; exact m))]
  · rw [upd_ne (ne_of_none e h)]; exact e
/-- an object that the start did not know is changed -/
theorem Gr.put (s0 : Sok W F H) (g : Gr W F H F1 H1) {p : Addr} {o : HO} (h : H p = none) (hf : F1 p = none) : Gr W F H F1 (upd H1 p o) := by
  have hm : ∀ a, W.M a → a ≠ p := fun a m q => s0.mh a m (by rw [q]; exact h)
  refine ⟨⟨g.ok.le.new hf, g.ok.mf, fun a m => ?_, W.st g.ok.j (Le.refl _) fun a m => ?_⟩, g.ff, g.nw, fun a u e n => ?_⟩
  · rw [upd_ne (hm a m)]; exact g.ok.mh a m
  · rw [upd_ne (hm a m)]
  · rw [upd_ne (ne_of_none e h)]; exact g.kp a u e n
/-- an object that the start did not know is frozen -/
theorem Gr.frz (s0 : Sok W F H) (g : Gr W F H F1 H1) {p : Addr} {o : HO} (h : H p = none) (hf : F1 p = none) (hp : H1 p = some o) : Gr W F H (upd F1 p o) H1 := by
  have hm : ∀ a, W.M a → a ≠ p := fun a m q => s0.mh a m (by rw [q]; exact h)
  refine ⟨⟨g.ok.le.fr hp, fun a m => ?_, g.ok.mh, W.st g.ok.j (Le.new (Le.refl _) hf) fun _ _ => rfl⟩, g.ff.trans (Le.new (Le.refl _) hf), fun a u e => ?_, g.kp⟩
  · rw [upd_ne (hm a m)]; exact g.ok.mf a m
  · by_cases q : a = p
    · subst q; exact .inr h
    · rw [upd_ne q] at e; exact g.nw a u e
end

/-- slot i of σ is as s says -/
def SlE (W : Wd) (F H : Hp) (σ : St) (i : Nat) : Sl → Prop
  | .no => True
  | .dat d => ∃ v, σ[i]? = some (some v) ∧ Rep F v d
  | .raw v => σ[i]? = some (some v)
  | .bor o => ∃ a, σ[i]? = some (some (.ref a)) ∧ ¬ W.M a ∧ OwRep F W.H0 a o
  | .own o => ∃ a, σ[i]? = some (some (.ref a)) ∧ W.H0 a = none ∧ F a = none ∧ OwRep F H a o
  | .slf a o => σ[i]? = some (some (.ref a)) ∧ W.H0 a = none ∧ F a = none ∧ OwRep F H a o
/-- a value that has come up between (F, H) and (F', H') -/
def SlV (W : Wd) (H F' H' : Hp) (v : V) : Sl → Prop
  | .no => True
  | .dat d => Rep F' v d
  | .raw u => v = u
  | .bor o => ∃ a, v = .ref a ∧ ¬ W.M a ∧ OwRep F' H' a o
  | .own o => ∃ a, v = .ref a ∧ H a = none ∧ F' a = none ∧ OwRep F' H' a o
  | .slf a o => v = .ref a ∧ H a = none ∧ F' a = none ∧ OwRep F' H' a o
/-- an object that the body owns, its address told or not -/
def Sl.ow : Sl → Option Ow
  | .own o => some o
  | .slf _ o => some o
  | _ => none
def isOw (Γ : List Sl) (i : Nat) : Prop := ∃ s, Γ[i]? = some s ∧ s.ow ≠ none
theorem SlE.ow {W : Wd} {F H : Hp} {σ : St} {i : Nat} {s : Sl} {o : Ow} (h : SlE W F H σ i s) (e : s.ow = some o) : ∃ a, σ[i]? = some (some (.ref a)) ∧ W.H0 a = none ∧ F a = none ∧ OwRep F H a o := by
  cases s <;> first
    | (cases e; done)
    | (cases e; exact h)
    | (cases e; exact ⟨_, h⟩)
theorem SlV.ow {W : Wd} {H F' H' : Hp} {v : V} {s : Sl} {o : Ow} (h : SlV W H F' H' v s) (e : s.ow = some o) : ∃ a, v = .ref a ∧ H a = none ∧ F' a = none ∧ OwRep F' H' a o := by
  cases s <;> first
    | (cases e; done)
    | (cases e; exact h)
    | (cases e; exact ⟨_, h⟩)

structure Ok (W : Wd) (Γ : List Sl) (σ : St) (F H : Hp) : Prop where
  s0 : Sok W W.F0 W.H0
  g : Gr W W.F0 W.H0 F H
  len : σ.length = Γ.length
  sl : ∀ i s, Γ[i]? = some s → SlE W F H σ i s
  ap : ∀ i j a, isOw Γ i → isOw Γ j → σ[i]? = some (some (.ref a)) → σ[j]? = some (some (.ref a)) → i = j
theorem SlE.at {W : Wd} {F H : Hp} {σ σ' : St} {i : Nat} {s : Sl} (h : SlE W F H σ i s) (e : σ'[i]? = σ[i]?) : SlE W F H σ' i s := by
  cases s with
  | no => trivial
  | dat d => obtain ⟨u, e1, r⟩ := h; exact ⟨u, e.trans e1, r⟩
  | raw u => exact e.trans h
  | bor o => obtain ⟨a, e1, m, r⟩ := h; exact ⟨a, e.trans e1, m, r⟩
  | own o => obtain ⟨a, e1, r⟩ := h; exact ⟨a, e.trans e1, r⟩
  | slf a o => obtain ⟨e1, r⟩ := h; exact ⟨e.trans e1, r⟩
/-- a slot whose object is not a: what holds still, H changed at a alone -/
theorem SlE.put {W : Wd} {F F' H H' : Hp} {σ : St} {i : Nat} {s : Sl} (h : SlE W F H σ i s) (le : Le F F') (n : ∀ b, s.ow ≠ none → σ[i]? = some (some (.ref b)) → (F b = none → F' b = none) ∧ ∀ u, H b = some u → H' b = some u) : SlE W F' H' σ i s := by
  cases s with
  | no => trivial
  | dat d => obtain ⟨u, e1, r⟩ := h; exact ⟨u, e1, r.mono le⟩
  | raw u => exact h
  | bor o => obtain ⟨a, e1, m, r⟩ := h; exact ⟨a, e1, m, r.mono le fun _ z => z⟩
  | own o => obtain ⟨a, e1, h0, f0, r⟩ := h; exact ⟨a, e1, h0, (n a (fun z => nomatch z) e1).1 f0, r.mono le (n a (fun z => nomatch z) e1).2⟩
  | slf a o => obtain ⟨e1, h0, f0, r⟩ := h; exact ⟨e1, h0, (n a (fun z => nomatch z) e1).1 f0, r.mono le (n a (fun z => nomatch z) e1).2⟩
section
variable {W : Wd} {Γ : List Sl} {σ : St} {F H F' H' : Hp}
/-- the frozen part and the heap go on -/
theorem Ok.gr (k : Ok W Γ σ F H) (g : Gr W F H F' H') : Ok W Γ σ F' H' := by
  refine ⟨k.s0, k.g.trans g, k.len, fun i s e => (k.sl i s e).put g.ff fun b hb eb => ?_, k.ap⟩
  obtain ⟨o, ho⟩ : ∃ o, s.ow = some o := by
    cases q : s.ow with
    | none => exact absurd q hb
    | some o => exact ⟨o, rfl⟩
  obtain ⟨a, e1, h0, f0, r⟩ := (k.sl i s e).ow ho
  rw [eb] at e1
  cases e1
  obtain ⟨u, hu⟩ := r.is
  exact ⟨fun _ => g.out f0 hu, fun u z => g.kp b u z fun m => k.s0.mh b m h0⟩
/-- a slot is given a value that has come up -/
theorem Ok.set {Fb Hb : Hp} (k : Ok W Γ σ Fb Hb) (g : Gr W Fb Hb F H) {v : V} {s : Sl} (hv : SlV W Hb F H v s) (hb : ∀ o, s ≠ .bor o) (i : Nat) : Ok W (Γ.set i s) (σ.set i (some v)) F H := by
  have k1 := k.gr g
  refine ⟨k.s0, k1.g, by rw [List.length_set, List.length_set]; exact k.len, fun j t e => ?_, fun j l a hj hl ej el => ?_⟩
  · by_cases q : i = j
    · subst q
      have hi : i < Γ.length := by
        have := (List.getElem?_eq_some_iff.mp e).1
        simpa using this
      rw [List.getElem?_set_self hi] at e
      cases e
      have hs : (σ.set i (some v))[i]? = some (some v) := List.getElem?_set_self (by rw [k.len]; exact hi)
      cases s with
      | no => trivial
      | dat d => exact ⟨v, hs, hv⟩
      | raw u => cases hv; exact hs
      | bor o => exact absurd rfl (hb o)
      | own o =>
        obtain ⟨a, rfl, h1, h2, r⟩ := hv
        exact ⟨a, hs, k.g.no h1, h2, r⟩
      | slf a o =>
        obtain ⟨rfl, h1, h2, r⟩ := hv
        exact ⟨hs, k.g.no h1, h2, r⟩
    · rw [List.getElem?_set_ne q] at e
      exact (k1.sl j t e).at (List.getElem?_set_ne q)
  · -- two slots with one object
    have key : ∀ j, i ≠ j → isOw (Γ.set i s) j → (σ.set i (some v))[j]? = some (some (.ref a)) → (isOw (Γ.set i s) i) → v ≠ .ref a := by
      rintro j nij ⟨t, ht, to⟩ ej ⟨t', ht', to'⟩ ev
      rw [List.getElem?_set_ne nij] at ht ej
      have hi : i < Γ.length := by
        have := (List.getElem?_eq_some_iff.mp ht').1
        simpa using this
      rw [List.getElem?_set_self hi] at ht'
      cases ht'
      obtain ⟨o', ho'⟩ := Option.ne_none_iff_exists'.mp to'
      obtain ⟨o, ho⟩ := Option.ne_none_iff_exists'.mp to
      obtain ⟨b, hb1, hb2, _⟩ := hv.ow ho'
      rw [ev] at hb1
      cases hb1
      obtain ⟨c, e1, _, _, r⟩ := (k.sl j _ ht).ow ho
      rw [ej] at e1
      cases e1
      obtain ⟨u, hu⟩ := r.is
      rw [hb2] at hu
      cases hu
    by_cases q1 : i = j
    · by_cases q2 : i = l
      · exact q1.symm.trans q2
      · subst q1
        have hi : i < σ.length := by
          have := (List.getElem?_eq_some_iff.mp ej).1
          simpa using this
        rw [List.getElem?_set_self hi] at ej
        cases ej
        exact absurd rfl (key l q2 hl el hj)
    · by_cases q2 : i = l
      · subst q2
        have hi : i < σ.length := by
          have := (List.getElem?_eq_some_iff.mp el).1
          simpa using this
        rw [List.getElem?_set_self hi] at el
        cases el
        exact absurd rfl (key j q1 hj ej hl)
      · obtain ⟨o, ho, h1⟩ := hj
        obtain ⟨o', ho', h2⟩ := hl
        rw [List.getElem?_set_ne q1] at ho ej
        rw [List.getElem?_set_ne q2] at ho' el
        exact k.ap j l a ⟨o, ho, h1⟩ ⟨o', ho', h2⟩ ej el
/-- slots forgotten -/
theorem Ok.weak {Γ' : List Sl} (k : Ok W Γ σ F H) (hl : Γ'.length = Γ.length) (h : ∀ (i : Nat) (s : Sl), Γ'[i]? = some s → s = Sl.no ∨ Γ[i]? = some s) : Ok W Γ' σ F H := by
  refine ⟨k.s0, k.g, k.len.trans hl.symm, fun i s e => ?_, fun i j a ⟨o, ho, h1⟩ ⟨o', ho', h2⟩ e1 e2 => ?_⟩
  · rcases h i s e with q | q
    · subst q; trivial
    · exact k.sl i s q
  · rcases h i _ ho with q | q
    · subst q; exact absurd rfl h1
    · rcases h j _ ho' with q' | q'
      · subst q'; exact absurd rfl h2
      · exact k.ap i j a ⟨o, q, h1⟩ ⟨o', q', h2⟩ e1 e2
/-- the object of an own slot is changed -/
theorem Ok.putS (k : Ok W Γ σ F H) {i : Nat} {s s' : Sl} {o o' : Ow} {a : Addr} {u : HO} (hi : Γ[i]? = some s) (ho : s.ow = some o) (hs : s' = .own o' ∨ s' = .slf a o') (ha : σ[i]? = some (some (.ref a))) (hr : OwRep F (upd H a u) a o') : Ok W (Γ.set i s') σ F (upd H a u) := by
  obtain ⟨b, e1, h0, f0, r⟩ := (k.sl i _ hi).ow ho
  rw [ha] at e1
  cases e1
  have hil : i < Γ.length := (List.getElem?_eq_some_iff.mp hi).1
  have isw : isOw Γ i := ⟨s, hi, by rw [ho]; exact fun z => nomatch z⟩
  refine ⟨k.s0, k.g.put k.s0 h0 f0, by rw [List.length_set]; exact k.len, fun j t e => ?_, fun j l b hj hl ej el => ?_⟩
  · by_cases q : i = j
    · subst q
      rw [List.getElem?_set_self hil] at e
      cases e
      rcases hs with z | z
      · subst z; exact ⟨a, ha, h0, f0, hr⟩
      · subst z; exact ⟨ha, h0, f0, hr⟩
    · rw [List.getElem?_set_ne q] at e
      refine (k.sl j t e).put (Le.refl _) fun c hc ec => ⟨id, fun v hv => ?_⟩
      have nc : c ≠ a := fun w => q (k.ap i j a isw ⟨t, e, hc⟩ ha (by rw [← w]; exact ec))
      rw [upd_ne nc]
      exact hv
  · have back : ∀ j, isOw (Γ.set i s') j → isOw Γ j := by
      rintro j ⟨t, h2, h3⟩
      by_cases q : i = j
      · subst q; exact isw
      · rw [List.getElem?_set_ne q] at h2; exact ⟨t, h2, h3⟩
    exact k.ap j l b (back j hj) (back l hl) ej el
theorem Ok.put (k : Ok W Γ σ F H) {i : Nat} {o o' : Ow} {a : Addr} {u : HO} (hi : Γ[i]? = some (.own o)) (ha : σ[i]? = some (some (.ref a))) (hr : OwRep F (upd H a u) a o') : Ok W (Γ.set i (.own o')) σ F (upd H a u) := k.putS hi rfl (.inl rfl) ha hr
theorem Ok.putA (k : Ok W Γ σ F H) {i : Nat} {o o' : Ow} {a : Addr} {u : HO} (hi : Γ[i]? = some (.slf a o)) (hr : OwRep F (upd H a u) a o') : Ok W (Γ.set i (.slf a o')) σ F (upd H a u) := k.putS hi rfl (.inr rfl) (k.sl i _ hi).1 hr
/-- an own object is frozen -/
theorem Ok.frzS (k : Ok W Γ σ F H) {i : Nat} {s : Sl} {o : Ow} (hi : Γ[i]? = some s) (ho : s.ow = some o) : ∃ F', Ok W (Γ.set i (.dat o.d)) σ F' H ∧ Le F F' ∧ ∃ a, σ[i]? = some (some (.ref a)) ∧ ∀ u, H a = some u → F' = upd F a u := by
  obtain ⟨a, ha, h0, f0, r⟩ := (k.sl i _ hi).ow ho
  obtain ⟨u, hu⟩ := r.is
  have hil : i < Γ.length := (List.getElem?_eq_some_iff.mp hi).1
  have isw : isOw Γ i := ⟨s, hi, by rw [ho]; exact fun z => nomatch z⟩
  have le : Le F (upd F a u) := Le.new (Le.refl _) f0
  refine ⟨upd F a u, ⟨k.s0, k.g.frz k.s0 h0 f0 hu, by rw [List.length_set]; exact k.len, fun j t e => ?_, fun j l b hj hl ej el => ?_⟩, le, a, ha, fun u' e => by rw [hu] at e; cases e; rfl⟩
  · by_cases q : i = j
    · subst q
      rw [List.getElem?_set_self hil] at e
      cases e
      refine ⟨.ref a, ha, r.rep le fun u' z => ?_⟩
      rw [hu] at z
      cases z
      exact upd_same
    · rw [List.getElem?_set_ne q] at e
      refine (k.sl j t e).put le fun c hc ec => ⟨fun z => ?_, fun v hv => hv⟩
      have nc : c ≠ a := fun w => q (k.ap i j a isw ⟨t, e, hc⟩ ha (by rw [← w]; exact ec))
      rw [upd_ne nc]
      exact z
  · have back : ∀ j, isOw (Γ.set i (.dat o.d)) j → i ≠ j ∧ isOw Γ j := by
      rintro j ⟨t, h2, h3⟩
      by_cases q : i = j
      · subst q
        rw [List.getElem?_set_self hil] at h2
        cases h2
        exact absurd rfl h3
      · rw [List.getElem?_set_ne q] at h2; exact ⟨q, t, h2, h3⟩
    exact k.ap j l b (back j hj).2 (back l hl).2 ej el
theorem Ok.frz (k : Ok W Γ σ F H) {i : Nat} {o : Ow} (hi : Γ[i]? = some (.own o)) : ∃ F', Ok W (Γ.set i (.dat o.d)) σ F' H ∧ Le F F' :=
  let ⟨F', a, b, _⟩ := k.frzS hi rfl
  ⟨F', a, b⟩
end
end Dn
/-! Den2: what a reading comes to, told by abstract slots: expressions, arguments, tests, operators, calls of built-ins. -/
namespace Dn
open PySem L2

/-- te comes to the slot s -/
def EvE (W : Wd) (te : TE) (Γ : List Sl) (s : Sl) : Prop := ∀ σ F H, Ok W Γ σ F H → ∀ Q : VK, (∀ v F' H', Gr W F H F' H' → SlV W H F' H' v s → Q v H') → te σ H Q
/-- te comes to one of the slots R -/
def Ev (W : Wd) (te : TE) (Γ : List Sl) (R : Sl → Prop) : Prop := ∀ σ F H, Ok W Γ σ F H → ∀ Q : VK, (∀ v F' H' s, Gr W F H F' H' → R s → SlV W H F' H' v s → Q v H') → te σ H Q
inductive SlVs (W : Wd) (H F' H' : Hp) : List V → List Sl → Prop
  | nil : SlVs W H F' H' [] []
  | cons {v : V} {vs : List V} {s : Sl} {ss : List Sl} : SlV W H F' H' v s → SlVs W H F' H' vs ss → SlVs W H F' H' (v :: vs) (s :: ss)
def EvAE (W : Wd) (ta : TA) (Γ : List Sl) (ss : List Sl) : Prop := ∀ σ F H, Ok W Γ σ F H → ∀ Q : List V → Hp → Prop, (∀ vs F' H', Gr W F H F' H' → SlVs W H F' H' vs ss → Q vs H') → ta σ H Q
def EvA (W : Wd) (ta : TA) (Γ : List Sl) (R : List Sl → Prop) : Prop := ∀ σ F H, Ok W Γ σ F H → ∀ Q : List V → Hp → Prop, (∀ vs F' H' ss, Gr W F H F' H' → R ss → SlVs W H F' H' vs ss → Q vs H') → ta σ H Q
def EvT (W : Wd) (tt : TT) (Γ : List Sl) (B : Bool → Prop) : Prop := ∀ σ F H, Ok W Γ σ F H → ∀ Q : Bool → Hp → Prop, (∀ b F' H', Gr W F H F' H' → B b → Q b H') → tt σ H Q
def EvTE (W : Wd) (tt : TT) (Γ : List Sl) (b : Bool) : Prop := ∀ σ F H, Ok W Γ σ F H → ∀ Q : Bool → Hp → Prop, (∀ F' H', Gr W F H F' H' → Q b H') → tt σ H Q
/-- operators, calls by values -/
def OpE (W : Wd) (r : R2) (a b s : Sl) : Prop := ∀ Hb F H x y, Sok W F H → SlV W Hb F H x a → SlV W Hb F H y b → ∀ Q : VK, (∀ v F' H', Gr W F H F' H' → SlV W H F' H' v s → Q v H') → r x y H Q
def UnE (W : Wd) (r : V → Hp → VK → Prop) (a s : Sl) : Prop := ∀ Hb F H x, Sok W F H → SlV W Hb F H x a → ∀ Q : VK, (∀ v F' H', Gr W F H F' H' → SlV W H F' H' v s → Q v H') → r x H Q
def CbE (W : Wd) (r : List V → Hp → VK → Prop) (ss : List Sl) (R : Sl → Prop) : Prop := ∀ Hb F H vs, Sok W F H → SlVs W Hb F H vs ss → ∀ Q : VK, (∀ v F' H' s, Gr W F H F' H' → R s → SlV W H F' H' v s → Q v H') → r vs H Q

section
variable {W : Wd} {Γ : List Sl} {σ : St} {F H F1 H1 F' H' : Hp} {ta tb te : TE} {a b s : Sl} {v : V}
theorem Ok.ok (k : Ok W Γ σ F H) : Sok W F H := k.g.ok
/-- a value that has come up stays what it is -/
theorem SlV.gr {Hb : Hp} (h : SlV W Hb F H v s) (s0 : ∀ a, W.M a → Hb a ≠ none) (g : Gr W F H F1 H1) : SlV W Hb F1 H1 v s := by
  cases s with
  | no => trivial
  | dat d => exact Rep.mono g.ff h
  | raw u => exact h
  | bor o => obtain ⟨a, e, m, r⟩ := h; exact ⟨a, e, m, r.mono g.ff fun u z => g.kp a u z m⟩
  | own o =>
    obtain ⟨a, e, h0, f0, r⟩ := h
    obtain ⟨u, hu⟩ := r.is
    have m : ¬ W.M a := fun m => s0 a m h0
    exact ⟨a, e, h0, g.out f0 hu, r.mono g.ff fun u z => g.kp a u z m⟩
  | slf a o =>
    obtain ⟨e, h0, f0, r⟩ := h
    obtain ⟨u, hu⟩ := r.is
    have m : ¬ W.M a := fun m => s0 a m h0
    exact ⟨e, h0, g.out f0 hu, r.mono g.ff fun u z => g.kp a u z m⟩
theorem SlV.back {Hb : Hp} (h : SlV W H F1 H1 v s) (g : ∀ a, H a = none → Hb a = none) : SlV W Hb F1 H1 v s := by
  cases s with
  | no => trivial
  | dat d => exact h
  | raw u => exact h
  | bor o => exact h
  | own o => obtain ⟨a, e, h0, r⟩ := h; exact ⟨a, e, g a h0, r⟩
  | slf a o => obtain ⟨e, h0, r⟩ := h; exact ⟨e, g a h0, r⟩
theorem SlVs.gr {Hb : Hp} (s0 : ∀ a, W.M a → Hb a ≠ none) (g : Gr W F H F1 H1) : ∀ {vs : List V} {ss : List Sl}, SlVs W Hb F H vs ss → SlVs W Hb F1 H1 vs ss
  | _, _, .nil => .nil
  | _, _, .cons h r => .cons (h.gr s0 g) (SlVs.gr s0 g r)
theorem SlVs.back {Hb : Hp} (g : ∀ a, H a = none → Hb a = none) : ∀ {vs : List V} {ss : List Sl}, SlVs W H F1 H1 vs ss → SlVs W Hb F1 H1 vs ss
  | _, _, .nil => .nil
  | _, _, .cons h r => .cons (h.back g) (SlVs.back g r)
theorem SlVs.length : ∀ {vs : List V} {ss : List Sl}, SlVs W H F1 H1 vs ss → vs.length = ss.length
  | _, _, .nil => rfl
  | _, _, .cons _ r => congrArg Nat.succ (SlVs.length r)
theorem SlVs.get : ∀ {vs : List V} {ss : List Sl} {i : Nat} {s : Sl}, SlVs W H F1 H1 vs ss → ss[i]? = some s → ∃ v, vs[i]? = some v ∧ SlV W H F1 H1 v s
  | _, _, 0, _, .cons h _, e => by cases e; exact ⟨_, rfl, h⟩
  | _, _, i + 1, s, .cons _ r, e => SlVs.get (i := i) (s := s) r e
theorem SlVs.reps : ∀ {vs : List V} {ds : List D}, SlVs W H F1 H1 vs (ds.map Sl.dat) → Reps F1 vs ds
  | _, [], .nil => .nil
  | _, _ :: _, .cons h r => .cons h (SlVs.reps r)

theorem EvE.ev {R : Sl → Prop} (h : EvE W te Γ s) (hr : R s) : Ev W te Γ R := fun σ F H k Q q => h σ F H k Q fun v F' H' g z => q v F' H' s g hr z
theorem Ev.imp {R R' : Sl → Prop} (h : Ev W te Γ R) (hr : ∀ s, R s → R' s) : Ev W te Γ R' := fun σ F H k Q q => h σ F H k Q fun v F' H' s g z => q v F' H' s g (hr s z)
theorem EvTE.ev {tt : TT} {b : Bool} {B : Bool → Prop} (h : EvTE W tt Γ b) (hb : B b) : EvT W tt Γ B := fun σ F H k Q q => h σ F H k Q fun F' H' g => q b F' H' g hb
theorem EvAE.ev {ta : TA} {ss : List Sl} {R : List Sl → Prop} (h : EvAE W ta Γ ss) (hr : R ss) : EvA W ta Γ R := fun σ F H k Q q => h σ F H k Q fun v F' H' g z => q v F' H' ss g hr z
theorem EvE.to {s' : Sl} (h : EvE W te Γ s) (e : s = s') : EvE W te Γ s' := e ▸ h
theorem EvTE.to {tt : TT} {b b' : Bool} (h : EvTE W tt Γ b) (e : b = b') : EvTE W tt Γ b' := e ▸ h

/-! ### names, constants -/
theorem ev_var {i : Nat} {d : D} (h : Γ[i]? = some (.dat d)) : EvE W (tVar i) Γ (.dat d) := fun σ F H k Q q => by
  obtain ⟨v, e, r⟩ := k.sl i _ h
  exact ⟨v, e, q v F H (.refl k.ok) r⟩
theorem ev_raw {i : Nat} {v : V} (h : Γ[i]? = some (.raw v)) : EvE W (tVar i) Γ (.raw v) := fun σ F H k Q q => ⟨v, k.sl i _ h, q v F H (.refl k.ok) rfl⟩
theorem ev_own {i : Nat} {o : Ow} (h : Γ[i]? = some (.own o)) : EvE W (tVar i) Γ (.bor o) := fun σ F H k Q q => by
  obtain ⟨a, e, h0, f0, r⟩ := k.sl i _ h
  exact ⟨.ref a, e, q _ F H (.refl k.ok) ⟨a, rfl, fun m => k.s0.mh a m h0, r⟩⟩
/-- an object whose address is told, as a value -/
theorem ev_slf {i : Nat} {a : Addr} {o : Ow} (h : Γ[i]? = some (.slf a o)) : EvE W (tVar i) Γ (.raw (.ref a)) := fun σ F H k Q q => ⟨.ref a, (k.sl i _ h).1, q _ F H (.refl k.ok) rfl⟩
theorem ev_bor {i : Nat} {o : Ow} (h : Γ[i]? = some (.bor o)) : EvE W (tVar i) Γ (.bor o) := fun σ F H k Q q => by
  obtain ⟨a, e, m, r⟩ := k.sl i _ h
  exact ⟨.ref a, e, q _ F H (.refl k.ok) ⟨a, rfl, m, r.mono (Le.refl _) fun u z => k.g.kp a u z m⟩⟩
theorem ev_int {i : Int} : EvE W (tC (.int i)) Γ (.dat (.int i)) := fun σ F H k Q q => q _ F H (.refl k.ok) (.int i)
theorem ev_bl {i : Bool} : EvE W (tC (.bl i)) Γ (.dat (.bl i)) := fun σ F H k Q q => q _ F H (.refl k.ok) (.bl i)
theorem ev_str {i : Str} : EvE W (tC (.str i)) Γ (.dat (.str i)) := fun σ F H k Q q => q _ F H (.refl k.ok) (.str i)
theorem ev_non : EvE W (tC .non) Γ (.dat .non) := fun σ F H k Q q => q _ F H (.refl k.ok) .non
theorem ev_c {v : V} : EvE W (tC v) Γ (.raw v) := fun σ F H k Q q => q _ F H (.refl k.ok) rfl
/-- data, a new object: to be read -/
theorem ev_dat_bor {o : Ow} (h : EvE W te Γ (.dat o.d)) : EvE W te Γ (.bor o) := fun σ F H k Q q => h σ F H k Q fun v F' H' g z => q v F' H' g (by
  have z : Rep F' v o.d := z
  have nm : ∀ a u, F' a = some u → ¬ W.M a := fun a u e m => by rw [g.ok.mf a m] at e; cases e
  cases o with
  | lst ds => cases z with
    | lst e r => exact ⟨_, rfl, nm _ _ e, _, g.ok.le _ _ e, r⟩
  | dic ds => cases z with
    | dic e r => exact ⟨_, rfl, nm _ _ e, _, g.ok.le _ _ e, r⟩
  | ins C ds => cases z with
    | ins e r => exact ⟨_, rfl, nm _ _ e, _, _, g.ok.le _ _ e, r⟩)
theorem ev_own_bor {o : Ow} (h : EvE W te Γ (.own o)) : EvE W te Γ (.bor o) := fun σ F H k Q q => h σ F H k Q fun v F' H' g ⟨a, e, h0, f0, r⟩ => q v F' H' g ⟨a, e, fun m => k.ok.mh a m h0, r⟩
/-- a new object is frozen -/
theorem own_dat {o : Ow} (s0 : Sok W F H) (g : Gr W F H F' H') (h : SlV W H F' H' v (.own o)) : ∃ F2, Gr W F H F2 H' ∧ SlV W H F2 H' v (.dat o.d) := by
  obtain ⟨a, rfl, h0, f0, r⟩ := h
  obtain ⟨u, hu⟩ := r.is
  refine ⟨upd F' a u, g.frz s0 h0 f0 hu, r.rep (Le.new (Le.refl _) f0) fun u' z => ?_⟩
  rw [hu] at z
  cases z
  exact upd_same
theorem ev_own_dat {o : Ow} (h : EvE W te Γ (.own o)) : EvE W te Γ (.dat o.d) := fun σ F H k Q q => h σ F H k Q fun v F' H' g z => by
  obtain ⟨F2, g2, z2⟩ := own_dat k.ok g z
  exact q v F2 H' g2 z2
theorem ev_fz {d : D} {o : Ow} (h : EvE W te Γ (.own o)) (e : o.d = d) : EvE W te Γ (.dat d) := by subst e; exact ev_own_dat h
theorem Ev.fz {R R' : Sl → Prop} (h : Ev W te Γ R) (hr : ∀ s, R s → R' s ∨ ∃ o, s = .own o ∧ R' (.dat o.d)) : Ev W te Γ R' := fun σ F H k Q q => h σ F H k Q fun v F' H' s g z w => by
  rcases hr s z with r | ⟨o, rfl, r⟩
  · exact q v F' H' s g r w
  · obtain ⟨F2, g2, z2⟩ := own_dat k.ok g w
    exact q v F2 H' _ g2 r z2

/-! ### two in a row -/
theorem ev_op {r : R2} (ha : EvE W ta Γ a) (hb : EvE W tb Γ b) (hr : OpE W r a b s) : EvE W (tOp r ta tb) Γ s := fun σ F H k Q q =>
  ha σ F H k _ fun x F1 H1 g1 z1 => hb σ F1 H1 (k.gr g1) _ fun y F2 H2 g2 z2 =>
    hr H F2 H2 x y g2.ok (z1.gr k.ok.mh g2) (z2.back fun a => g1.no) Q fun v F3 H3 g3 z3 => q v F3 H3 ((g1.trans g2).trans g3) (z3.back fun a e => (g1.trans g2).no e)
theorem ev_opR {r : R2} {A B R : Sl → Prop} (ha : Ev W ta Γ A) (hb : Ev W tb Γ B) (hr : ∀ a b, A a → B b → ∃ s, R s ∧ OpE W r a b s) : Ev W (tOp r ta tb) Γ R := fun σ F H k Q q =>
  ha σ F H k _ fun x F1 H1 s1 g1 w1 z1 => hb σ F1 H1 (k.gr g1) _ fun y F2 H2 s2 g2 w2 z2 => by
    obtain ⟨s, hs, h⟩ := hr s1 s2 w1 w2
    exact h H F2 H2 x y g2.ok (z1.gr k.ok.mh g2) (z2.back fun a => g1.no) Q fun v F3 H3 g3 z3 => q v F3 H3 s ((g1.trans g2).trans g3) hs (z3.back fun a e => (g1.trans g2).no e)
theorem ev_un {r : V → Hp → VK → Prop} (ha : EvE W ta Γ a) (hr : UnE W r a s) : EvE W (tUn r ta) Γ s := fun σ F H k Q q =>
  ha σ F H k _ fun x F1 H1 g1 z1 => hr H F1 H1 x g1.ok z1 Q fun v F3 H3 g3 z3 => q v F3 H3 (g1.trans g3) (z3.back fun a e => g1.no e)
theorem ev_unR {r : V → Hp → VK → Prop} {A R : Sl → Prop} (ha : Ev W ta Γ A) (hr : ∀ a, A a → ∃ s, R s ∧ UnE W r a s) : Ev W (tUn r ta) Γ R := fun σ F H k Q q =>
  ha σ F H k _ fun x F1 H1 s1 g1 w1 z1 => by
    obtain ⟨s, hs, h⟩ := hr s1 w1
    exact h H F1 H1 x g1.ok z1 Q fun v F3 H3 g3 z3 => q v F3 H3 s (g1.trans g3) hs (z3.back fun a e => g1.no e)

/-! ### arguments -/
theorem ea_nil : EvAE W tNil Γ [] := fun σ F H k Q q => q [] F H (.refl k.ok) .nil
theorem ea_cons {tr : TA} {ss : List Sl} (h : EvE W te Γ s) (hr : EvAE W tr Γ ss) : EvAE W (tCons te tr) Γ (s :: ss) := fun σ F H k Q q =>
  h σ F H k _ fun x F1 H1 g1 z1 => hr σ F1 H1 (k.gr g1) _ fun y F2 H2 g2 z2 => q (x :: y) F2 H2 (g1.trans g2) (.cons (z1.gr k.ok.mh g2) (SlVs.back (fun a => g1.no) z2))
theorem eaR_nil {R : List Sl → Prop} (h : R []) : EvA W tNil Γ R := fun σ F H k Q q => q [] F H [] (.refl k.ok) h .nil
theorem eaR_cons {tr : TA} {A : Sl → Prop} {B R : List Sl → Prop} (h : Ev W te Γ A) (hr : EvA W tr Γ B) (hR : ∀ s ss, A s → B ss → R (s :: ss)) : EvA W (tCons te tr) Γ R := fun σ F H k Q q =>
  h σ F H k _ fun x F1 H1 s1 g1 w1 z1 => hr σ F1 H1 (k.gr g1) _ fun y F2 H2 s2 g2 w2 z2 => q (x :: y) F2 H2 (s1 :: s2) (g1.trans g2) (hR s1 s2 w1 w2) (.cons (z1.gr k.ok.mh g2) (SlVs.back (fun a => g1.no) z2))

/-! ### tests -/
theorem et_B {b : Bool} (h : EvE W te Γ (.dat (.bl b))) : EvTE W (tB te) Γ b := fun σ F H k Q q => h σ F H k _ fun v F1 H1 g z => by
  cases (show Rep F1 v (.bl b) from z)
  exact ⟨b, rfl, q F1 H1 g⟩
theorem et_test {b : Bool} (h : EvE W te Γ (.dat (.bl b))) : EvTE W (tTest te) Γ b := fun σ F H k Q q => h σ F H k _ fun v F1 H1 g z => by
  cases (show Rep F1 v (.bl b) from z)
  exact ⟨b, rfl, q F1 H1 g⟩
theorem et_testR {R : Sl → Prop} {B : Bool → Prop} (h : Ev W te Γ R) (hr : ∀ s, R s → ∃ b, s = .dat (.bl b) ∧ B b) : EvT W (tTest te) Γ B := fun σ F H k Q q => h σ F H k _ fun v F1 H1 s g w z => by
  obtain ⟨b, rfl, hb⟩ := hr s w
  cases (show Rep F1 v (.bl b) from z)
  exact ⟨b, rfl, q b F1 H1 g hb⟩
theorem et_BR {R : Sl → Prop} {B : Bool → Prop} (h : Ev W te Γ R) (hr : ∀ s, R s → ∃ b, s = .dat (.bl b) ∧ B b) : EvT W (tB te) Γ B := fun σ F H k Q q => h σ F H k _ fun v F1 H1 s g w z => by
  obtain ⟨b, rfl, hb⟩ := hr s w
  cases (show Rep F1 v (.bl b) from z)
  exact ⟨b, rfl, q b F1 H1 g hb⟩
theorem et_not {t : TT} {b : Bool} (h : EvTE W t Γ b) : EvTE W (tNot t) Γ (!b) := fun σ F H k Q q => h σ F H k _ fun F1 H1 g => q F1 H1 g
theorem et_and {t u : TT} {b c : Bool} (h : EvTE W t Γ b) (h2 : b = true → EvTE W u Γ c) : EvTE W (tAnd t u) Γ (b && c) := fun σ F H k Q q => h σ F H k _ fun F1 H1 g => by
  cases b with
  | true =>
    rw [if_pos rfl]
    exact h2 rfl σ F1 H1 (k.gr g) Q fun F2 H2 g2 => q F2 H2 (g.trans g2)
  | false => exact q F1 H1 g
theorem et_or {t u : TT} {b c : Bool} (h : EvTE W t Γ b) (h2 : b = false → EvTE W u Γ c) : EvTE W (tOr t u) Γ (b || c) := fun σ F H k Q q => h σ F H k _ fun F1 H1 g => by
  cases b with
  | true => exact q F1 H1 g
  | false =>
    rw [if_neg Bool.false_ne_true]
    exact h2 rfl σ F1 H1 (k.gr g) Q fun F2 H2 g2 => q F2 H2 (g.trans g2)
/-! .. as values -/
theorem ev_andV {b c : Bool} (h : EvE W ta Γ (.dat (.bl b))) (h2 : b = true → EvE W tb Γ (.dat (.bl c))) : EvE W (tAndV ta tb) Γ (.dat (.bl (b && c))) := fun σ F H k Q q => h σ F H k _ fun v F1 H1 g z => by
  cases (show Rep F1 v (.bl b) from z)
  refine ⟨b, rfl, ?_⟩
  cases b with
  | true =>
    rw [if_pos rfl]
    exact h2 rfl σ F1 H1 (k.gr g) Q fun v F2 H2 g2 z2 => q v F2 H2 (g.trans g2) z2
  | false => exact q _ F1 H1 g (.bl false)
theorem ev_orV {b c : Bool} (h : EvE W ta Γ (.dat (.bl b))) (h2 : b = false → EvE W tb Γ (.dat (.bl c))) : EvE W (tOrV ta tb) Γ (.dat (.bl (b || c))) := fun σ F H k Q q => h σ F H k _ fun v F1 H1 g z => by
  cases (show Rep F1 v (.bl b) from z)
  refine ⟨b, rfl, ?_⟩
  cases b with
  | true => exact q _ F1 H1 g (.bl true)
  | false =>
    rw [if_neg Bool.false_ne_true]
    exact h2 rfl σ F1 H1 (k.gr g) Q fun v F2 H2 g2 z2 => q v F2 H2 (g.trans g2) z2
theorem ev_notV {b : Bool} (h : EvE W ta Γ (.dat (.bl b))) : EvE W (tNotV ta) Γ (.dat (.bl (!b))) := fun σ F H k Q q => h σ F H k _ fun v F1 H1 g z => by
  cases (show Rep F1 v (.bl b) from z)
  exact ⟨b, rfl, q _ F1 H1 g (.bl _)⟩
theorem ev_if {t : TT} {b : Bool} (h : EvTE W t Γ b) (h1 : b = true → EvE W ta Γ s) (h2 : b = false → EvE W tb Γ s) : EvE W (tIf t ta tb) Γ s := fun σ F H k Q q => h σ F H k _ fun F1 H1 g => by
  cases b with
  | true =>
    rw [if_pos rfl]
    exact h1 rfl σ F1 H1 (k.gr g) Q fun v F2 H2 g2 z => q v F2 H2 (g.trans g2) (z.back fun a => g.no)
  | false =>
    rw [if_neg Bool.false_ne_true]
    exact h2 rfl σ F1 H1 (k.gr g) Q fun v F2 H2 g2 z => q v F2 H2 (g.trans g2) (z.back fun a => g.no)
theorem ev_ifR {t : TT} {B : Bool → Prop} {R : Sl → Prop} (h : EvT W t Γ B) (h1 : B true → Ev W ta Γ R) (h2 : B false → Ev W tb Γ R) : Ev W (tIf t ta tb) Γ R := fun σ F H k Q q => h σ F H k _ fun b F1 H1 g hb => by
  cases b with
  | true =>
    rw [if_pos rfl]
    exact h1 hb σ F1 H1 (k.gr g) Q fun v F2 H2 s g2 w z => q v F2 H2 s (g.trans g2) w (z.back fun a => g.no)
  | false =>
    rw [if_neg Bool.false_ne_true]
    exact h2 hb σ F1 H1 (k.gr g) Q fun v F2 H2 s g2 w z => q v F2 H2 s (g.trans g2) w (z.back fun a => g.no)
theorem ev_isN {d : D} {b : Bool} (h : EvE W ta Γ (.dat d)) (e : (match d with | .non => true | _ => false) = b) : EvE W (tIsN ta) Γ (.dat (.bl b)) := fun σ F H k Q q => h σ F H k _ fun v F1 H1 g z => by
  refine q _ F1 H1 g ?_
  have : decide (v = V.non) = b := by
    rw [← e]
    cases (show Rep F1 v d from z) <;> rfl
  rw [this]
  exact .bl b
theorem ev_notN {d : D} {b : Bool} (h : EvE W ta Γ (.dat d)) (e : (match d with | .non => false | _ => true) = b) : EvE W (tNotN ta) Γ (.dat (.bl b)) := fun σ F H k Q q => h σ F H k _ fun v F1 H1 g z => by
  refine q _ F1 H1 g ?_
  have : (!decide (v = V.non)) = b := by
    rw [← e]
    cases (show Rep F1 v d from z) <;> rfl
  rw [this]
  exact .bl b

/-! ### operators on ints, texts, bools -/
theorem ret_dat {Q : VK} {d : D} {v : V} (s : Sok W F H) (q : ∀ v F' H', Gr W F H F' H' → SlV W H F' H' v (.dat d) → Q v H') (r : Rep F v d) : Q v H := q v F H (.refl s) r
theorem oe_I0 {g : Int → Int → V} {i j : Int} {d : D} (hg : ∀ F, Rep F (g i j) d) : OpE W (rI0 g) (.dat (.int i)) (.dat (.int j)) (.dat d) := fun Hb F H x y sk hx hy Q q => by
  cases (show Rep F x (.int i) from hx)
  cases (show Rep F y (.int j) from hy)
  exact ⟨i, j, rfl, rfl, ret_dat sk q (hg F)⟩
theorem oe_I {C : Int → Int → Prop} {g : Int → Int → V} {i j : Int} {d : D} (hc : C i j) (hg : ∀ F, Rep F (g i j) d) : OpE W (rI C g) (.dat (.int i)) (.dat (.int j)) (.dat d) := fun Hb F H x y sk hx hy Q q => by
  cases (show Rep F x (.int i) from hx)
  cases (show Rep F y (.int j) from hy)
  exact ⟨i, j, rfl, rfl, hc, ret_dat sk q (hg F)⟩
theorem oe_eqI {i j : Int} : OpE W rEq (.dat (.int i)) (.dat (.int j)) (.dat (.bl (decide (i = j)))) := fun Hb F H x y sk hx hy Q q => by
  cases (show Rep F x (.int i) from hx)
  cases (show Rep F y (.int j) from hy)
  refine ⟨rfl, ?_⟩
  rw [show decide (V.int i = V.int j) = decide (i = j) by rw [dec_int, Bool.beq_eq_decide_eq]]
  exact ret_dat sk q (.bl _)
theorem oe_neI {i j : Int} : OpE W rNe (.dat (.int i)) (.dat (.int j)) (.dat (.bl (!decide (i = j)))) := fun Hb F H x y sk hx hy Q q => by
  cases (show Rep F x (.int i) from hx)
  cases (show Rep F y (.int j) from hy)
  refine ⟨rfl, ?_⟩
  rw [show decide (V.int i = V.int j) = decide (i = j) by rw [dec_int, Bool.beq_eq_decide_eq]]
  exact ret_dat sk q (.bl _)
theorem oe_eqS {i j : Str} : OpE W rEq (.dat (.str i)) (.dat (.str j)) (.dat (.bl (decide (i = j)))) := fun Hb F H x y sk hx hy Q q => by
  cases (show Rep F x (.str i) from hx)
  cases (show Rep F y (.str j) from hy)
  refine ⟨rfl, ?_⟩
  rw [show decide (V.str i = V.str j) = decide (i = j) by rw [dec_str, Bool.beq_eq_decide_eq]]
  exact ret_dat sk q (.bl _)
theorem oe_neS {i j : Str} : OpE W rNe (.dat (.str i)) (.dat (.str j)) (.dat (.bl (!decide (i = j)))) := fun Hb F H x y sk hx hy Q q => by
  cases (show Rep F x (.str i) from hx)
  cases (show Rep F y (.str j) from hy)
  refine ⟨rfl, ?_⟩
  rw [show decide (V.str i = V.str j) = decide (i = j) by rw [dec_str, Bool.beq_eq_decide_eq]]
  exact ret_dat sk q (.bl _)
theorem oe_eqB {i j : Bool} : OpE W rEq (.dat (.bl i)) (.dat (.bl j)) (.dat (.bl (decide (i = j)))) := fun Hb F H x y sk hx hy Q q => by
  cases (show Rep F x (.bl i) from hx)
  cases (show Rep F y (.bl j) from hy)
  refine ⟨rfl, ?_⟩
  rw [show decide (V.bl i = V.bl j) = decide (i = j) by rw [dec_bl, Bool.beq_eq_decide_eq]]
  exact ret_dat sk q (.bl _)
theorem oe_neB {i j : Bool} : OpE W rNe (.dat (.bl i)) (.dat (.bl j)) (.dat (.bl (!decide (i = j)))) := fun Hb F H x y sk hx hy Q q => by
  cases (show Rep F x (.bl i) from hx)
  cases (show Rep F y (.bl j) from hy)
  refine ⟨rfl, ?_⟩
  rw [show decide (V.bl i = V.bl j) = decide (i = j) by rw [dec_bl, Bool.beq_eq_decide_eq]]
  exact ret_dat sk q (.bl _)
theorem ue_neg {i : Int} : UnE W (rU fun i => .int (-i)) (.dat (.int i)) (.dat (.int (-i))) := fun Hb F H x sk hx Q q => by
  cases (show Rep F x (.int i) from hx)
  exact ⟨i, rfl, ret_dat sk q (.int _)⟩

/-! ### + and * of several kinds -/
def rAddI : R2 := rI0 fun i j => .int (i + j)
def rAddT : R2 := fun x y H Q => ∃ i j, x = .str i ∧ y = .str j ∧ i.length + j.length ≤ sizeLine ∧ Q (.str (i ++ j)) H
/-- tuples put together: either may be empty, the outcome as data is the same -/
def rAddU (K : PySem.W.Frag) : R2 := rCatA K
def rPlus (K : PySem.W.Frag) : R2 := fun x y H Q => rAddI x y H Q ∨ rAddT x y H Q ∨ rCat x y H Q ∨ rAddU K x y H Q
def rMulI : R2 := rI CMul fun i j => .int (i * j)
def rTimes : R2 := fun x y H Q => rMulI x y H Q ∨ rRep x y H Q
theorem op_plus {X : Cx} : OpR X (binaryOp .Add) (rPlus X.K) := OpR.or op_add (OpR.or op_add_str (OpR.or op_cat op_catA))
theorem op_times {X : Cx} : OpR X (binaryOp .Mult) rTimes := OpR.or op_mul op_rep
variable {K : PySem.W.Frag}
theorem oe_addI {i j : Int} : OpE W (rPlus K) (.dat (.int i)) (.dat (.int j)) (.dat (.int (i + j))) := fun Hb F H x y sk hx hy Q q => .inl (oe_I0 (g := fun i j => .int (i + j)) (fun F => .int _) Hb F H x y sk hx hy Q q)
theorem oe_addS {i j : Str} (hl : i.length + j.length ≤ 1000) : OpE W (rPlus K) (.dat (.str i)) (.dat (.str j)) (.dat (.str (i ++ j))) := fun Hb F H x y sk hx hy Q q => by
  cases (show Rep F x (.str i) from hx)
  cases (show Rep F y (.str j) from hy)
  exact .inr (.inl ⟨i, j, rfl, rfl, Nat.le_trans hl (by decide), ret_dat sk q (.str _)⟩)
theorem oe_addL {i j : List D} (hl : i.length + j.length ≤ 1000) : OpE W (rPlus K) (.bor (.lst i)) (.bor (.lst j)) (.own (.lst (i ++ j))) := fun Hb F H x y sk hx hy Q q => by
  obtain ⟨a, rfl, ma, xs, e1, r1⟩ := hx
  obtain ⟨b, rfl, mb, ys, e2, r2⟩ := hy
  refine .inr (.inr (.inl ⟨a, b, xs, ys, rfl, rfl, e1, e2, ?_, fun p hp => ?_⟩))
  · rw [r1.length, r2.length]
    exact Nat.le_trans hl (by decide)
  · exact q _ F _ (Gr.newO sk hp) ⟨p, rfl, hp, sk.le.no hp, _, upd_same, r1.append r2⟩
theorem oe_addU {i j : List D} (hl : i.length + j.length ≤ 1000) : OpE W (rPlus K) (.dat (.tup i)) (.dat (.tup j)) (.dat (.tup (i ++ j))) := fun Hb F H x y sk hx hy Q q => by
  have hx : Rep F x (.tup i) := hx
  have hy : Rep F y (.tup j) := hy
  cases hx with
  | tup e1 r1 =>
    cases hy with
    | tup e2 r2 =>
      rename_i a xs b ys
      refine .inr (.inr (.inr ⟨a, b, xs, ys, rfl, rfl, SqT.of (sk.le _ _ e1), SqT.of (sk.le _ _ e2), ?_, fun h => ?_, fun _ h => ?_, fun _ _ p hp => ?_⟩))
      · rw [r1.length, r2.length]
        exact Nat.le_trans hl (by decide)
      · subst h
        cases r1
        refine q _ F H (.refl sk) ?_
        rw [List.nil_append]
        exact .tup e2 r2
      · subst h
        cases r2
        refine q _ F H (.refl sk) ?_
        rw [List.append_nil]
        exact .tup e1 r1
      · have g := Gr.new (o := .tup (xs ++ ys)) sk hp
        exact q _ _ _ g (.tup upd_same ((r1.append r2).mono g.ff))
theorem oe_mulI {i j : Int} (h : CMul i j) : OpE W rTimes (.dat (.int i)) (.dat (.int j)) (.dat (.int (i * j))) := fun Hb F H x y sk hx hy Q q => .inl (oe_I (g := fun i j => .int (i * j)) h (fun F => .int _) Hb F H x y sk hx hy Q q)
theorem oe_rep {i : List D} {n : Nat} (hl : i.length * n ≤ 1000) (hn : n ≤ 1000) : OpE W rTimes (.bor (.lst i)) (.dat (.int n)) (.own (.lst (List.replicate n i).flatten)) := fun Hb F H x y sk hx hy Q q => by
  obtain ⟨a, rfl, ma, xs, e1, r1⟩ := hx
  cases (show Rep F y (.int n) from hy)
  refine .inr ⟨a, n, xs, rfl, rfl, e1, by omega, by omega, ?_, fun p hp => ?_⟩
  · rw [Int.toNat_natCast, r1.length]
    exact Nat.le_trans hl (by decide)
  · exact q _ F _ (Gr.newO sk hp) ⟨p, rfl, hp, sk.le.no hp, _, upd_same, r1.flat⟩

/-! ### subscripts -/
theorem atI_get {α : Type} {xs : List α} {i : Int} {d : α} (h : atI xs i = some d) : ∃ j : Nat, ixN xs.length i = some j ∧ xs[j]? = some d := by
  unfold atI at h
  cases e : ixN xs.length i with
  | none => rw [e] at h; cases h
  | some j => rw [e] at h; exact ⟨j, rfl, h⟩
theorem atI_rep {xs : List V} {ds : List D} {i : Int} {d : D} (r : Reps F xs ds) (h : atI ds i = some d) : ∃ v, atI xs i = some v ∧ Rep F v d := by
  obtain ⟨j, e, h⟩ := atI_get h
  obtain ⟨v, hv, q⟩ := r.get h
  refine ⟨v, ?_, q⟩
  unfold atI
  rw [r.length, e]
  exact hv
theorem atI_n {α : Type} {xs : List α} {n : Nat} {d : α} (h : xs[n]? = some d) : atI xs (n : Int) = some d := by
  unfold atI ixN
  have hn : n < xs.length := (List.getElem?_eq_some_iff.mp h).1
  rw [if_pos (Int.natCast_nonneg n), if_pos (by omega), Int.toNat_natCast]
  exact h
theorem oe_ixT {ds : List D} {i : Int} {d : D} (h : atI ds i = some d) : OpE W (rIx K) (.dat (.tup ds)) (.dat (.int i)) (.dat d) := fun Hb F H x y sk hx hy Q q => by
  have hx : Rep F x (.tup ds) := hx
  cases (show Rep F y (.int i) from hy)
  cases hx with
  | tup e1 r1 =>
    obtain ⟨v, hv, r⟩ := atI_rep r1 h
    exact .inr (.inl ⟨_, _, i, v, rfl, rfl, SqT.of (sk.le _ _ e1), hv, ret_dat sk q r⟩)
theorem oe_ixL {ds : List D} {i : Int} {d : D} (h : atI ds i = some d) : OpE W (rIx K) (.bor (.lst ds)) (.dat (.int i)) (.dat d) := fun Hb F H x y sk hx hy Q q => by
  obtain ⟨a, rfl, ma, xs, e1, r1⟩ := hx
  cases (show Rep F y (.int i) from hy)
  obtain ⟨v, hv, r⟩ := atI_rep r1 h
  exact .inl ⟨_, _, i, v, rfl, rfl, SqL.of e1, hv, ret_dat sk q r⟩
theorem oe_ixS {z : Str} {i : Int} {c : Nat} (hl : z.length ≤ 1000) (h : atI z.cps.toList i = some c) : OpE W (rIx K) (.dat (.str z)) (.dat (.int i)) (.dat (.str ⟨#[c]⟩)) := fun Hb F H x y sk hx hy Q q => by
  cases (show Rep F x (.str z) from hx)
  cases (show Rep F y (.int i) from hy)
  exact .inr (.inr ⟨z, i, c, rfl, rfl, Nat.le_trans hl (by decide), h, ret_dat sk q (.str _)⟩)

/-! ### in -/
def flatD : D → Bool
  | .non => true | .bl _ => true | .int _ => true | .str _ => true
  | _ => false
def eqD : D → D → Bool
  | .non, .non => true
  | .bl a, .bl b => a == b
  | .bl a, .int b => (if a then 1 else 0) == b
  | .int a, .bl b => a == (if b then 1 else 0)
  | .int a, .int b => a == b
  | .str a, .str b => a == b
  | _, _ => false
def inD (d : D) (ds : List D) : Bool := ds.any fun e => eqD e d
theorem flat_rep {v : V} {d : D} (r : Rep F v d) (h : flatD d = true) : flatV v = true := by
  cases r <;> first | rfl | cases h
theorem eq_rep {v w : V} {d e : D} (r : Rep F v d) (q : Rep F w e) (h1 : flatD d = true) (h2 : flatD e = true) : eqV v w = eqD d e := by
  cases r <;> first
    | (cases h1; done)
    | (cases q <;> first | rfl | (cases h2; done))
theorem flats_rep : ∀ {vs : List V} {ds : List D}, Reps F vs ds → ds.all flatD = true → vs.all flatV = true
  | _, _, .nil, _ => rfl
  | _, _, .cons h r, e => by
    rw [List.all_cons, Bool.and_eq_true] at e ⊢
    exact ⟨flat_rep h e.1, flats_rep r e.2⟩
theorem in_rep {v : V} {d : D} (q : Rep F v d) (hd : flatD d = true) : ∀ {vs : List V} {ds : List D}, Reps F vs ds → ds.all flatD = true → inV v vs = inD d ds
  | _, _, .nil, _ => rfl
  | _, _, .cons h r, e => by
    rw [List.all_cons, Bool.and_eq_true] at e
    have ih := in_rep q hd r e.2
    unfold inV inD at ih ⊢
    rw [List.any_cons, List.any_cons, ih, eq_rep h q e.1 hd]
theorem oe_inL {neg : Bool} {d : D} {ds : List D} (h1 : flatD d = true) (h2 : ds.all flatD = true) : OpE W (rIn K neg) (.dat d) (.bor (.lst ds)) (.dat (.bl (if neg then !inD d ds else inD d ds))) := fun Hb F H x y sk hx hy Q q => by
  obtain ⟨a, rfl, ma, xs, e1, r1⟩ := hy
  refine ⟨a, xs, rfl, .inl (SqL.of e1), flat_rep hx h1, flats_rep r1 h2, ?_⟩
  rw [in_rep hx h1 r1 h2]
  exact ret_dat sk q (.bl _)
theorem oe_inT {neg : Bool} {d : D} {ds : List D} (h1 : flatD d = true) (h2 : ds.all flatD = true) : OpE W (rIn K neg) (.dat d) (.dat (.tup ds)) (.dat (.bl (if neg then !inD d ds else inD d ds))) := fun Hb F H x y sk hx hy Q q => by
  have hy : Rep F y (.tup ds) := hy
  cases hy with
  | tup e1 r1 =>
    refine ⟨_, _, rfl, .inr (SqT.of (sk.le _ _ e1)), flat_rep hx h1, flats_rep r1 h2, ?_⟩
    rw [in_rep hx h1 r1 h2]
    exact ret_dat sk q (.bl _)

/-! ### dicts with int and text keys -/
def kD : Key → D
  | .inl i => .int i
  | .inr x => .str x
theorem key_rep {v : V} {k : Key} (r : Rep F v (kD k)) : v = kV k := by
  cases k <;> (cases r; rfl)
theorem ev_dget {td ty : TE} {kvs : List (Key × D)} {k : Key} {d : D} (h1 : EvE W td Γ (.bor (.dic kvs))) (h2 : EvE W ty Γ (.dat (kD k))) (hd : lk kvs k = some d) : EvE W (tDGet td ty) Γ (.dat d) := fun σ F H ko Q q =>
  h1 σ F H ko _ fun x F1 H1 g1 z1 => h2 σ F1 H1 (ko.gr g1) _ fun y F2 H2 g2 z2 => by
    obtain ⟨a, rfl, ma, xs, e1, r1⟩ := z1.gr ko.ok.mh g2
    rw [key_rep z2]
    rcases r1.val k with ⟨e, _⟩ | ⟨v, d', e, ev, r⟩
    · rw [hd] at e; cases e
    · rw [hd] at e
      cases e
      exact ⟨a, v, rfl, .inl ⟨xs, k, .inl e1, rfl, ev.symm⟩, q v F2 H2 (g1.trans g2) r⟩
theorem isSome_val {k : Key} {xs : List (Key × V)} {kvs : List (Key × D)} (r : RepK F xs kvs) : (valV xs k).isSome = (lk kvs k).isSome := by
  rcases r.val k with ⟨e, e'⟩ | ⟨v, d', e, ev, _⟩
  · rw [e, e']; rfl
  · rw [e, ev]; rfl
theorem ev_din {td ty : TE} {kvs : List (Key × D)} {k : Key} (h2 : EvE W ty Γ (.dat (kD k))) (h1 : EvE W td Γ (.bor (.dic kvs))) : EvE W (tDIn ty td) Γ (.dat (.bl (lk kvs k).isSome)) := fun σ F H ko Q q =>
  h2 σ F H ko _ fun y F1 H1 g1 z1 => h1 σ F1 H1 (ko.gr g1) _ fun x F2 H2 g2 z2 => by
    obtain ⟨a, rfl, ma, xs, e1, r1⟩ := z2
    rw [key_rep z1]
    refine ⟨a, valV xs k, rfl, .inl ⟨xs, k, .inl e1, rfl, rfl⟩, ?_⟩
    rw [isSome_val r1]
    exact q _ F2 H2 (g1.trans g2) (.bl _)
theorem ev_dnotin {td ty : TE} {kvs : List (Key × D)} {k : Key} (h2 : EvE W ty Γ (.dat (kD k))) (h1 : EvE W td Γ (.bor (.dic kvs))) : EvE W (tDNotIn ty td) Γ (.dat (.bl (!(lk kvs k).isSome))) := fun σ F H ko Q q =>
  h2 σ F H ko _ fun y F1 H1 g1 z1 => h1 σ F1 H1 (ko.gr g1) _ fun x F2 H2 g2 z2 => by
    obtain ⟨a, rfl, ma, xs, e1, r1⟩ := z2
    rw [key_rep z1]
    refine ⟨a, valV xs k, rfl, .inl ⟨xs, k, .inl e1, rfl, rfl⟩, ?_⟩
    rw [isSome_val r1]
    exact q _ F2 H2 (g1.trans g2) (.bl _)

/-! ### displays -/
theorem ev_tup {ta : TA} {ds : List D} (h : EvAE W ta Γ (ds.map Sl.dat)) (hl : ds.length ≤ 1000) : EvE W (tTup ta) Γ (.dat (.tup ds)) := fun σ F H k Q q => h σ F H k _ fun vs F1 H1 g1 z1 => by
  have r := z1.reps
  refine ⟨by rw [r.length]; exact Nat.le_trans hl (by decide), fun p hp => ?_⟩
  have g := Gr.new (o := .tup vs) g1.ok hp
  exact q _ _ _ (g1.trans g) (.tup upd_same (r.mono g.ff))
theorem ev_tupR {ta : TA} {R : List Sl → Prop} {R' : Sl → Prop} (h : EvA W ta Γ R) (hr : ∀ ss, R ss → ∃ ds : List D, ss = ds.map Sl.dat ∧ ds.length ≤ 1000 ∧ R' (.dat (.tup ds))) : Ev W (tTup ta) Γ R' := fun σ F H k Q q => h σ F H k _ fun vs F1 H1 ss g1 w z1 => by
  obtain ⟨ds, rfl, hl, w'⟩ := hr ss w
  have r := z1.reps
  refine ⟨by rw [r.length]; exact Nat.le_trans hl (by decide), fun p hp => ?_⟩
  have g := Gr.new (o := .tup vs) g1.ok hp
  exact q _ _ _ _ (g1.trans g) w' (.tup upd_same (r.mono g.ff))
theorem ev_lst {ta : TA} {ds : List D} (h : EvAE W ta Γ (ds.map Sl.dat)) (hl : ds.length ≤ 1000) : EvE W (tLst ta) Γ (.own (.lst ds)) := fun σ F H k Q q => h σ F H k _ fun vs F1 H1 g1 z1 => by
  have r := z1.reps
  refine ⟨by rw [r.length]; exact Nat.le_trans hl (by decide), fun p hp => ?_⟩
  exact q _ _ _ (g1.trans (Gr.newO g1.ok hp)) ⟨p, rfl, g1.no hp, g1.ok.le.no hp, _, upd_same, r⟩
theorem ev_dnew : EvE W tDNewK Γ (.own (.dic [])) := fun σ F H k Q q p hp => q _ _ _ (Gr.newO k.ok hp) ⟨p, rfl, hp, k.ok.le.no hp, _, upd_same, .nil⟩

/-! ### slices -/
theorem cut_rep {xs : List V} {ds : List D} {lo hi : Option Int} (r : Reps F xs ds) : Reps F (cutV xs lo hi) ((ds.drop (HT.sIx ds.length 0 lo)).take (HT.sIx ds.length ds.length hi - HT.sIx ds.length 0 lo)) := by
  unfold cutV
  rw [r.length]
  exact (r.drop _).take _
def EvO (W : Wd) (to : TO) (Γ : List Sl) (o : Option Int) : Prop := ∀ σ F H, Ok W Γ σ F H → ∀ Q : Option Int → Hp → Prop, (∀ F' H', Gr W F H F' H' → Q o H') → to σ H Q
theorem eo_none : EvO W tNoPart Γ none := fun σ F H k Q q => q F H (.refl k.ok)
theorem eo_some {i : Int} (h : EvE W te Γ (.dat (.int i))) : EvO W (tPart te) Γ (some i) := fun σ F H k Q q => h σ F H k _ fun v F1 H1 g1 z => by
  cases (show Rep F1 v (.int i) from z)
  exact ⟨i, rfl, q F1 H1 g1⟩
theorem ev_slL {tl th : TO} {ds : List D} {lo hi : Option Int} (h : EvE W te Γ (.bor (.lst ds))) (h1 : EvO W tl Γ lo) (h2 : EvO W th Γ hi) :
    EvE W (tSl (rSlL K) te tl th) Γ (.own (.lst ((ds.drop (HT.sIx ds.length 0 lo)).take (HT.sIx ds.length ds.length hi - HT.sIx ds.length 0 lo)))) := fun σ F H k Q q =>
  h σ F H k _ fun x F1 H1 g1 z1 => h1 σ F1 H1 (k.gr g1) _ fun F2 H2 g2 => h2 σ F2 H2 ((k.gr g1).gr g2) _ fun F3 H3 g3 => by
    obtain ⟨a, rfl, ma, xs, e1, r1⟩ := (z1.gr k.ok.mh g2).gr k.ok.mh g3
    have gg := (g1.trans g2).trans g3
    refine ⟨a, xs, rfl, SqL.of e1, fun p hp => q _ _ _ (gg.trans (Gr.newO g3.ok hp)) ⟨p, rfl, gg.no hp, g3.ok.le.no hp, _, upd_same, cut_rep r1⟩⟩

/-! ### calls of built-ins -/
theorem ev_cb {ta : TA} {r : List V → Hp → VK → Prop} {ss : List Sl} {R : Sl → Prop} (h : EvAE W ta Γ ss) (hr : CbE W r ss R) : Ev W (tCB r ta) Γ R := fun σ F H k Q q =>
  h σ F H k _ fun vs F1 H1 g1 z1 => hr H F1 H1 vs g1.ok z1 Q fun v F2 H2 s g2 w z2 => q v F2 H2 s (g1.trans g2) w (z2.back fun a => g1.no)
theorem ev_cbE {ta : TA} {r : List V → Hp → VK → Prop} {ss : List Sl} {s : Sl} (h : EvAE W ta Γ ss) (hr : CbE W r ss (fun t => t = s)) : EvE W (tCB r ta) Γ s := fun σ F H k Q q =>
  h σ F H k _ fun vs F1 H1 g1 z1 => hr H F1 H1 vs g1.ok z1 Q fun v F2 H2 s' g2 w z2 => by subst w; exact q v F2 H2 (g1.trans g2) (z2.back fun a => g1.no)
theorem ev_cbR {ta : TA} {r : List V → Hp → VK → Prop} {A : List Sl → Prop} {R : Sl → Prop} (h : EvA W ta Γ A) (hr : ∀ ss, A ss → CbE W r ss R) : Ev W (tCB r ta) Γ R := fun σ F H k Q q =>
  h σ F H k _ fun vs F1 H1 ss g1 w z1 => hr ss w H F1 H1 vs g1.ok z1 Q fun v F2 H2 s g2 w z2 => q v F2 H2 s (g1.trans g2) w (z2.back fun a => g1.no)
end
end Dn
/-! Den3: statements, loops, comprehensions, promises, told by abstract slots. -/
namespace Dn
open PySem L2

structure Po where
  nx : List Sl → Prop
  rt : Sl → Prop
  bk : List Sl → Prop := fun _ => False
  ct : List Sl → Prop := fun _ => False
/-- a statement's reading, from the slots Γ -/
def Ec (W : Wd) (ts : TS) (Γ : List Sl) (P : Po) : Prop := ∀ σ F H, Ok W Γ σ F H → ∀ Z : Ends,
  (∀ Γ' σ' F' H', Ok W Γ' σ' F' H' → Le F F' → P.nx Γ' → Z.nx σ' H') →
  (∀ v F' H' s, Gr W W.F0 W.H0 F' H' → (∀ o, s ≠ .bor o) → P.rt s → SlV W W.H0 F' H' v s → Z.rt v H') →
  (∀ Γ' σ' F' H', Ok W Γ' σ' F' H' → Le F F' → P.bk Γ' → Z.bk σ' H') →
  (∀ Γ' σ' F' H', Ok W Γ' σ' F' H' → Le F F' → P.ct Γ' → Z.ct σ' H') → ts Z σ H
def Po.fn (R : Sl → Prop) : Po := { nx := fun _ => R (.dat .non), rt := R }

section
variable {W : Wd} {Γ : List Sl} {P : Po} {t u : TS} {te ta tb : TE} {s : Sl} {R : Sl → Prop} {i : Nat}
theorem ec_next (h : P.nx Γ) : Ec W tNext Γ P := fun σ F H k Z n r b c => n _ _ _ _ k (Le.refl _) h
theorem ec_brk (h : P.bk Γ) : Ec W tBreak Γ P := fun σ F H k Z n r b c => b _ _ _ _ k (Le.refl _) h
theorem ec_cont (h : P.ct Γ) : Ec W tCont Γ P := fun σ F H k Z n r b c => c _ _ _ _ k (Le.refl _) h
theorem ec_seq {M : List Sl → Prop} (h : Ec W t Γ { P with nx := M }) (k : ∀ Γ', M Γ' → Ec W u Γ' P) : Ec W (tSeq t u) Γ P := fun σ F H ko Z n r b c =>
  h σ F H ko _ (fun Γ' σ' F' H' k' l m => k Γ' m σ' F' H' k' Z (fun _ _ _ _ a l' => n _ _ _ _ a (l.trans l')) r (fun _ _ _ _ a l' => b _ _ _ _ a (l.trans l')) fun _ _ _ _ a l' => c _ _ _ _ a (l.trans l')) r b c
theorem ec_imp {P' : Po} (h : Ec W t Γ P) (h1 : ∀ Γ, P.nx Γ → P'.nx Γ) (h2 : ∀ s, P.rt s → P'.rt s) (h3 : ∀ Γ, P.bk Γ → P'.bk Γ) (h4 : ∀ Γ, P.ct Γ → P'.ct Γ) : Ec W t Γ P' := fun σ F H ko Z n r b c =>
  h σ F H ko Z (fun _ _ _ _ k l m => n _ _ _ _ k l (h1 _ m)) (fun _ _ _ _ k nb m => r _ _ _ _ k nb (h2 _ m)) (fun _ _ _ _ k l m => b _ _ _ _ k l (h3 _ m)) (fun _ _ _ _ k l m => c _ _ _ _ k l (h4 _ m))
/-- slots forgotten, an own object frozen -/
theorem ec_weak {Γ' : List Sl} (hl : Γ'.length = Γ.length) (h : ∀ (i : Nat) (s : Sl), Γ'[i]? = some s → s = Sl.no ∨ Γ[i]? = some s) (e : Ec W t Γ' P) : Ec W t Γ P := fun σ F H ko Z n r b c => e σ F H (ko.weak hl h) Z n r b c
theorem ec_frz {o : Ow} (i : Nat) (hi : Γ[i]? = some (.own o)) (e : Ec W t (Γ.set i (.dat o.d)) P) : Ec W t Γ P := fun σ F H ko Z n r b c => by
  obtain ⟨F', k', l⟩ := ko.frz hi
  exact e σ F' H k' Z (fun _ _ _ _ a l' => n _ _ _ _ a (l.trans l')) r (fun _ _ _ _ a l' => b _ _ _ _ a (l.trans l')) fun _ _ _ _ a l' => c _ _ _ _ a (l.trans l')

theorem ec_asg (h : EvE W te Γ s) (hb : ∀ o, s ≠ .bor o) (k : P.nx (Γ.set i s)) : Ec W (tAsg te (gName i)) Γ P := fun σ F H ko Z n r b c =>
  h σ F H ko _ fun v F' H' g z => n _ _ F' H' (ko.set g z hb i) g.ff k
theorem ec_asgR (h : Ev W te Γ R) (k : ∀ s, R s → (∀ o, s ≠ .bor o) ∧ P.nx (Γ.set i s)) : Ec W (tAsg te (gName i)) Γ P := fun σ F H ko Z n r b c =>
  h σ F H ko _ fun v F' H' s g w z => n _ _ F' H' (ko.set g z (k s w).1 i) g.ff (k s w).2
theorem ec_set (h : EvE W te Γ s) (k : Ec W u (Γ.set i s) P) (hb : ∀ o, s ≠ .bor o := by intro _ h; cases h) : Ec W (tSeq (tAsg te (gName i)) u) Γ P :=
  ec_seq (M := fun G => G = Γ.set i s) (ec_asg h hb rfl) fun _ e => by subst e; exact k
theorem ec_setR (h : Ev W te Γ R) (k : ∀ s, R s → (∀ o, s ≠ .bor o) ∧ Ec W u (Γ.set i s) P) : Ec W (tSeq (tAsg te (gName i)) u) Γ P :=
  ec_seq (M := fun G => ∃ s, R s ∧ G = Γ.set i s) (ec_asgR h fun s w => ⟨(k s w).1, s, w, rfl⟩) fun _ ⟨s, w, e⟩ => by subst e; exact (k s w).2
theorem ec_ret (h : EvE W te Γ s) (k : P.rt s) (hb : ∀ o, s ≠ .bor o := by intro _ h; cases h) : Ec W (tRet te) Γ P := fun σ F H ko Z n r b c =>
  h σ F H ko _ fun v F' H' g z => r v F' H' s (ko.g.trans g) hb k (z.back fun a e => ko.g.no e)
theorem ec_retR (h : Ev W te Γ R) (k : ∀ s, R s → (∀ o, s ≠ .bor o) ∧ P.rt s) : Ec W (tRet te) Γ P := fun σ F H ko Z n r b c =>
  h σ F H ko _ fun v F' H' s g w z => r v F' H' s (ko.g.trans g) (k s w).1 (k s w).2 (z.back fun a e => ko.g.no e)
theorem ec_retO {o : Ow} (h : Γ[i]? = some (.own o)) (k : P.rt (.own o)) : Ec W (tRet (tVar i)) Γ P := fun σ F H ko Z n r b c => by
  obtain ⟨a, e, h0, f0, q⟩ := ko.sl i _ h
  exact ⟨.ref a, e, r _ F H (.own o) ko.g (fun _ h => by cases h) k ⟨a, rfl, h0, f0, q⟩⟩
theorem ec_retN (k : P.rt (.dat .non)) : Ec W tRetN Γ P := fun σ F H ko Z n r b c => r _ F H (.dat .non) ko.g (fun _ h => by cases h) k .non
theorem ec_drop (h : Ev W te Γ R) (k : P.nx Γ) : Ec W (tDrop te) Γ P := fun σ F H ko Z n r b c =>
  h σ F H ko _ fun v F' H' s g w z => n _ _ F' H' (ko.gr g) g.ff k
theorem ec_if {tt : TT} {b : Bool} (h : EvTE W tt Γ b) (h1 : b = true → Ec W t Γ P) (h2 : b = false → Ec W u Γ P) : Ec W (tIfS tt t u) Γ P := fun σ F H ko Z n r br c =>
  h σ F H ko _ fun F' H' g => by
    cases b with
    | true => rw [if_pos rfl]; exact h1 rfl σ F' H' (ko.gr g) Z (fun _ _ _ _ a l' => n _ _ _ _ a (g.ff.trans l')) r (fun _ _ _ _ a l' => br _ _ _ _ a (g.ff.trans l')) fun _ _ _ _ a l' => c _ _ _ _ a (g.ff.trans l')
    | false => rw [if_neg Bool.false_ne_true]; exact h2 rfl σ F' H' (ko.gr g) Z (fun _ _ _ _ a l' => n _ _ _ _ a (g.ff.trans l')) r (fun _ _ _ _ a l' => br _ _ _ _ a (g.ff.trans l')) fun _ _ _ _ a l' => c _ _ _ _ a (g.ff.trans l')
theorem ec_ifR {tt : TT} {B : Bool → Prop} (h : EvT W tt Γ B) (h1 : B true → Ec W t Γ P) (h2 : B false → Ec W u Γ P) : Ec W (tIfS tt t u) Γ P := fun σ F H ko Z n r br c =>
  h σ F H ko _ fun b F' H' g w => by
    cases b with
    | true => rw [if_pos rfl]; exact h1 w σ F' H' (ko.gr g) Z (fun _ _ _ _ a l' => n _ _ _ _ a (g.ff.trans l')) r (fun _ _ _ _ a l' => br _ _ _ _ a (g.ff.trans l')) fun _ _ _ _ a l' => c _ _ _ _ a (g.ff.trans l')
    | false => rw [if_neg Bool.false_ne_true]; exact h2 w σ F' H' (ko.gr g) Z (fun _ _ _ _ a l' => n _ _ _ _ a (g.ff.trans l')) r (fun _ _ _ _ a l' => br _ _ _ _ a (g.ff.trans l')) fun _ _ _ _ a l' => c _ _ _ _ a (g.ff.trans l')
/-- a test that is known to fail, its branch never comes -/
theorem ec_no {tt : TT} (h : EvTE W tt Γ false) (k : P.nx Γ) : Ec W (tIfS tt t tNext) Γ P := ec_if h (fun e => nomatch e) fun _ => ec_next k
theorem ec_noS {tt : TT} (h : EvTE W tt Γ false) (k : Ec W u Γ P) : Ec W (tSeq (tIfS tt t tNext) u) Γ P := ec_seq (M := fun G => G = Γ) (ec_no h rfl) fun _ e => by subst e; exact k
/-- name op= e -/
theorem ec_aug {f : Int → Int → Int} {a b : Int} (h1 : Γ[i]? = some (.dat (.int a))) (h2 : EvE W te Γ (.dat (.int b))) (k : P.nx (Γ.set i (.dat (.int (f a b))))) : Ec W (tAug i te (ipI f)) Γ P := fun σ F H ko Z n r br c => by
  obtain ⟨v, e, q⟩ := ko.sl i _ h1
  cases q
  refine ⟨_, e, h2 σ F H ko _ fun v F' H' g z => ?_⟩
  cases (show Rep F' v (.int b) from z)
  exact ⟨a, b, rfl, rfl, n _ _ F' H' (ko.set (s := .dat (.int (f a b))) g (Rep.int _) (fun _ h => nomatch h) i) g.ff k⟩

/-! ### own objects changed -/
theorem Ok.addr {σ : St} {F H : Hp} (ko : Ok W Γ σ F H) {o : Ow} (h : Γ[i]? = some (.own o)) : ∃ a, σ[i]? = some (some (.ref a)) ∧ W.H0 a = none ∧ F a = none ∧ OwRep F H a o := ko.sl i _ h
theorem ec_app {K : PySem.W.Frag} {ds : List D} {d : D} (hi : Γ[i]? = some (.own (.lst ds))) (h : EvE W te Γ (.dat d)) (hl : ds.length < 1000) (k : P.nx (Γ.set i (.own (.lst (ds ++ [d]))))) :
    Ec W (tDrop (tBM K "list" rAppend (tVar i) (tCons te tNil))) Γ P := fun σ F H ko Z n r br c => by
  obtain ⟨a, ha, h0, f0, xs, ex, rx⟩ := ko.addr hi
  refine ⟨.ref a, ha, .inl ⟨rfl, xs, SqL.of ex⟩, h σ F H ko _ fun v F1 H1 g z => ?_⟩
  obtain ⟨a', ha', _, _, xs', ex', rx'⟩ := (ko.gr g).addr hi
  rw [ha] at ha'
  cases ha'
  refine ⟨a, xs', v, rfl, rfl, ex', by rw [rx'.length]; exact Nat.lt_trans hl (by decide), n _ _ F1 _ ((ko.gr g).put hi ha ?_) g.ff k⟩
  exact ⟨_, upd_same, rx'.snoc z⟩
theorem ec_appR {K : PySem.W.Frag} {ds : List D} (hi : Γ[i]? = some (.own (.lst ds))) (h : Ev W te Γ R) (hl : ds.length < 1000) (k : ∀ s, R s → ∃ d, s = .dat d ∧ P.nx (Γ.set i (.own (.lst (ds ++ [d]))))) :
    Ec W (tDrop (tBM K "list" rAppend (tVar i) (tCons te tNil))) Γ P := fun σ F H ko Z n r br c => by
  obtain ⟨a, ha, h0, f0, xs, ex, rx⟩ := ko.addr hi
  refine ⟨.ref a, ha, .inl ⟨rfl, xs, SqL.of ex⟩, h σ F H ko _ fun v F1 H1 s g w z => ?_⟩
  obtain ⟨d, rfl, k⟩ := k s w
  obtain ⟨a', ha', _, _, xs', ex', rx'⟩ := (ko.gr g).addr hi
  rw [ha] at ha'
  cases ha'
  refine ⟨a, xs', v, rfl, rfl, ex', by rw [rx'.length]; exact Nat.lt_trans hl (by decide), n _ _ F1 _ ((ko.gr g).put hi ha ?_) g.ff k⟩
  exact ⟨_, upd_same, rx'.snoc z⟩
/-- xs[j] = e -/
theorem ec_setL {ds : List D} {j : Nat} {d : D} (hi : Γ[i]? = some (.own (.lst ds))) (h : EvE W te Γ (.dat d)) (hj : EvE W tb Γ (.dat (.int j))) (hl : j < ds.length) (k : P.nx (Γ.set i (.own (.lst (ds.set j d))))) :
    Ec W (tAsg te (gSub (tVar i) tb rSetL)) Γ P := fun σ F H ko Z n r br c => by
  refine h σ F H ko _ fun v F1 H1 g z => ?_
  have k1 := ko.gr g
  obtain ⟨a, ha, h0, f0, xs, ex, rx⟩ := k1.addr hi
  refine ⟨.ref a, ha, hj σ F1 H1 k1 _ fun w F2 H2 g2 z2 => ?_⟩
  cases (show Rep F2 w (.int j) from z2)
  have k2 := k1.gr g2
  obtain ⟨a', ha', _, _, xs', ex', rx'⟩ := k2.addr hi
  rw [ha] at ha'
  cases ha'
  refine ⟨a, xs', j, j, rfl, rfl, ex', ?_, n _ _ F2 _ (k2.put hi ha ?_) (g.ff.trans g2.ff) k⟩
  · unfold ixN
    rw [if_pos (Int.natCast_nonneg j), if_pos (by rw [rx'.length]; omega), Int.toNat_natCast]
  · exact ⟨_, upd_same, rx'.set (Rep.mono g2.ff z) j⟩
/-- d[k] = e -/
theorem ec_putD {kvs : List (Key × D)} {ky : Key} {d : D} (hi : Γ[i]? = some (.own (.dic kvs))) (h : EvE W te Γ (.dat d)) (hj : EvE W tb Γ (.dat (kD ky))) (hl : kvs.length < 1000) (k : P.nx (Γ.set i (.own (.dic (pt kvs ky d))))) :
    Ec W (sDPut (tVar i) tb te) Γ P := fun σ F H ko Z n r br c => by
  refine h σ F H ko _ fun v F1 H1 g z => ?_
  have k1 := ko.gr g
  obtain ⟨a, ha, h0, f0, xs, ex, rx⟩ := k1.addr hi
  refine ⟨.ref a, ha, hj σ F1 H1 k1 _ fun w F2 H2 g2 z2 => ?_⟩
  rw [key_rep z2]
  have k2 := k1.gr g2
  obtain ⟨a', ha', _, _, xs', ex', rx'⟩ := k2.addr hi
  rw [ha] at ha'
  cases ha'
  refine ⟨a, _, rfl, .inl ⟨xs', ky, ex', rfl, by rw [rx'.length]; exact Nat.lt_trans hl (by decide), rfl⟩, n _ _ F2 _ (k2.put hi ha ?_) (g.ff.trans g2.ff) k⟩
  exact ⟨_, upd_same, rx'.put (Rep.mono g2.ff z)⟩
/-- xs.insert(j, e) -/
def rIns : V → List V → Hp → VK → Prop := fun x vs H Q => ∃ (l : Addr) (xs : List V) (i : Int) (y : V), x = .ref l ∧ vs = [.int i, y] ∧ H l = some (.lst xs) ∧ xs.length < sizeLine ∧ 0 ≤ i ∧ i < 2 ^ 63 ∧ Q .non (upd H l (.lst (xs.take i.toNat ++ [y] ++ xs.drop i.toNat)))
theorem mt_ins {X : Cx} : MtR X "list.insert" rIns := mt_insert
theorem ec_ins {K : PySem.W.Frag} {ds : List D} {d : D} (hi : Γ[i]? = some (.own (.lst ds))) (hj : Ev W tb Γ R) (hR : ∀ s, R s → ∃ j : Nat, s = .dat (.int j) ∧ j < 1000 ∧ P.nx (Γ.set i (.own (.lst (ds.take j ++ [d] ++ ds.drop j))))) (h : EvE W te Γ (.dat d)) (hl : ds.length < 1000) :
    Ec W (tDrop (tBM K "list" rIns (tVar i) (tCons tb (tCons te tNil)))) Γ P := fun σ F H ko Z n r br c => by
  obtain ⟨a, ha, h0, f0, xs, ex, rx⟩ := ko.addr hi
  refine ⟨.ref a, ha, .inl ⟨rfl, xs, SqL.of ex⟩, hj σ F H ko _ fun w F1 H1 s g wr z => ?_⟩
  obtain ⟨j, rfl, hj, k⟩ := hR s wr
  cases (show Rep F1 w (.int j) from z)
  refine h σ F1 H1 (ko.gr g) _ fun v F2 H2 g2 z2 => ?_
  have k2 := (ko.gr g).gr g2
  obtain ⟨a', ha', _, _, xs', ex', rx'⟩ := k2.addr hi
  rw [ha] at ha'
  cases ha'
  refine ⟨a, xs', j, v, rfl, rfl, ex', by rw [rx'.length]; exact Nat.lt_trans hl (by decide), by omega, by omega, n _ _ F2 _ (k2.put hi ha ?_) (g.ff.trans g2.ff) k⟩
  rw [Int.toNat_natCast]
  exact ⟨_, upd_same, ((rx'.take j).append (.cons z2 .nil)).append (rx'.drop j)⟩

/-! ### targets -/
/-- σ' parts from σ at the places js alone -/
def At (js : List Nat) (σ σ' : St) : Prop := σ'.length = σ.length ∧ ∀ j, j ∉ js → σ'[j]? = σ[j]?
/-- the target g, given the data d, turns Γ into Γ'; it stores at the places js -/
def TgE (W : Wd) (g : TG) (js : List Nat) (d : D) (Γ Γ' : List Sl) : Prop := ∀ σ F H v, Ok W Γ σ F H → Rep F v d → ∀ Q : St → Hp → Prop, (∀ σ', Ok W Γ' σ' F H → At js σ σ' → Q σ' H) → g v σ H Q
def TgsE (W : Wd) (g : TGs) (js : List Nat) (ds : List D) (Γ Γ' : List Sl) : Prop := ∀ σ F H vs, Ok W Γ σ F H → Reps F vs ds → ∀ Q : St → Hp → Prop, (∀ σ', Ok W Γ' σ' F H → At js σ σ' → Q σ' H) → g vs σ H Q
theorem tg_name {d : D} : TgE W (gName i) [i] d Γ (Γ.set i (.dat d)) := fun σ F H v k r Q q => q _ (k.set (s := .dat d) (.refl k.ok) r (fun _ h => nomatch h) i) ⟨List.length_set .., fun j hj => List.getElem?_set_ne fun e => hj (by rw [e]; exact List.mem_singleton.mpr rfl)⟩
theorem tg_tup {K : PySem.W.Frag} {g : TGs} {n : Nat} {js : List Nat} {ds : List D} {Γ' : List Sl} (h : TgsE W g js ds Γ Γ') (hn : ds.length = n) : TgE W (gTup K n g) js (.tup ds) Γ Γ' := fun σ F H v k r Q q => by
  cases r with
  | tup e rs => exact ⟨_, _, rfl, SqT.of (k.ok.le _ _ e), rs.length.trans hn, h σ F H _ k rs Q q⟩
theorem tgs_nil : TgsE W gNil [] [] Γ Γ := fun σ F H vs k r Q q => by
  cases r
  exact ⟨rfl, q σ k ⟨rfl, fun _ _ => rfl⟩⟩
theorem tgs_cons {g : TG} {gs : TGs} {d : D} {js ks : List Nat} {ds : List D} {Γ1 Γ2 : List Sl} (h : TgE W g js d Γ Γ1) (h2 : TgsE W gs ks ds Γ1 Γ2) : TgsE W (gCons g gs) (js ++ ks) (d :: ds) Γ Γ2 := fun σ F H vs k r Q q => by
  cases r with
  | cons r1 r2 => exact ⟨_, _, rfl, h σ F H _ k r1 _ fun σ' k' a => h2 σ' F H _ k' r2 Q fun σ2 k2 b => q σ2 k2 ⟨b.1.trans a.1, fun j hj => (b.2 j fun z => hj (List.mem_append_right _ z)).trans (a.2 j fun z => hj (List.mem_append_left _ z))⟩⟩
/-- a, b, .. = a tuple -/
theorem ec_unp {g : TG} {d : D} {js : List Nat} {Γ' : List Sl} (h : EvE W te Γ (.dat d)) (hg : TgE W g js d Γ Γ') (k : P.nx Γ') : Ec W (tAsg te g) Γ P := fun σ F H ko Z n r br c =>
  h σ F H ko _ fun v F1 H1 g1 z => hg σ F1 H1 v (ko.gr g1) z _ fun σ' k' _ => n _ _ F1 H1 k' g1.ff k
theorem ec_unpS {g : TG} {d : D} {js : List Nat} {Γ' : List Sl} (h : EvE W te Γ (.dat d)) (hg : TgE W g js d Γ Γ') (k : Ec W u Γ' P) : Ec W (tSeq (tAsg te g) u) Γ P := ec_seq (M := fun G => G = Γ') (ec_unp h hg rfl) fun _ e => by subst e; exact k

/-! ### what is walked -/
/-- the walk gives the data ds, one by one -/
def ItV (W : Wd) (J : It) (F1 : Hp) (ds : List D) : Prop := ∀ i F' H', Sok W F' H' → Le F1 F' →
  (∀ d, ds[i]? = some d → J.go i H' ∧ ∀ x H2, J.yld i H' x H2 → ∃ F2, Gr W F' H' F2 H2 ∧ Rep F2 x d) ∧ (i = ds.length → J.stop i H')
def ItR (W : Wd) (ti : TI) (Γ : List Sl) (S : List D → Prop) : Prop := ∀ σ F H, Ok W Γ σ F H → ∀ R : It → Hp → Prop, (∀ J F1 H1 ds, Gr W F H F1 H1 → S ds → ItV W J F1 ds → R J H1) → ti σ H R
def ItE (W : Wd) (ti : TI) (Γ : List Sl) (ds : List D) : Prop := ItR W ti Γ fun es => es = ds
theorem ec_forR {g : TG} {ti : TI} {S : List D → Prop} (h : ItR W ti Γ S) (Inv : List D → Nat → List Sl → Prop) (h0 : ∀ ds, S ds → Inv ds 0 Γ)
    (hs : ∀ ds (i : Nat) (d : D) Γ1, S ds → ds[i]? = some d → Inv ds i Γ1 → ∃ js Γ2, TgE W g js d Γ1 Γ2 ∧ Ec W t Γ2 { nx := Inv ds (i + 1), ct := Inv ds (i + 1), bk := P.nx, rt := P.rt })
    (hd : ∀ ds Γ1, S ds → Inv ds ds.length Γ1 → P.nx Γ1) : Ec W (tFor ti g t) Γ P := fun σ F H ko Z n r br c => by
  refine h σ F H ko _ fun J F1 H1 ds g1 hS hJ => ?_
  refine ⟨fun i m σ' H' => m = ds.length - i ∧ i ≤ ds.length ∧ ∃ Γ1 F', Ok W Γ1 σ' F' H' ∧ Le F1 F' ∧ Inv ds i Γ1, ⟨ds.length, rfl, Nat.zero_le _, Γ, F1, ko.gr g1, Le.refl _, h0 ds hS⟩, ?_⟩
  rintro i m σ' H' ⟨rfl, hi, Γ1, F', k1, le1, hI⟩
  obtain ⟨hgo, hst⟩ := hJ i F' H' k1.ok le1
  by_cases hlt : i < ds.length
  · obtain ⟨go, yl⟩ := hgo ds[i] (List.getElem?_eq_getElem hlt)
    obtain ⟨js, Γ2, tg, body⟩ := hs ds i ds[i] Γ1 hS (List.getElem?_eq_getElem hlt) hI
    refine .inr ⟨go, fun σ2 H2 => ∃ Γ3 F3, Ok W Γ3 σ2 F3 H2 ∧ Le F1 F3 ∧ Inv ds (i + 1) Γ3, fun σ2 H2 ⟨Γ3, F3, a, b, c⟩ => ⟨ds.length - (i + 1), by omega, rfl, hlt, Γ3, F3, a, b, c⟩, fun x H2 y => ?_⟩
    obtain ⟨F2, g2, rx⟩ := yl x H2 y
    refine tg σ' F2 H2 x (k1.gr g2) rx _ fun σ3 k3 _ => ?_
    exact body σ3 F2 H2 k3 _ (fun Γ' σ4 F4 H4 k4 l4 q4 => ⟨Γ', F4, k4, (le1.trans g2.ff).trans l4, q4⟩) r (fun Γ' σ4 F4 H4 k4 l4 q4 => n Γ' σ4 F4 H4 k4 ((g1.ff.trans (le1.trans g2.ff)).trans l4) q4) fun Γ' σ4 F4 H4 k4 l4 q4 => ⟨Γ', F4, k4, (le1.trans g2.ff).trans l4, q4⟩
  · have e : i = ds.length := by omega
    subst e
    exact .inl ⟨hst rfl, n Γ1 σ' F' H' k1 (g1.ff.trans le1) (hd ds Γ1 hS hI)⟩
theorem ec_for {g : TG} {ti : TI} {ds : List D} (h : ItE W ti Γ ds) (Inv : Nat → List Sl → Prop) (h0 : Inv 0 Γ)
    (hs : ∀ (i : Nat) (d : D) Γ1, ds[i]? = some d → Inv i Γ1 → ∃ js Γ2, TgE W g js d Γ1 Γ2 ∧ Ec W t Γ2 { nx := Inv (i + 1), ct := Inv (i + 1), bk := P.nx, rt := P.rt })
    (hd : ∀ Γ1, Inv ds.length Γ1 → P.nx Γ1) : Ec W (tFor ti g t) Γ P :=
  ec_forR h (fun _ => Inv) (fun _ _ => h0) (fun es i d Γ1 e => by subst e; exact hs i d Γ1) fun es Γ1 e => by subst e; exact hd Γ1
theorem ec_while {tt : TT} (Inv : Nat → List Sl → Prop) (m0 : Nat) (h0 : Inv m0 Γ)
    (hs : ∀ m Γ1, Inv m Γ1 → ∃ b, EvTE W tt Γ1 b ∧ (b = true → Ec W t Γ1 { nx := fun G => ∃ m', m' < m ∧ Inv m' G, ct := fun G => ∃ m', m' < m ∧ Inv m' G, bk := P.nx, rt := P.rt }) ∧ (b = false → P.nx Γ1)) :
    Ec W (tWhile tt t) Γ P := fun σ F H ko Z n r br c => by
  refine ⟨fun m σ' H' => ∃ Γ1 F', Ok W Γ1 σ' F' H' ∧ Le F F' ∧ Inv m Γ1, ⟨m0, Γ, F, ko, Le.refl _, h0⟩, ?_⟩
  rintro m σ' H' ⟨Γ1, F', k1, le1, hI⟩
  obtain ⟨b, ht, h1, h2⟩ := hs m Γ1 hI
  refine ht σ' F' H' k1 _ fun F2 H2 g2 => ?_
  cases b with
  | true =>
    rw [if_pos rfl]
    refine ⟨fun σ2 H2 => ∃ m', m' < m ∧ ∃ Γ3 F3, Ok W Γ3 σ2 F3 H2 ∧ Le F F3 ∧ Inv m' Γ3, fun σ2 H2 ⟨m', hm, q⟩ => ⟨m', hm, q⟩, ?_⟩
    exact h1 rfl σ' F2 H2 (k1.gr g2) _ (fun Γ' σ4 F4 H4 k4 l4 ⟨m', hm, q4⟩ => ⟨m', hm, Γ', F4, k4, (le1.trans g2.ff).trans l4, q4⟩) r (fun Γ' σ4 F4 H4 k4 l4 q4 => n Γ' σ4 F4 H4 k4 ((le1.trans g2.ff).trans l4) q4)
      fun Γ' σ4 F4 H4 k4 l4 ⟨m', hm, q4⟩ => ⟨m', hm, Γ', F4, k4, (le1.trans g2.ff).trans l4, q4⟩
  | false =>
    rw [if_neg Bool.false_ne_true]
    exact n Γ1 σ' F2 H2 (k1.gr g2) (le1.trans g2.ff) (h2 rfl)
end

/-! ### comprehensions -/
theorem wipe_get (σ : St) (j : Nat) : ∀ vs : List Nat, (wipe σ vs)[j]? = if j ∈ vs ∧ j < σ.length then some none else σ[j]?
  | [] => by rw [if_neg (fun h => nomatch h.1)]; rfl
  | v :: vs => by
    have ih := wipe_get σ j vs
    show ((wipe σ vs).set v none)[j]? = _
    by_cases e : v = j
    · subst e
      by_cases hl : v < σ.length
      · rw [List.getElem?_set_self (by rw [wipe_length]; exact hl), if_pos ⟨List.mem_cons_self .., hl⟩]
      · rw [if_neg (fun z => hl z.2), List.getElem?_eq_none (by rw [List.length_set, wipe_length]; omega), List.getElem?_eq_none (by omega)]
    · rw [List.getElem?_set_ne e, ih]
      have : (j ∈ v :: vs ∧ j < σ.length) ↔ (j ∈ vs ∧ j < σ.length) := by
        rw [List.mem_cons]
        exact ⟨fun ⟨a, b⟩ => ⟨a.resolve_left (Ne.symm e), b⟩, fun ⟨a, b⟩ => ⟨.inr a, b⟩⟩
      by_cases q : j ∈ vs ∧ j < σ.length
      · rw [if_pos q, if_pos (this.mpr q)]
      · rw [if_neg q, if_neg fun z => q (this.mp z)]
theorem wipe_back {σ σ2 : St} {js vs : List Nat} (h : At js (wipe σ vs) σ2) (hs : ∀ j ∈ js, j ∈ vs) : wipe σ2 vs = wipe σ vs := by
  have hl : σ2.length = σ.length := h.1.trans (wipe_length σ vs)
  refine List.ext_getElem? fun j => ?_
  rw [wipe_get, wipe_get, hl]
  by_cases q : j ∈ vs ∧ j < σ.length
  · rw [if_pos q, if_pos q]
  · rw [if_neg q, if_neg q]
    by_cases hv : j ∈ vs
    · have : ¬ j < σ.length := fun z => q ⟨hv, z⟩
      rw [List.getElem?_eq_none (by omega), List.getElem?_eq_none (by omega)]
    · rw [h.2 j fun z => hv (hs j z), wipe_get, if_neg q]
def wipeG (Γ : List Sl) : List Nat → List Sl
  | [] => Γ
  | v :: vs => (wipeG Γ vs).set v .no
section
variable {W : Wd} {Γ : List Sl} {σ : St} {F H : Hp}
theorem Ok.wipe (k : Ok W Γ σ F H) : ∀ vs : List Nat, Ok W (wipeG Γ vs) (wipe σ vs) F H
  | [] => k
  | v :: vs => by
    have ih := Ok.wipe k vs
    have e : Ok W ((wipeG Γ vs).set v .no) (L2.wipe σ vs) F H := ih.weak (List.length_set ..) fun i s h => by
      by_cases q : v = i
      · subst q
        have hl : v < (wipeG Γ vs).length := by
          have := (List.getElem?_eq_some_iff.mp h).1
          rwa [List.length_set] at this
        rw [List.getElem?_set_self hl] at h
        cases h
        exact .inl rfl
      · rw [List.getElem?_set_ne q] at h
        exact .inr h
    -- the slot v is forgotten in σ too
    refine ⟨e.s0, e.g, by show ((L2.wipe σ vs).set v none).length = _; rw [List.length_set]; exact e.len, fun i s h => ?_, fun i j a hi hj ei ej => ?_⟩
    · by_cases q : v = i
      · subst q
        have hl : v < (wipeG Γ vs).length := by
          have := (List.getElem?_eq_some_iff.mp h).1
          rwa [show (wipeG Γ (v :: vs)) = (wipeG Γ vs).set v .no from rfl, List.length_set] at this
        rw [show (wipeG Γ (v :: vs)) = (wipeG Γ vs).set v .no from rfl, List.getElem?_set_self hl] at h
        cases h
        trivial
      · exact (e.sl i s h).at (List.getElem?_set_ne q)
    · have ne : ∀ i, isOw (wipeG Γ (v :: vs)) i → v ≠ i := by
        rintro i ⟨o, h, h2⟩ q
        subst q
        have hl : v < (wipeG Γ vs).length := by
          have := (List.getElem?_eq_some_iff.mp h).1
          rwa [show (wipeG Γ (v :: vs)) = (wipeG Γ vs).set v .no from rfl, List.length_set] at this
        rw [show (wipeG Γ (v :: vs)) = (wipeG Γ vs).set v .no from rfl, List.getElem?_set_self hl] at h
        cases h
        exact h2 rfl
      have g1 : (L2.wipe σ (v :: vs))[i]? = (L2.wipe σ vs)[i]? := List.getElem?_set_ne (ne i hi)
      have g2 : (L2.wipe σ (v :: vs))[j]? = (L2.wipe σ vs)[j]? := List.getElem?_set_ne (ne j hj)
      exact e.ap i j a hi hj (g1 ▸ ei) (g2 ▸ ej)
/-- a list comprehension; I: what holds of what is made after i items -/
theorem ev_lcR {ti : TI} {g : TG} {tt : TT} {te : TE} {vs : List Nat} {S : List D → Prop} (h : ItR W ti Γ S) (hl : ∀ ds, S ds → ds.length ≤ 1000) (I : List D → Nat → List D → Prop) (h0 : ∀ ds, S ds → I ds 0 [])
    (hs : ∀ ds (i : Nat) (d : D) out, S ds → ds[i]? = some d → I ds i out → out.length ≤ i → ∃ js Γ2 B, TgE W g js d (wipeG Γ vs) Γ2 ∧ (∀ j ∈ js, j ∈ vs) ∧ EvT W tt Γ2 B ∧
      (B true → ∃ R, Ev W te Γ2 R ∧ ∀ s, R s → ∃ e, s = .dat e ∧ I ds (i + 1) (out ++ [e])) ∧ (B false → I ds (i + 1) out)) :
    Ev W (tLc ti g tt te vs) Γ fun s => ∃ ds out, S ds ∧ s = .own (.lst out) ∧ I ds ds.length out := fun σ F H k Q q => by
  refine h σ F H k _ fun J F1 H1 ds g1 hS hJ Dl hD => ?_
  have hDH : H Dl = none := g1.no hD
  have hm : ¬ W.M Dl := fun m => k.ok.mh Dl m hDH
  refine ⟨fun i m H' => m = ds.length - i ∧ i ≤ ds.length ∧ ∃ F' acc out, Gr W F H F' H' ∧ Le F1 F' ∧ F' Dl = none ∧ H' Dl = some (.lst acc) ∧ Reps F' acc out ∧ out.length ≤ i ∧ I ds i out,
    ⟨ds.length, rfl, Nat.zero_le _, F1, [], [], g1.put k.ok hDH (g1.ok.le.no hD), Le.refl _, g1.ok.le.no hD, upd_same, .nil, Nat.le_refl _, h0 ds hS⟩, ?_⟩
  rintro i m H' ⟨rfl, hi, F', acc, out, g', le', fD, hDl, rp, ol, hI⟩
  obtain ⟨hgo, hst⟩ := hJ i F' H' g'.ok le'
  by_cases hlt : i < ds.length
  · obtain ⟨go, yl⟩ := hgo ds[i] (List.getElem?_eq_getElem hlt)
    obtain ⟨js, Γ2, B, tg, hjs, ht, hT, hF⟩ := hs ds i ds[i] out hS (List.getElem?_eq_getElem hlt) hI ol
    refine .inr ⟨go, fun H2 => i + 1 ≤ ds.length ∧ ∃ F2 acc out, Gr W F H F2 H2 ∧ Le F1 F2 ∧ F2 Dl = none ∧ H2 Dl = some (.lst acc) ∧ Reps F2 acc out ∧ out.length ≤ i + 1 ∧ I ds (i + 1) out, fun H2 ⟨a, b⟩ => ⟨ds.length - (i + 1), by omega, rfl, a, b⟩, fun x H2 y => ?_⟩
    obtain ⟨F2, g2, rx⟩ := yl x H2 y
    have k2 : Ok W (wipeG Γ vs) (L2.wipe σ vs) F2 H2 := (k.gr (g'.trans g2)).wipe vs
    refine tg _ F2 H2 x k2 rx _ fun σ3 k3 at3 => ⟨wipe_back at3 hjs, ?_⟩
    refine ht σ3 F2 H2 k3 _ fun b F3 H3 g3 hb => ?_
    have gg := (g'.trans g2).trans g3
    have fD3 : F3 Dl = none := (g2.trans g3).out fD hDl
    have hD3 : H3 Dl = some (.lst acc) := (g2.trans g3).kp Dl _ hDl hm
    cases b with
    | true =>
      rw [if_pos rfl]
      obtain ⟨R, he, hR⟩ := hT hb
      refine he σ3 F3 H3 (k3.gr g3) _ fun v F4 H4 s g4 hr z => ?_
      obtain ⟨e, rfl, hI2⟩ := hR s hr
      have g5 := gg.trans g4
      refine ⟨acc, g4.kp Dl _ hD3 hm, ?_, hlt, F4, acc ++ [v], out ++ [e], g5.put k.ok hDH (g4.out fD3 hD3), (le'.trans ((g2.trans g3).trans g4).ff), g4.out fD3 hD3, upd_same, (rp.mono ((g2.trans g3).trans g4).ff).snoc z, by rw [List.length_append]; exact Nat.succ_le_succ ol, hI2⟩
      rw [rp.length]
      have := hl ds hS
      exact Nat.lt_of_le_of_lt (show out.length ≤ 1000 by omega) (by decide)
    | false =>
      rw [if_neg Bool.false_ne_true]
      exact ⟨hlt, F3, acc, out, gg, le'.trans (g2.trans g3).ff, fD3, hD3, rp.mono (g2.trans g3).ff, Nat.le_succ_of_le ol, hF hb⟩
  · have e : i = ds.length := by omega
    subst e
    exact .inl ⟨hst rfl, q _ F' H' _ g' ⟨ds, out, hS, rfl, hI⟩ ⟨Dl, rfl, hDH, fD, acc, hDl, rp⟩⟩
theorem et_yes {Γ : List Sl} : EvTE W tYes Γ true := fun σ F H k Q q => q F H (.refl k.ok)
theorem take_filter_map {p : D → Bool} {f : D → D} {ds : List D} {i : Nat} {d : D} (h : ds[i]? = some d) : ((ds.take (i + 1)).filter p).map f = ((ds.take i).filter p).map f ++ (if p d then [f d] else []) := by
  rw [List.take_add_one, h]
  show ((ds.take i ++ [d]).filter p).map f = _
  rw [List.filter_append, List.map_append]
  cases hp : p d
  · simp [hp]
  · simp [hp]
theorem ev_lcE {ti : TI} {g : TG} {tt : TT} {te : TE} {vs : List Nat} {ds : List D} (h : ItE W ti Γ ds) (hl : ds.length ≤ 1000) (p : D → Bool) (f : D → D)
    (hs : ∀ (i : Nat) (d : D), ds[i]? = some d → ∃ js Γ2, TgE W g js d (wipeG Γ vs) Γ2 ∧ (∀ j ∈ js, j ∈ vs) ∧ EvTE W tt Γ2 (p d) ∧ (p d = true → EvE W te Γ2 (.dat (f d)))) : EvE W (tLc ti g tt te vs) Γ (.own (.lst ((ds.filter p).map f))) := by
  have z := ev_lcR (g := g) (tt := tt) (te := te) (vs := vs) h (fun es e => by subst e; exact hl) (fun _ i out => out = ((ds.take i).filter p).map f) (fun _ _ => rfl) (fun es i d out e hd hI _ => by
    subst e
    obtain ⟨js, Γ2, tg, hj, ht, he⟩ := hs i d hd
    refine ⟨js, Γ2, fun b => b = p d, tg, hj, ht.ev rfl, fun hb => ⟨fun s => s = .dat (f d), (he hb.symm).ev rfl, fun s es => ⟨f d, es, ?_⟩⟩, fun hb => ?_⟩
    · rw [hI, take_filter_map hd, ← hb]; rfl
    · rw [hI, take_filter_map hd, ← hb]; simp)
  exact fun σ F H k Q q => z σ F H k Q fun v F' H' s g' ⟨es, out, e, es', hI⟩ zz => by
    subst e
    subst es'
    rw [List.take_length] at hI
    subst hI
    exact q v F' H' g' zz
theorem ev_lcM {ti : TI} {g : TG} {te : TE} {vs : List Nat} {ds : List D} (h : ItE W ti Γ ds) (hl : ds.length ≤ 1000) (f : D → D)
    (hs : ∀ (i : Nat) (d : D), ds[i]? = some d → ∃ js Γ2, TgE W g js d (wipeG Γ vs) Γ2 ∧ (∀ j ∈ js, j ∈ vs) ∧ EvE W te Γ2 (.dat (f d))) : EvE W (tLc ti g tYes te vs) Γ (.own (.lst (ds.map f))) := by
  have z := ev_lcE (g := g) (tt := tYes) (te := te) (vs := vs) h hl (fun _ => true) f (fun i d hd => by
    obtain ⟨js, Γ2, tg, hj, he⟩ := hs i d hd
    exact ⟨js, Γ2, tg, hj, et_yes, fun _ => he⟩)
  rw [List.filter_eq_self.mpr (fun _ _ => rfl)] at z
  exact z
/-- every item is one of R i -/
theorem ev_lcA {ti : TI} {g : TG} {te : TE} {vs : List Nat} {S : List D → Prop} (h : ItR W ti Γ S) (hl : ∀ ds, S ds → ds.length ≤ 1000) (R : D → D → Prop)
    (hs : ∀ ds (i : Nat) (d : D), S ds → ds[i]? = some d → ∃ js Γ2, TgE W g js d (wipeG Γ vs) Γ2 ∧ (∀ j ∈ js, j ∈ vs) ∧ Ev W te Γ2 fun s => ∃ e, s = .dat e ∧ R d e) :
    Ev W (tLc ti g tYes te vs) Γ fun s => ∃ ds out, S ds ∧ s = .own (.lst out) ∧ Paired R ds out := by
  have z := ev_lcR (g := g) (tt := tYes) (te := te) (vs := vs) h hl (fun ds i out => Paired R (ds.take i) out) (fun _ _ => .nil) (fun ds i d out hS hd hI _ => by
    obtain ⟨js, Γ2, tg, hj, he⟩ := hs ds i d hS hd
    refine ⟨js, Γ2, fun b => b = true, tg, hj, et_yes.ev rfl, fun _ => ⟨_, he, fun s ⟨e, es, r⟩ => ⟨e, es, ?_⟩⟩, fun hb => nomatch hb⟩
    rw [List.take_add_one, hd]
    exact Paired.snoc hI r)
  exact z.imp fun s ⟨ds, out, hS, es, hI⟩ => ⟨ds, out, hS, es, by rw [List.take_length] at hI; exact hI⟩
end
end Dn
/-! Den4: walks, dict comprehensions, instances, promises, built-ins, told by abstract slots. -/
namespace Dn
open PySem L2

/-! ### walks -/
def enumD (ds : List D) : List D := ds.mapIdx fun i d => .tup [.int (i : Nat), d]
def zipD (xs ys : List D) : List D := List.zipWith (fun x y => .tup [x, y]) xs ys
def rngD (lo : Int) (n : Nat) : List D := (List.range n).map fun i => .int (lo + (i : Nat))
theorem enumD_len (ds : List D) : (enumD ds).length = ds.length := List.length_mapIdx
theorem enumD_get (ds : List D) (i : Nat) : (enumD ds)[i]? = ds[i]?.map fun d => .tup [.int i, d] := List.getElem?_mapIdx
theorem zipD_len (xs ys : List D) : (zipD xs ys).length = min xs.length ys.length := List.length_zipWith
theorem rngD_len (lo : Int) (n : Nat) : (rngD lo n).length = n := by unfold rngD; rw [List.length_map, List.length_range]
theorem rngD_get {lo : Int} {n i : Nat} {d : D} (h : (rngD lo n)[i]? = some d) : i < n ∧ d = .int (lo + i) := by
  unfold rngD at h
  rw [List.getElem?_map] at h
  cases e : (List.range n)[i]? with
  | none => rw [e] at h; cases h
  | some j =>
    rw [e] at h
    cases h
    have hi := (List.getElem?_eq_some_iff.mp e).1
    rw [List.length_range] at hi
    rw [List.getElem?_range hi] at e
    cases e
    exact ⟨hi, rfl⟩
theorem rngD_at {lo : Int} {n i : Nat} (h : i < n) : (rngD lo n)[i]? = some (.int (lo + i)) := by
  unfold rngD
  rw [List.getElem?_map, List.getElem?_range h]
  rfl
/-- a sequence as data: a list, a tuple -/
def seqD (b : Bool) (ds : List D) : D := if b = true then .lst ds else .tup ds
theorem seq_rep {F : Hp} {v : V} {b : Bool} {ds : List D} (r : Rep F v (seqD b ds)) : ∃ a xs, v = .ref a ∧ F a = some (if b = true then .lst xs else .tup xs) ∧ Reps F xs ds := by
  cases b with
  | true => cases (show Rep F v (.lst ds) from r) with | lst e r => exact ⟨_, _, rfl, e, r⟩
  | false => cases (show Rep F v (.tup ds) from r) with | tup e r => exact ⟨_, _, rfl, e, r⟩
theorem sq_of {K : PySem.W.Frag} {H : Hp} {a : Addr} {b : Bool} {xs : List V} (h : H a = some (if b = true then .lst xs else .tup xs)) : Sq K H a b xs := by
  cases b with
  | true => exact SqL.of h
  | false => exact SqT.of h
section
variable {W : Wd} {Γ : List Sl} {K : PySem.W.Frag} {te : TE} {ta : TA}
theorem ItR.imp {ti : TI} {S S' : List D → Prop} (h : ItR W ti Γ S) (hs : ∀ ds, S ds → S' ds) : ItR W ti Γ S' := fun σ F H k R q => h σ F H k R fun J F1 H1 ds g z => q J F1 H1 ds g (hs ds z)
theorem itR_seq {R : Sl → Prop} {S : List D → Prop} (h : Ev W te Γ R) (hR : ∀ s, R s → ∃ d ds, S ds ∧ s = .dat d ∧ ((∃ b, d = seqD b ds) ∨ ∃ lo hi, d = .rng lo hi ∧ (-(2 ^ 62) ≤ lo ∧ lo < 2 ^ 62 ∧ -(2 ^ 62) ≤ hi ∧ hi < 2 ^ 62) ∧ ds = rngD lo (hi - lo).toNat)) : ItR W (iSeq K te) Γ S := fun σ F H k Q q =>
  h σ F H k _ fun v F1 H1 s g w z => by
    obtain ⟨d, ds, hS, rfl, hd⟩ := hR s w
    rcases hd with ⟨b, rfl⟩ | ⟨lo, hi, rfl, hb, rfl⟩
    · obtain ⟨a, xs, rfl, e, r⟩ := seq_rep (show Rep F1 v (seqD b ds) from z)
      have hv : ∀ F' H', Sok W F' H' → Le F1 F' → H' a = some (if b = true then .lst xs else .tup xs) := fun F' H' s l => s.le _ _ (l _ _ e)
      cases b with
      | true =>
        refine ⟨a, rfl, .inl ⟨⟨xs, SqL.of (hv F1 H1 g.ok (Le.refl _))⟩, q _ F1 H1 ds g hS fun i F' H' s l => ⟨fun d hd => ?_, fun hi => ⟨xs, SqL.of (hv F' H' s l), by rw [r.length]; exact Nat.le_of_eq hi.symm⟩⟩⟩⟩
        obtain ⟨v, hvi, rv⟩ := r.get hd
        refine ⟨⟨xs, v, SqL.of (hv F' H' s l), hvi⟩, fun x H2 ⟨e2, hx⟩ => ?_⟩
        subst e2
        have := hx xs (SqL.of (hv F' _ s l))
        rw [hvi] at this
        cases this
        exact ⟨F', .refl s, rv.mono l⟩
      | false =>
        refine ⟨a, rfl, .inr (.inl ⟨⟨xs, SqT.of (hv F1 H1 g.ok (Le.refl _))⟩, q _ F1 H1 ds g hS fun i F' H' s l => ⟨fun d hd => ?_, fun hi => ⟨xs, SqT.of (hv F' H' s l), by rw [r.length]; exact Nat.le_of_eq hi.symm⟩⟩⟩)⟩
        obtain ⟨v, hvi, rv⟩ := r.get hd
        refine ⟨⟨xs, v, SqT.of (hv F' H' s l), hvi⟩, fun x H2 ⟨e2, hx⟩ => ?_⟩
        subst e2
        have := hx xs (SqT.of (hv F' _ s l))
        rw [hvi] at this
        cases this
        exact ⟨F', .refl s, rv.mono l⟩
    · cases (show Rep F1 v (.rng lo hi) from z) with
      | rng e =>
        refine ⟨_, rfl, .inr (.inr ⟨lo, hi, g.ok.le _ _ e, hb, q _ F1 H1 _ g hS fun i F' H' s l => ⟨fun d hd => ?_, fun hi => by rw [rngD_len] at hi; exact Nat.le_of_eq hi.symm⟩⟩)⟩
        obtain ⟨hi, rfl⟩ := rngD_get hd
        refine ⟨hi, fun x H2 ⟨e2, hx⟩ => ?_⟩
        subst e2 hx
        exact ⟨F', .refl s, .int _⟩
theorem it_list {ds : List D} (h : EvE W te Γ (.dat (.lst ds))) : ItE W (iSeq K te) Γ ds := itR_seq (h.ev (R := fun s => s = .dat (.lst ds)) rfl) fun s e => ⟨.lst ds, ds, rfl, e, .inl ⟨true, rfl⟩⟩
theorem it_tup {ds : List D} (h : EvE W te Γ (.dat (.tup ds))) : ItE W (iSeq K te) Γ ds := itR_seq (h.ev (R := fun s => s = .dat (.tup ds)) rfl) fun s e => ⟨.tup ds, ds, rfl, e, .inl ⟨false, rfl⟩⟩
theorem it_range {lo hi : Int} (h : EvE W te Γ (.dat (.rng lo hi))) (hb : -(2 ^ 62) ≤ lo ∧ lo < 2 ^ 62 ∧ -(2 ^ 62) ≤ hi ∧ hi < 2 ^ 62) : ItE W (iSeq K te) Γ (rngD lo (hi - lo).toNat) := itR_seq (h.ev (R := fun s => s = .dat (.rng lo hi)) rfl) fun s e => ⟨_, _, rfl, e, .inr ⟨lo, hi, rfl, hb, rfl⟩⟩
theorem it_enum {b : Bool} {ds : List D} (h : EvAE W ta Γ [.dat (seqD b ds)]) : ItE W (iEnumB K ta) Γ (enumD ds) := fun σ F H k Q q => h σ F H k _ fun vs F1 H1 g z => by
  cases z with
  | cons z1 z2 =>
    cases z2
    obtain ⟨a, xs, rfl, e, r⟩ := seq_rep (show Rep F1 _ (seqD b ds) from z1)
    have hv : ∀ F' H', Sok W F' H' → Le F1 F' → Sq K H' a b xs := fun F' H' s l => sq_of (s.le _ _ (l _ _ e))
    refine ⟨a, b, xs, rfl, hv F1 H1 g.ok (Le.refl _), q _ F1 H1 _ g rfl fun i F' H' s l => ⟨fun d hd => ?_, fun hi => ?_⟩⟩
    · rw [enumD_get] at hd
      cases hd' : ds[i]? with
      | none => rw [hd'] at hd; cases hd
      | some d0 =>
        rw [hd'] at hd
        cases hd
        obtain ⟨v, hvi, rv⟩ := r.get hd'
        refine ⟨⟨xs, v, hv F' H' s l, hvi⟩, ?_⟩
        rintro x H2 ⟨T, x', e1, hT, e2, hx⟩
        subst e1 e2
        have := hx xs (hv F' H' s l)
        rw [hvi] at this
        cases this
        have g2 := Gr.new (o := .tup [.int (i : Nat), v]) s hT
        exact ⟨_, g2, .tup upd_same (.cons (.int _) (.cons ((rv.mono l).mono g2.ff) .nil))⟩
    · rw [enumD_len] at hi
      exact ⟨xs, hv F' H' s l, by rw [r.length]; exact hi.symm⟩
theorem it_zip {b c : Bool} {ds es : List D} (h : EvAE W ta Γ [.dat (seqD b ds), .dat (seqD c es)]) : ItE W (iZipB K ta) Γ (zipD ds es) := fun σ F H k Q q => h σ F H k _ fun vs F1 H1 g z => by
  cases z with
  | cons z1 z2 =>
    cases z2 with
    | cons z2 z3 =>
      cases z3
      obtain ⟨a, xs, rfl, e, r⟩ := seq_rep (show Rep F1 _ (seqD b ds) from z1)
      obtain ⟨a', ys, rfl, e', r'⟩ := seq_rep (show Rep F1 _ (seqD c es) from z2)
      have hv : ∀ F' H', Sok W F' H' → Le F1 F' → Sq K H' a b xs := fun F' H' s l => sq_of (s.le _ _ (l _ _ e))
      have hv' : ∀ F' H', Sok W F' H' → Le F1 F' → Sq K H' a' c ys := fun F' H' s l => sq_of (s.le _ _ (l _ _ e'))
      refine ⟨a, b, a', c, xs, ys, rfl, hv F1 H1 g.ok (Le.refl _), hv' F1 H1 g.ok (Le.refl _), q _ F1 H1 _ g rfl fun i F' H' s l => ⟨fun d hd => ?_, fun hi => ?_⟩⟩
      · unfold zipD at hd
        rw [List.getElem?_zipWith] at hd
        cases hd1 : ds[i]? with
        | none => rw [hd1] at hd; cases hd
        | some d1 =>
          cases hd2 : es[i]? with
          | none => rw [hd1, hd2] at hd; cases hd
          | some d2 =>
            rw [hd1, hd2] at hd
            cases hd
            obtain ⟨v, hvi, rv⟩ := r.get hd1
            obtain ⟨v', hvi', rv'⟩ := r'.get hd2
            refine ⟨⟨xs, ys, v, v', hv F' H' s l, hv' F' H' s l, hvi, hvi'⟩, ?_⟩
            rintro x H2 ⟨T, x1, x2, e1, hT, e2, hx, hy⟩
            subst e1 e2
            have q1 := hx xs (hv F' H' s l)
            rw [hvi] at q1
            cases q1
            have q2 := hy ys (hv' F' H' s l)
            rw [hvi'] at q2
            cases q2
            have g2 := Gr.new (o := .tup [v, v']) s hT
            exact ⟨_, g2, .tup upd_same (.cons ((rv.mono l).mono g2.ff) (.cons ((rv'.mono l).mono g2.ff) .nil))⟩
      · rw [zipD_len] at hi
        exact ⟨xs, ys, hv F' H' s l, hv' F' H' s l, by rw [r.length, r'.length]; exact hi⟩
theorem itr_v {lo : Int} {n : Nat} {F1 : Hp} : ItV W (Itr lo n) F1 (rngD lo n) := fun i F' H' s l => ⟨fun d hd => by
  obtain ⟨hi, rfl⟩ := rngD_get hd
  refine ⟨hi, fun x H2 ⟨e2, hx⟩ => ?_⟩
  subst e2 hx
  exact ⟨F', .refl s, .int _⟩, fun hi => by rw [rngD_len] at hi; exact Nat.le_of_eq hi.symm⟩
/-- range(n), n one of R -/
theorem itR_rng1 {R : List Sl → Prop} {S : List D → Prop} (h : EvA W ta Γ R) (hR : ∀ ss, R ss → ∃ n : Nat, ss = [.dat (.int n)] ∧ n < 2 ^ 62 ∧ S (rngD 0 n)) : ItR W (iRng1 ta) Γ S := fun σ F H k Q q => h σ F H k _ fun vs F1 H1 ss g w z => by
  obtain ⟨n, rfl, hn, hS⟩ := hR ss w
  cases z with
  | cons z1 z2 =>
    cases z2
    cases (show Rep F1 _ (.int n) from z1)
    have hn' : n < 4611686018427387904 := hn
    have e1 : (2 : Int) ^ 62 = 4611686018427387904 := by decide
    exact ⟨n, rfl, by omega, by omega, q _ F1 H1 _ g hS itr_v⟩
theorem it_rng1 {n : Nat} (h : EvAE W ta Γ [.dat (.int n)]) (hn : n < 2 ^ 62) : ItE W (iRng1 ta) Γ (rngD 0 n) := itR_rng1 (h.ev (R := fun ss => ss = [.dat (.int n)]) rfl) fun ss e => ⟨n, e, hn, rfl⟩
theorem it_rng2 {lo hi : Int} (h : EvAE W ta Γ [.dat (.int lo), .dat (.int hi)]) (hb : -(2 ^ 62) ≤ lo ∧ lo < 2 ^ 62 ∧ -(2 ^ 62) ≤ hi ∧ hi < 2 ^ 62) : ItE W (iRng2 ta) Γ (rngD lo (hi - lo).toNat) := fun σ F H k Q q => h σ F H k _ fun vs F1 H1 g z => by
  cases z with
  | cons z1 z2 =>
    cases z2 with
    | cons z2 z3 =>
      cases z3
      cases (show Rep F1 _ (.int lo) from z1)
      cases (show Rep F1 _ (.int hi) from z2)
      exact ⟨lo, hi, rfl, hb, q _ F1 H1 _ g rfl itr_v⟩
end
end Dn
/-! Den5: promises, instances, dict comprehensions, told by abstract slots. -/
namespace Dn
open PySem PySem.Spec PyProof.Rows L2

/-- a def's promise: M what it may change, J what holds of it, the arguments, the outcome -/
structure Prm (A : Type) where
  M : A → Addr → Prop
  J : A → Hp → Hp → Prop
  st : ∀ (x : A) {F H F' H' : Hp}, J x F H → Le F F' → (∀ a, M x a → H' a = H a) → J x F' H'
  args : A → List Sl
  res : A → Sl → Prop
def Prm.wd {A : Type} (p : Prm A) (x : A) (F H : Hp) : Wd := ⟨p.M x, p.J x, p.st x, F, H⟩
def Prm.sp {A : Type} (p : Prm A) : Sp := fun vs H Q _ => ∃ x F, Sok (p.wd x F H) F H ∧ SlVs (p.wd x F H) H F H vs (p.args x) ∧
  ∀ v F' H' s, Gr (p.wd x F H) F H F' H' → (∀ o, s ≠ .bor o) → p.res x s → SlV (p.wd x F H) H F' H' v s → Q v H'
/-- nothing is changed that stood before -/
def Prm.pu {A : Type} (args : A → List Sl) (res : A → Sl → Prop) : Prm A := ⟨fun _ _ => False, fun _ _ _ => True, fun _ {_ _ _ _} _ _ _ => trivial, args, res⟩
/-- one outcome -/
def Prm.fn {A : Type} (args : A → List Sl) (res : A → Sl) : Prm A := Prm.pu args fun x s => s = res x

theorem SlVs.isOw {W : Wd} {F H : Hp} : ∀ {vs : List V} {ss : List Sl} {i : Nat} {s : Sl}, SlVs W H F H vs ss → ss[i]? = some s → s.ow = none
  | _, _, i, s, h, e => by
    obtain ⟨v, _, hv⟩ := h.get e
    cases q : s.ow with
    | none => rfl
    | some o =>
      obtain ⟨a, _, h0, _, r⟩ := hv.ow q
      obtain ⟨u, hu⟩ := r.is
      rw [h0] at hu
      cases hu
theorem SlV.e {W : Wd} {F : Hp} {v : V} {s : Sl} {σ : L2.St} {i : Nat} (h : SlV W W.H0 F W.H0 v s) (hs : σ[i]? = some (some v)) : SlE W F W.H0 σ i s := by
  cases s with
  | no => trivial
  | dat d => exact ⟨v, hs, h⟩
  | raw u => cases h; exact hs
  | bor o => obtain ⟨a, rfl, m, r⟩ := h; exact ⟨a, hs, m, r⟩
  | own o => obtain ⟨a, rfl, h0, r⟩ := h; exact ⟨a, hs, h0, r⟩
  | slf a o => obtain ⟨rfl, h0, r⟩ := h; exact ⟨hs, h0, r⟩
theorem ok_start {W : Wd} {N : List Str} {vs : List V} {ss : List Sl} (s0 : Sok W W.F0 W.H0) (h : SlVs W W.H0 W.F0 W.H0 vs ss) : Ok W (ss ++ List.replicate (N.length - ss.length) .no) (L2.start N vs) W.F0 W.H0 := by
  have hl := h.length
  have cut : ∀ i s, (ss ++ List.replicate (N.length - ss.length) Sl.no)[i]? = some s → (i < ss.length ∧ ss[i]? = some s) ∨ s = .no := fun i s e => by
    by_cases q : i < ss.length
    · rw [List.getElem?_append_left q] at e; exact .inl ⟨q, e⟩
    · rw [List.getElem?_append_right (by omega)] at e
      rw [List.getElem?_replicate] at e
      split at e
      · cases e; exact .inr rfl
      · cases e
  have now : ∀ i, ¬ isOw (ss ++ List.replicate (N.length - ss.length) Sl.no) i := fun i ⟨s, e, hs⟩ => by
    rcases cut i s e with ⟨_, q⟩ | q
    · exact hs (h.isOw q)
    · subst q; exact hs rfl
  refine ⟨s0, .refl s0, ?_, fun i s e => ?_, fun i j a hi => absurd hi (now i)⟩
  · unfold L2.start
    rw [List.length_append, List.length_append, List.length_map, List.length_replicate, List.length_replicate, hl]
  · rcases cut i s e with ⟨hi, q⟩ | q
    · obtain ⟨v, hv, z⟩ := h.get q
      refine z.e ?_
      unfold L2.start
      rw [List.getElem?_append_left (by rw [List.length_map]; omega), List.getElem?_map, hv]
      rfl
    · subst q; trivial

section
variable {P : Program} {w : World} {K : PySem.W.Frag} {mg : Str → Option Value} {base : Heap} {x qual : Str} {params : Arguments} {body : List Stmt} {scope : Scope} {dvs : List V} {kws : List (Str × V)} {f : Addr} {fd : FuncData}
theorem Prm.len {A : Type} (p : Prm A) {n : Nat} (hl : ∀ x, (p.args x).length = n) : ∀ vs H Q E, p.sp vs H Q E → vs.length = n := fun vs H Q E ⟨x, F, _, h, _⟩ => h.length.trans (hl x)
/-- a def keeps its promise: its body's reading does -/
theorem Prm.ok {A : Type} (p : Prm A) {N ps : List Str} {k : Nat} (F : FunD K x qual params body scope dvs kws f fd) (S : FnScope N ps scope) (hl : ∀ x, (p.args x).length = ps.length)
    (hbody : ∀ (cdv : Value) (A' : Around) (outer : List Env) (s : Shared) (H : Hp) (E : XK), Room k (A'.deeper (envOfC qual scope s.heap.objs.size f cdv)) →
      ∃ t, PSs (cxOf C8.CX0 P w K mg base N qual scope f cdv A' outer s H E) body t ∧ ∀ x F H, Ec (p.wd x F H) t (p.args x ++ List.replicate (N.length - ps.length) .no) (Po.fn (p.res x))) : FnOk P w K mg base C8.CX0 (k + 1) f fd ps p.sp := by
  refine F.ok S (p.len hl) fun cdv A' outer s H vs Q E hr h => ?_
  obtain ⟨t, ht, hE⟩ := hbody cdv A' outer s H E hr
  refine ⟨t, ht, ?_⟩
  obtain ⟨y, Fz, s0, hv, q⟩ := h
  have k0 := ok_start (W := p.wd y Fz H) (N := N) s0 hv
  have ll : (p.args y).length = ps.length := hl y
  rw [ll] at k0
  exact hE y Fz H _ _ _ k0 _ (fun Γ' σ' F' H' k' _ m => q .non F' H' (.dat .non) k'.g (fun _ z => nomatch z) m .non) (fun v F' H' s' g nb m z => q v F' H' s' g nb m z) (fun _ _ _ _ _ _ m => m.elim) fun _ _ _ _ _ _ m => m.elim
end

/-! ### calls -/
section
variable {A : Type} {W : Wd} {Γ : List Sl} {ta : TA} {te : TE} (p : Prm A)
/-- the callee's world within the caller's -/
structure Fits (W : Wd) (p : Prm A) (x : A) : Prop where
  m : ∀ a, p.M x a → W.M a
  j : ∀ F H, Sok W F H → p.J x F H
  b : ∀ F H F' H', Sok W F H → Gr (p.wd x F H) F H F' H' → W.J F' H'
theorem fits_pure {args : A → List Sl} {res : A → Sl → Prop} {x : A} : Fits W (Prm.pu args res) x := ⟨fun _ h => h.elim, fun _ _ _ => trivial, fun F H F' H' s g => W.st s.j g.ff fun a m => by
  cases e : H a with
  | none => exact absurd e (s.mh a m)
  | some o => exact g.kp a o e fun h => h⟩
variable {p}
theorem Fits.sok {x : A} (f : Fits W p x) {F H : Hp} (s : Sok W F H) : Sok (p.wd x F H) F H := ⟨s.le, fun a m => s.mf a (f.m a m), fun a m => s.mh a (f.m a m), f.j F H s⟩
theorem Fits.gr {x : A} (f : Fits W p x) {F H F' H' : Hp} (s : Sok W F H) (g : Gr (p.wd x F H) F H F' H') : Gr W F H F' H' := by
  refine ⟨⟨g.ok.le, fun a m => ?_, fun a m => ?_, f.b F H F' H' s g⟩, g.ff, g.nw, fun a o e m => g.kp a o e fun z => m (f.m a z)⟩
  · cases e : F' a with
    | none => rfl
    | some o =>
      rcases g.nw a o e with q | q
      · rw [s.mf a m] at q; cases q
      · exact absurd q (s.mh a m)
  · by_cases q : p.M x a
    · exact g.ok.mh a q
    · cases e : H a with
      | none => exact absurd e (s.mh a m)
      | some o => rw [g.kp a o e q]; exact fun z => nomatch z
theorem Fits.arg1 {x : A} (f : Fits W p x) {Hb F H : Hp} {v : V} {s : Sl} (h : s.ow = none) (z : SlV W Hb F H v s) : SlV (p.wd x F H) H F H v s := by
  cases s with
  | no => trivial
  | dat d => exact z
  | raw u => exact z
  | bor o => obtain ⟨a, e, m, r⟩ := z; exact ⟨a, e, fun q => m (f.m a q), r⟩
  | own o => cases h
  | slf a o => cases h
theorem Fits.arg {x : A} (f : Fits W p x) {Hb F H : Hp} : ∀ {vs : List V} {ss : List Sl}, (∀ s ∈ ss, s.ow = none) → SlVs W Hb F H vs ss → SlVs (p.wd x F H) H F H vs ss
  | [], [], _, _ => .nil
  | _ :: _, _ :: _, h, z => by
    cases z with
    | cons z1 z2 => exact .cons (f.arg1 (h _ (List.mem_cons_self ..)) z1) (Fits.arg f (fun s hs => h s (List.mem_cons_of_mem _ hs)) z2)
  | [], _ :: _, _, z => by cases z
  | _ :: _, [], _, z => by cases z
theorem Fits.res {x : A} {F H F' H' : Hp} {v : V} {s : Sl} (hb : ∀ o, s ≠ .bor o) (z : SlV (p.wd x F H) H F' H' v s) : SlV W H F' H' v s := by
  cases s with
  | no => trivial
  | dat d => exact z
  | raw u => exact z
  | bor o => exact absurd rfl (hb o)
  | own o => exact z
  | slf a o => exact z
def noOw (ss : List Sl) : Bool := ss.all fun s => s.ow.isNone
theorem noOw_of {ss : List Sl} (h : noOw ss = true) : ∀ s ∈ ss, s.ow = none := fun s hs => Option.isNone_iff_eq_none.mp (List.all_eq_true.mp h s hs)
theorem sp_run {x : A} (f : Fits W p x) {Hb F H : Hp} {vs : List V} (s0 : Sok W F H) (n : noOw (p.args x) = true) (z : SlVs W Hb F H vs (p.args x)) {Q : VK} {E : XK} (q : ∀ v F' H' s, Gr W F H F' H' → (p.res x s ∧ ∀ o, s ≠ .bor o) → SlV W H F' H' v s → Q v H') : p.sp vs H Q E :=
  ⟨x, F, f.sok s0, f.arg (noOw_of n) z, fun v F' H' s g nb r w => q v F' H' s (f.gr s0 g) ⟨r, nb⟩ (Fits.res nb w)⟩
/-- f(..) -/
theorem ev_call (x : A) (ha : EvAE W ta Γ (p.args x)) (f : Fits W p x) (n : noOw (p.args x) = true) : Ev W (tCall p.sp [] C8.E0 ta) Γ fun s => p.res x s ∧ ∀ o, s ≠ .bor o := fun σ F H k Q q =>
  ha σ F H k _ fun vs F1 H1 g1 z1 => by
    rw [List.append_nil]
    exact sp_run f g1.ok n z1 fun v F2 H2 s g2 r w => q v F2 H2 s (g1.trans g2) r (w.back fun a => g1.no)
theorem ev_callR {R : List Sl → Prop} {T : Sl → Prop} (ha : EvA W ta Γ R) (h : ∀ ss, R ss → ∃ x, ss = p.args x ∧ Fits W p x ∧ noOw (p.args x) = true ∧ ∀ s, p.res x s → (∀ o, s ≠ .bor o) → T s) : Ev W (tCall p.sp [] C8.E0 ta) Γ T := fun σ F H k Q q =>
  ha σ F H k _ fun vs F1 H1 ss g1 w1 z1 => by
    obtain ⟨x, rfl, f, n, hT⟩ := h ss w1
    rw [List.append_nil]
    exact sp_run f g1.ok n z1 fun v F2 H2 s g2 r w => q v F2 H2 s (g1.trans g2) (hT s r.1 r.2) (w.back fun a => g1.no)
/-- o.m(..) -/
theorem ev_meth {C : Addr} {m : Str} {fs : List (Str × D)} {ss : List Sl} (x : A) (ho : EvE W te Γ (.dat (.ins C fs))) (hm : fs.lookup m = none) (ha : EvAE W ta Γ ss) (e : p.args x = .dat (.ins C fs) :: ss) (f : Fits W p x) (n : noOw (p.args x) = true) :
    Ev W (tMeth C m p.sp [] C8.E0 te ta) Γ fun s => p.res x s ∧ ∀ o, s ≠ .bor o := fun σ F H k Q q =>
  ho σ F H k _ fun v F0 H0 g0 z0 => by
    have z0' : Rep F0 v (.ins C fs) := z0
    cases z0' with
    | ins e1 r1 =>
      refine ⟨_, _, _, rfl, g0.ok.le _ _ e1, r1.lookN hm, ha σ F0 H0 (k.gr g0) _ fun vs F1 H1 g1 z1 => ?_⟩
      rw [List.append_nil]
      refine sp_run (Hb := H) f g1.ok n (by rw [e]; exact .cons (SlV.gr (s := .dat (.ins C fs)) z0 k.ok.mh g1) (SlVs.back (fun a => g0.no) z1)) fun v F2 H2 s g2 r w => q v F2 H2 s ((g0.trans g1).trans g2) r (w.back fun a => (g0.trans g1).no)
theorem ev_methR {C : Addr} {m : Str} {fs : List (Str × D)} {R : List Sl → Prop} {T : Sl → Prop} (ho : EvE W te Γ (.dat (.ins C fs))) (hm : fs.lookup m = none) (ha : EvA W ta Γ R) (h : ∀ ss, R ss → ∃ x, p.args x = .dat (.ins C fs) :: ss ∧ Fits W p x ∧ noOw (p.args x) = true ∧ ∀ s, p.res x s → (∀ o, s ≠ .bor o) → T s) :
    Ev W (tMeth C m p.sp [] C8.E0 te ta) Γ T := fun σ F H k Q q =>
  ho σ F H k _ fun v F0 H0 g0 z0 => by
    have z0' : Rep F0 v (.ins C fs) := z0
    cases z0' with
    | ins e1 r1 =>
      refine ⟨_, _, _, rfl, g0.ok.le _ _ e1, r1.lookN hm, ha σ F0 H0 (k.gr g0) _ fun vs F1 H1 ss g1 w1 z1 => ?_⟩
      obtain ⟨x, e, f, n, hT⟩ := h ss w1
      rw [List.append_nil]
      refine sp_run (Hb := H) f g1.ok n (by rw [e]; exact .cons (SlV.gr (s := .dat (.ins C fs)) z0 k.ok.mh g1) (SlVs.back (fun a => g0.no) z1)) fun v F2 H2 s g2 r w => q v F2 H2 s ((g0.trans g1).trans g2) (hT s r.1 r.2) (w.back fun a => (g0.trans g1).no)
/-- o.f, a property -/
theorem ev_prop {C : Addr} {fs : List (Str × D)} (x : A) (ho : EvE W te Γ (.dat (.ins C fs))) (e : p.args x = [.dat (.ins C fs)]) (f : Fits W p x) : Ev W (tProp C p.sp [] C8.E0 te) Γ fun s => p.res x s ∧ ∀ o, s ≠ .bor o := fun σ F H k Q q =>
  ho σ F H k _ fun v F0 H0 g0 z0 => by
    have z0' : Rep F0 v (.ins C fs) := z0
    cases z0' with
    | ins e1 r1 =>
      refine ⟨_, _, _, rfl, g0.ok.le _ _ e1, ?_⟩
      exact sp_run (Hb := H) f g0.ok (by rw [e]; rfl) (by rw [e]; exact .cons z0 .nil) fun v F2 H2 s g2 r w => q v F2 H2 s (g0.trans g2) r (w.back fun a => g0.no)
/-- f(e, .., k = v, ..) -/
theorem ev_callN {n m : Nat} {gV : List V → List V → List V} {tk : TA} {as ks : List Sl} (x : A) (ha : EvAE W ta Γ as) (hk : EvAE W tk Γ ks) (hg : ∀ {H F' H' : Hp} {vs zs : List V}, SlVs W H F' H' vs as → SlVs W H F' H' zs ks → SlVs W H F' H' (gV vs zs) (p.args x)) (h1 : as.length = n) (h2 : ks.length = m) (f : Fits W p x) (no : noOw (p.args x) = true) :
    Ev W (tCallN n m p.sp gV C8.E0 ta tk) Γ fun s => p.res x s ∧ ∀ o, s ≠ .bor o := fun σ F H k Q q =>
  ha σ F H k _ fun vs F1 H1 g1 z1 => hk σ F1 H1 (k.gr g1) _ fun zs F2 H2 g2 z2 => by
    refine ⟨z1.length.trans h1, z2.length.trans h2, ?_⟩
    exact sp_run (Hb := H) f g2.ok no (hg (SlVs.gr k.ok.mh g2 z1) (SlVs.back (fun a => g1.no) z2)) fun v F3 H3 s g3 r w => q v F3 H3 s ((g1.trans g2).trans g3) r (w.back fun a => (g1.trans g2).no)

/-! .. of one outcome -/
theorem ev_one {te : TE} {t : Sl} {R : Sl → Prop} (h : Ev W te Γ R) (e : ∀ s, R s → s = t) : EvE W te Γ t := fun σ F H k Q q => h σ F H k Q fun v F' H' s g w z => by
  rw [e s w] at z
  exact q v F' H' g z
section
variable {args : A → List Sl} {res : A → Sl}
theorem evf_call (x : A) (ha : EvAE W ta Γ (args x)) (n : noOw (args x) = true) : EvE W (tCall (Prm.fn args res).sp [] C8.E0 ta) Γ (res x) := ev_one (ev_call (p := Prm.fn args res) x ha fits_pure n) fun s h => h.1
theorem evf_meth {C : Addr} {m : Str} {fs : List (Str × D)} {ss : List Sl} (x : A) (ho : EvE W te Γ (.dat (.ins C fs))) (hm : fs.lookup m = none) (ha : EvAE W ta Γ ss) (e : args x = .dat (.ins C fs) :: ss) (n : noOw (args x) = true) : EvE W (tMeth C m (Prm.fn args res).sp [] C8.E0 te ta) Γ (res x) := ev_one (ev_meth (p := Prm.fn args res) x ho hm ha e fits_pure n) fun s h => h.1
theorem evf_prop {C : Addr} {fs : List (Str × D)} (x : A) (ho : EvE W te Γ (.dat (.ins C fs))) (e : args x = [.dat (.ins C fs)]) : EvE W (tProp C (Prm.fn args res).sp [] C8.E0 te) Γ (res x) := ev_one (ev_prop (p := Prm.fn args res) x ho e fits_pure) fun s h => h.1
end
end

/-! ### instances -/
section
variable {W : Wd} {Γ : List Sl} {K : PySem.W.Frag} {te tv : TE} {P : Po}
/-- e.f -/
theorem ev_fld {C : Addr} {f : Str} {fs : List (Str × D)} {d : D} (c : Cls K C) (na : NoAttr K C f) (h : EvE W te Γ (.dat (.ins C fs))) (hd : fs.lookup f = some d) : EvE W (tFld K te f) Γ (.dat d) := fun σ F H k Q q =>
  h σ F H k _ fun v F1 H1 g z => by
    cases (show Rep F1 v (.ins C fs) from z) with
    | ins e r =>
      obtain ⟨v, hv, rv⟩ := r.look hd
      exact ⟨_, _, _, _, v, rfl, g.ok.le _ _ e, c, na, hv, q v F1 H1 g rv⟩
/-- e.f of an own instance that is only read -/
theorem ev_fldB {C : Addr} {f : Str} {fs : List (Str × D)} {d : D} (c : Cls K C) (na : NoAttr K C f) (h : EvE W te Γ (.bor (.ins C fs))) (hd : fs.lookup f = some d) : EvE W (tFld K te f) Γ (.dat d) := fun σ F H k Q q =>
  h σ F H k _ fun v F1 H1 g z => by
    obtain ⟨a, rfl, m, dx, xs, e, r⟩ := z
    obtain ⟨v, hv, rv⟩ := r.look hd
    exact ⟨_, _, _, _, v, rfl, e, c, na, hv, q v F1 H1 g rv⟩
theorem Paired.lenF {F : Hp} {xs : List (Str × V)} {ds : List (Str × D)} (h : RepF F xs ds) : xs.length = ds.length := h.length
/-- self.f = e, self an object whose address is told -/
theorem ec_fld {C a : Addr} {f : Str} {fs : List (Str × D)} {d : D} {i : Nat} (c : Cls K C) (na : NoAttr K C f) (hi : Γ[i]? = some (.slf a (.ins C fs))) (h : EvE W tv Γ (.dat d)) (hl : fs.length < 1000) (k : P.nx (Γ.set i (.slf a (.ins C (ptF f d fs))))) : Ec W (sFld K (tVar i) tv f) Γ P := fun σ F H ko Z n r b ct =>
  h σ F H ko _ fun v F1 H1 g z => by
    have k1 := ko.gr g
    obtain ⟨ha, h0, f0, dx, xs, e, rf⟩ := k1.sl i _ hi
    refine ⟨.ref a, ha, a, C, dx, xs, rfl, e, c, na, by rw [rf.length]; exact hl, ?_⟩
    exact n _ _ F1 _ (k1.putA hi (o' := .ins C (ptF f d fs)) ⟨dx, _, upd_same, rf.put z⟩) g.ff k
theorem ec_fldS {u : TS} {C a : Addr} {f : Str} {fs : List (Str × D)} {d : D} {i : Nat} (c : Cls K C) (na : NoAttr K C f) (hi : Γ[i]? = some (.slf a (.ins C fs))) (h : EvE W tv Γ (.dat d)) (hl : fs.length < 1000) (k : Ec W u (Γ.set i (.slf a (.ins C (ptF f d fs)))) P) : Ec W (tSeq (sFld K (tVar i) tv f) u) Γ P :=
  ec_seq (M := fun G => G = Γ.set i (.slf a (.ins C (ptF f d fs)))) (ec_fld c na hi h hl rfl) fun _ e => by subst e; exact k
end
end Dn
/-! Den6: built-ins, told by abstract slots. -/
namespace Dn
open PySem PySem.Spec PyProof.Rows L2
section
variable {W : Wd} {Γ : List Sl} {K : PySem.W.Frag} {te : TE} {ta : TA}
theorem ev_bL {ds : List D} (h : EvE W te Γ (.dat (.lst ds))) : EvE W te Γ (.bor (.lst ds)) := ev_dat_bor (o := .lst ds) h
theorem ev_bD {ds : List (Key × D)} (h : EvE W te Γ (.dat (.dic ds))) : EvE W te Γ (.bor (.dic ds)) := ev_dat_bor (o := .dic ds) h
theorem ev_fL {ds : List D} (h : EvE W te Γ (.own (.lst ds))) : EvE W te Γ (.dat (.lst ds)) := ev_own_dat h
theorem ev_fD {ds : List (Key × D)} (h : EvE W te Γ (.own (.dic ds))) : EvE W te Γ (.dat (.dic ds)) := ev_own_dat h
theorem ev_fI {C : Addr} {fs : List (Str × D)} (h : EvE W te Γ (.own (.ins C fs))) : EvE W te Γ (.dat (.ins C fs)) := ev_own_dat h
theorem ea_1 {s : Sl} (h : EvE W te Γ s) : EvAE W (tCons te tNil) Γ [s] := ea_cons h ea_nil
theorem one_dat {Hb F H : Hp} {vs : List V} {d : D} (h : SlVs W Hb F H vs [.dat d]) : ∃ v, vs = [v] ∧ Rep F v d := by
  cases h with
  | cons h r => cases r; exact ⟨_, rfl, h⟩
theorem one_bor {Hb F H : Hp} {vs : List V} {o : Ow} (h : SlVs W Hb F H vs [.bor o]) : ∃ a, vs = [.ref a] ∧ OwRep F H a o := by
  cases h with
  | cons h r => cases r; obtain ⟨a, e, _, r⟩ := h; subst e; exact ⟨a, rfl, r⟩
theorem two_dat {Hb F H : Hp} {vs : List V} {d e : D} (h : SlVs W Hb F H vs [.dat d, .dat e]) : ∃ v w, vs = [v, w] ∧ Rep F v d ∧ Rep F w e := by
  cases h with
  | cons h r =>
    cases r with
    | cons h2 r => cases r; exact ⟨_, _, rfl, h, h2⟩

/-! ### len -/
def rLen (K : PySem.W.Frag) : List V → Hp → VK → Prop := fun xs H Q =>
  (∃ p ys, xs = [.ref p] ∧ (SqL K H p ys ∨ SqT K H p ys) ∧ Q (.int ys.length) H) ∨ (∃ a kvs, xs = [V.ref a] ∧ H a = some (.dK kvs) ∧ Q (.int kvs.length) H)
theorem cr_len {X : Cx} : CallR X (.builtin "len") (rLen X.K) := call_len_seq.or call_lenD
theorem cb_lenL {ds : List D} : CbE W (rLen K) [.bor (.lst ds)] fun t => t = .dat (.int ds.length) := fun Hb F H vs s h Q q => by
  obtain ⟨a, rfl, xs, e, r⟩ := one_bor h
  refine .inl ⟨a, xs, rfl, .inl (SqL.of e), ?_⟩
  rw [r.length]
  exact q _ F H _ (.refl s) rfl (.int _)
theorem cb_lenT {ds : List D} : CbE W (rLen K) [.dat (.tup ds)] fun t => t = .dat (.int ds.length) := fun Hb F H vs s h Q q => by
  obtain ⟨v, rfl, r⟩ := one_dat h
  cases r with
  | tup e r =>
    refine .inl ⟨_, _, rfl, .inr (SqT.of (s.le _ _ e)), ?_⟩
    rw [r.length]
    exact q _ F H _ (.refl s) rfl (.int _)
theorem cb_lenD {ds : List (Key × D)} : CbE W (rLen K) [.bor (.dic ds)] fun t => t = .dat (.int ds.length) := fun Hb F H vs s h Q q => by
  obtain ⟨a, rfl, xs, e, r⟩ := one_bor h
  refine .inr ⟨a, xs, rfl, e, ?_⟩
  rw [r.length]
  exact q _ F H _ (.refl s) rfl (.int _)
theorem ev_lenL {ds : List D} (h : EvE W te Γ (.bor (.lst ds))) : EvE W (tCB (rLen K) (tCons te tNil)) Γ (.dat (.int ds.length)) := ev_cbE (ea_1 h) cb_lenL
theorem ev_lenT {ds : List D} (h : EvE W te Γ (.dat (.tup ds))) : EvE W (tCB (rLen K) (tCons te tNil)) Γ (.dat (.int ds.length)) := ev_cbE (ea_1 h) cb_lenT
theorem ev_lenD {ds : List (Key × D)} (h : EvE W te Γ (.bor (.dic ds))) : EvE W (tCB (rLen K) (tCons te tNil)) Γ (.dat (.int ds.length)) := ev_cbE (ea_1 h) cb_lenD

/-! ### list, tuple -/
def rList (K : PySem.W.Frag) : List V → Hp → VK → Prop := fun xs H Q => ∃ p ys, xs = [.ref p] ∧ (SqL K H p ys ∨ SqT K H p ys) ∧ ∀ l, H l = none → Q (.ref l) (upd H l (.lst ys))
theorem cr_list {X : Cx} : CallR X (.type "list") (rList X.K) := call_list_of
theorem cb_listL {ds : List D} : CbE W (rList K) [.bor (.lst ds)] fun t => t = .own (.lst ds) := fun Hb F H vs s h Q q => by
  obtain ⟨a, rfl, xs, e, r⟩ := one_bor h
  exact ⟨a, xs, rfl, .inl (SqL.of e), fun l hl => q _ F _ _ (Gr.newO s hl) rfl ⟨l, rfl, hl, s.le.no hl, xs, upd_same, r⟩⟩
theorem cb_listT {ds : List D} : CbE W (rList K) [.dat (.tup ds)] fun t => t = .own (.lst ds) := fun Hb F H vs s h Q q => by
  obtain ⟨v, rfl, r⟩ := one_dat h
  cases r with
  | tup e r => exact ⟨_, _, rfl, .inr (SqT.of (s.le _ _ e)), fun l hl => q _ F _ _ (Gr.newO s hl) rfl ⟨l, rfl, hl, s.le.no hl, _, upd_same, r⟩⟩
theorem ev_listL {ds : List D} (h : EvE W te Γ (.bor (.lst ds))) : EvE W (tCB (rList K) (tCons te tNil)) Γ (.own (.lst ds)) := ev_cbE (ea_1 h) cb_listL
theorem ev_listT {ds : List D} (h : EvE W te Γ (.dat (.tup ds))) : EvE W (tCB (rList K) (tCons te tNil)) Γ (.own (.lst ds)) := ev_cbE (ea_1 h) cb_listT
def rTuple (K : PySem.W.Frag) : List V → Hp → VK → Prop := fun xs H Q => ∃ p ys, xs = [.ref p] ∧ ((SqL K H p ys ∧ ∀ l, H l = none → Q (.ref l) (upd H l (.tup ys))) ∨ (SqT K H p ys ∧ Q (.ref p) H))
theorem cr_tuple {X : Cx} : CallR X (.type "tuple") (rTuple X.K) := call_tuple_of
theorem cb_tupL {ds : List D} : CbE W (rTuple K) [.bor (.lst ds)] fun t => t = .dat (.tup ds) := fun Hb F H vs s h Q q => by
  obtain ⟨a, rfl, xs, e, r⟩ := one_bor h
  refine ⟨a, xs, rfl, .inl ⟨SqL.of e, fun l hl => ?_⟩⟩
  have g := Gr.new (o := .tup xs) s hl
  exact q _ _ _ _ g rfl (.tup upd_same (r.mono g.ff))
theorem ev_tupL {ds : List D} (h : EvE W te Γ (.bor (.lst ds))) : EvE W (tCB (rTuple K) (tCons te tNil)) Γ (.dat (.tup ds)) := ev_cbE (ea_1 h) cb_tupL
theorem ev_tupLR {R : Sl → Prop} {T : Sl → Prop} (h : Ev W te Γ R) (hR : ∀ s, R s → ∃ ds, s = .own (.lst ds) ∧ T (.dat (.tup ds))) : Ev W (tCB (rTuple K) (tCons te tNil)) Γ T := fun σ F H k Q q =>
  h σ F H k _ fun v F1 H1 s g w z => by
    obtain ⟨ds, rfl, ht⟩ := hR s w
    obtain ⟨a, rfl, h0, f0, xs, e, r⟩ := z
    refine ⟨a, xs, rfl, .inl ⟨SqL.of e, fun l hl => ?_⟩⟩
    have g2 := Gr.new (o := .tup xs) g.ok hl
    exact q _ _ _ _ (g.trans g2) ht (.tup upd_same (r.mono g2.ff))
theorem cb_tupT {ds : List D} : CbE W (rTuple K) [.dat (.tup ds)] fun t => t = .dat (.tup ds) := fun Hb F H vs s h Q q => by
  obtain ⟨v, rfl, r⟩ := one_dat h
  cases r with
  | tup e r => exact ⟨_, _, rfl, .inr ⟨SqT.of (s.le _ _ e), q _ F H _ (.refl s) rfl (.tup e r)⟩⟩
theorem ev_tupT {ds : List D} (h : EvE W te Γ (.dat (.tup ds))) : EvE W (tCB (rTuple K) (tCons te tNil)) Γ (.dat (.tup ds)) := ev_cbE (ea_1 h) cb_tupT

/-! ### int, str, abs -/
def rInt : List V → Hp → VK → Prop := fun xs H Q => (∃ i, xs = [.int i] ∧ Q (.int i) H) ∨ ∃ k, xs = [.bl k] ∧ Q (.int (if k then 1 else 0)) H
theorem cr_int {X : Cx} : CallR X (.type "int") rInt := call_int1
theorem ev_intI {i : Int} (h : EvE W te Γ (.dat (.int i))) : EvE W (tCB rInt (tCons te tNil)) Γ (.dat (.int i)) := ev_cbE (ea_1 h) fun Hb F H vs s h Q q => by
  obtain ⟨v, rfl, r⟩ := one_dat h
  cases r
  exact .inl ⟨i, rfl, q _ F H _ (.refl s) rfl (.int _)⟩
theorem ev_intB {b : Bool} (h : EvE W te Γ (.dat (.bl b))) : EvE W (tCB rInt (tCons te tNil)) Γ (.dat (.int (if b then 1 else 0))) := ev_cbE (ea_1 h) fun Hb F H vs s h Q q => by
  obtain ⟨v, rfl, r⟩ := one_dat h
  cases r
  exact .inr ⟨b, rfl, q _ F H _ (.refl s) rfl (.int _)⟩
def rStrI : List V → Hp → VK → Prop := fun xs H Q => ∃ i, xs = [.int i] ∧ i.natAbs.log2 < 1920 ∧ Q (.str (toString i)) H
theorem cr_str {X : Cx} : CallR X (.type "str") rStrI := call_str_int
theorem ev_strI {i : Int} (h : EvE W te Γ (.dat (.int i))) (hz : i.natAbs.log2 < 1920) : EvE W (tCB rStrI (tCons te tNil)) Γ (.dat (.str (toString i))) := ev_cbE (ea_1 h) fun Hb F H vs s h Q q => by
  obtain ⟨v, rfl, r⟩ := one_dat h
  cases r
  exact ⟨i, rfl, hz, q _ F H _ (.refl s) rfl (.str _)⟩
def rAbs : List V → Hp → VK → Prop := fun xs H Q => ∃ i, xs = [.int i] ∧ Q (.int (if i < 0 then -i else i)) H
theorem cr_abs {X : Cx} : CallR X (.builtin "abs") rAbs := call_abs
theorem ev_abs {i : Int} (h : EvE W te Γ (.dat (.int i))) : EvE W (tCB rAbs (tCons te tNil)) Γ (.dat (.int (if i < 0 then -i else i))) := ev_cbE (ea_1 h) fun Hb F H vs s h Q q => by
  obtain ⟨v, rfl, r⟩ := one_dat h
  cases r
  exact ⟨i, rfl, q _ F H _ (.refl s) rfl (.int _)⟩

/-! ### sum, min, max, all -/
theorem ev_sum {ns : List Int} (h : EvE W te Γ (.bor (.lst (ns.map D.int)))) : EvE W (tCB (rSum K) (tCons te tNil)) Γ (.dat (.int ns.sum)) := ev_cbE (ea_1 h) fun Hb F H vs s h Q q => by
  obtain ⟨a, rfl, xs, e, r⟩ := one_bor h
  rw [r.ints] at e
  exact ⟨a, ns, rfl, SqL.of e, q _ F H _ (.refl s) rfl (.int _)⟩
def maxI : List Int → Int
  | [] => 0
  | [x] => x
  | x :: y :: r => max x (maxI (y :: r))
def minI : List Int → Int
  | [] => 0
  | [x] => x
  | x :: y :: r => min x (minI (y :: r))
theorem maxI_le : ∀ {ns : List Int} {y : Int}, y ∈ ns → y ≤ maxI ns
  | [x], y, h => by rw [List.mem_singleton.mp h]; exact Int.le_refl _
  | x :: z :: r, y, h => by
    rcases List.mem_cons.mp h with e | h
    · subst e; exact Int.le_max_left ..
    · exact Int.le_trans (maxI_le h) (Int.le_max_right ..)
theorem maxI_mem : ∀ {ns : List Int}, ns ≠ [] → maxI ns ∈ ns
  | [], h => absurd rfl h
  | [x], h => List.mem_singleton.mpr rfl
  | x :: z :: r, h => by
    have ih := maxI_mem (ns := z :: r) (List.cons_ne_nil _ _)
    show max x (maxI (z :: r)) ∈ _
    rcases Int.le_total x (maxI (z :: r)) with q | q
    · rw [Int.max_eq_right q]; exact List.mem_cons_of_mem _ ih
    · rw [Int.max_eq_left q]; exact List.mem_cons_self ..
theorem minI_le : ∀ {ns : List Int} {y : Int}, y ∈ ns → minI ns ≤ y
  | [x], y, h => by rw [List.mem_singleton.mp h]; exact Int.le_refl _
  | x :: z :: r, y, h => by
    rcases List.mem_cons.mp h with e | h
    · subst e; exact Int.min_le_left ..
    · exact Int.le_trans (Int.min_le_right ..) (minI_le h)
theorem minI_mem : ∀ {ns : List Int}, ns ≠ [] → minI ns ∈ ns
  | [], h => absurd rfl h
  | [x], h => List.mem_singleton.mpr rfl
  | x :: z :: r, h => by
    have ih := minI_mem (ns := z :: r) (List.cons_ne_nil _ _)
    show min x (minI (z :: r)) ∈ _
    rcases Int.le_total x (minI (z :: r)) with q | q
    · rw [Int.min_eq_left q]; exact List.mem_cons_self ..
    · rw [Int.min_eq_right q]; exact List.mem_cons_of_mem _ ih
theorem maxI_uniq {ns : List Int} {m : Int} (h : m ∈ ns) (h2 : ∀ y, y ∈ ns → y ≤ m) : m = maxI ns := Int.le_antisymm (maxI_le h) (h2 _ (maxI_mem (List.ne_nil_of_mem h)))
theorem minI_uniq {ns : List Int} {m : Int} (h : m ∈ ns) (h2 : ∀ y, y ∈ ns → m ≤ y) : m = minI ns := Int.le_antisymm (h2 _ (minI_mem (List.ne_nil_of_mem h))) (minI_le h)
def rMax2 : List V → Hp → VK → Prop := fun xs H Q => ∃ i j, xs = [.int i, .int j] ∧ Q (.int (if j > i then j else i)) H
theorem cr_maxL {X : Cx} (hc : X.calm = true) : CallR X (.builtin "max") (fun vs H Q => rMax X.K vs H Q ∨ rMax2 vs H Q) := (cr_max hc).or (call_max2 hc)
def rMaxL (K : PySem.W.Frag) : List V → Hp → VK → Prop := fun vs H Q => rMax K vs H Q ∨ rMax2 vs H Q
theorem ev_maxL {ns : List Int} (h : EvE W te Γ (.bor (.lst (ns.map D.int)))) (hn : ns ≠ []) : EvE W (tCB (rMaxL K) (tCons te tNil)) Γ (.dat (.int (maxI ns))) := ev_cbE (ea_1 h) fun Hb F H vs s h Q q => by
  obtain ⟨a, rfl, xs, e, r⟩ := one_bor h
  rw [r.ints] at e
  refine .inl ⟨a, ns, rfl, SqL.of e, List.length_pos_iff.mpr hn, fun m h1 h2 => ?_⟩
  rw [maxI_uniq h1 h2]
  exact q _ F H _ (.refl s) rfl (.int _)
theorem ev_minL {ns : List Int} (h : EvE W te Γ (.bor (.lst (ns.map D.int)))) (hn : ns ≠ []) : EvE W (tCB (rMin K) (tCons te tNil)) Γ (.dat (.int (minI ns))) := ev_cbE (ea_1 h) fun Hb F H vs s h Q q => by
  obtain ⟨a, rfl, xs, e, r⟩ := one_bor h
  rw [r.ints] at e
  refine ⟨a, ns, rfl, SqL.of e, List.length_pos_iff.mpr hn, fun m h1 h2 => ?_⟩
  rw [minI_uniq h1 h2]
  exact q _ F H _ (.refl s) rfl (.int _)
theorem ev_max2 {i j : Int} (h : EvAE W ta Γ [.dat (.int i), .dat (.int j)]) : EvE W (tCB (rMaxL K) ta) Γ (.dat (.int (max i j))) := ev_cbE h fun Hb F H vs s h Q q => by
  obtain ⟨v, w, rfl, r1, r2⟩ := two_dat h
  cases r1
  cases r2
  refine .inr ⟨i, j, rfl, ?_⟩
  have e : (if j > i then j else i) = max i j := by
    by_cases h : j > i
    · rw [if_pos h, Int.max_eq_right (by omega)]
    · rw [if_neg h, Int.max_eq_left (by omega)]
  rw [e]
  exact q _ F H _ (.refl s) rfl (.int _)
theorem ev_all {bs : List Bool} (h : EvE W te Γ (.bor (.lst (bs.map D.bl)))) : EvE W (tCB (rAll K) (tCons te tNil)) Γ (.dat (.bl (bs.all id))) := ev_cbE (ea_1 h) fun Hb F H vs s h Q q => by
  obtain ⟨a, rfl, xs, e, r⟩ := one_bor h
  rw [r.bls] at e
  exact ⟨a, bs, rfl, SqL.of e, q _ F H _ (.refl s) rfl (.bl _)⟩

/-! ### range as a value -/
def rRange : List V → Hp → VK → Prop := fun vs H Q => ∃ i j, vs = [V.int i, V.int j] ∧ ∀ p, H p = none → Q (.ref p) (upd H p (.rng i j))
theorem cr_range {X : Cx} : CallR X (.type "range") rRange := cr_range2
theorem ev_range {i j : Int} (h : EvAE W ta Γ [.dat (.int i), .dat (.int j)]) : EvE W (tCB rRange ta) Γ (.dat (.rng i j)) := ev_cbE h fun Hb F H vs s h Q q => by
  obtain ⟨v, w, rfl, r1, r2⟩ := two_dat h
  cases r1
  cases r2
  refine ⟨i, j, rfl, fun p hp => ?_⟩
  have g := Gr.new (o := .rng i j) s hp
  exact q _ _ _ _ g rfl (.rng upd_same)

/-! ### isinstance -/
def tyD : D → String
  | .non => "NoneType"
  | .bl _ => "bool"
  | .int _ => "int"
  | .str _ => "str"
  | .lst _ => "list"
  | .tup _ => "tuple"
  | _ => ""
theorem ty_rep {F H : Hp} {v : V} {d : D} (le : Le F H) (r : Rep F v d) (h : tyD d ≠ "") : TyX K H v (.type (tyD d)) := by
  cases r with
  | non => exact .base .non
  | bl b => exact .base (.bl b)
  | int b => exact .base (.int b)
  | str b => exact .base (.str b)
  | lst e r => exact .base (.lst (le _ _ e))
  | tup e r => exact .base (.tup (le _ _ e))
  | _ => exact absurd rfl h
theorem ev_isi {d : D} {n : String} {b : Bool} (h : EvAE W ta Γ [.dat d, .raw (.ty n)]) (hd : tyD d ≠ "") (e : kitB (tyD d) n = some b) : EvE W (tCB (rIsi K) ta) Γ (.dat (.bl b)) := ev_cbE h fun Hb F H vs s h Q q => by
  cases h with
  | cons h1 h2 =>
    cases h2 with
    | cons h2 h3 =>
      cases h3
      cases (show _ = V.ty n from h2)
      exact ⟨_, .ty n, _, _, b, rfl, .ty n, ty_rep s.le h1 hd, kit_ty e, q _ F H _ (.refl s) rfl (.bl _)⟩
end
end Dn
/-! Den7: the rules whose readings name the written part, with that part told apart from the context (so that they serve within comprehensions). -/
namespace Dn
open PySem PySem.Spec PyProof.Rows L2
section
variable {X : Cx} {K : PySem.W.Frag}
theorem k_ix (e : X.K = K := by rfl) : IxR X (rIx K) := by subst e; exact ix_seq
theorem k_in (e : X.K = K := by rfl) : OpR X (compareOp .In) (rIn K false) := by subst e; exact op_in_seq
theorem k_notIn (e : X.K = K := by rfl) : OpR X (compareOp .NotIn) (rIn K true) := by subst e; exact op_notIn_seq
theorem k_plus (e : X.K = K := by rfl) : OpR X (binaryOp .Add) (rPlus K) := by subst e; exact op_plus
theorem k_slL (e : X.K = K := by rfl) : SlR X (rSlL K) := by subst e; exact sl_list
theorem k_slT (e : X.K = K := by rfl) : SlR X (rSlA K) := by subst e; exact sl_tupA
theorem k_len (e : X.K = K := by rfl) : CallR X (.builtin "len") (rLen K) := by subst e; exact cr_len
theorem k_list (e : X.K = K := by rfl) : CallR X (.type "list") (rList K) := by subst e; exact cr_list
theorem k_tuple (e : X.K = K := by rfl) : CallR X (.type "tuple") (rTuple K) := by subst e; exact cr_tuple
theorem k_sum (hc : X.calm = true := by rfl) (e : X.K = K := by rfl) : CallR X (.builtin "sum") (rSum K) := by subst e; exact cr_sum hc
theorem k_min (hc : X.calm = true := by rfl) (e : X.K = K := by rfl) : CallR X (.builtin "min") (rMin K) := by subst e; exact cr_min hc
theorem k_max (hc : X.calm = true := by rfl) (e : X.K = K := by rfl) : CallR X (.builtin "max") (rMaxL K) := by subst e; exact cr_maxL hc
theorem k_all (hc : X.calm = true := by rfl) (e : X.K = K := by rfl) : CallR X (.builtin "all") (rAll K) := by subst e; exact cr_all hc
theorem k_isi (e : X.K = K := by rfl) : CallR X (.builtin "isinstance") (rIsi K) := by subst e; exact call_isi
theorem k_sortT (e : X.K = K := by rfl) : CallR X (.builtin "sorted") (rSortU K 3 1099511627776) := by subst e; exact cr_sortT (by decide)
theorem k_fld {o : Expr} {f : Str} {pos : Pos} {ta : TE} (h : PE X o ta) (hb : attributeBase o f X.env (eval o X.env) = eval o X.env := by rfl) (e : X.K = K := by rfl) : PE X (.Attribute o f pos) (tFld K ta f) := by subst e; exact pe_fld h hb
theorem k_sfld {o value : Expr} {f : Str} {pos pos' : Pos} {ta tv : TE} (h : PE X o ta) (hv : PE X value tv) (hs : swapsWith value (some (.Attribute o f pos')) pos.line X.env = pure false := by rfl) (e : X.K = K := by rfl) : PS X (.Assign [.Attribute o f pos'] value pos) (sFld K ta tv f) := by subst e; exact ps_fld h hv hs
theorem k_seq {tg l : Expr} {tl : TE} (h : PE X l tl) (e : X.K = K := by rfl) : PI X tg l (iSeq K tl) := by subst e; exact pi_seq h
theorem k_enum {l : Expr} {ta : TA} {p pos tpos : Pos} {elts : List Expr} {kk : Nat} (hg : Gl X "enumerate") (hm : X.mg "enumerate" = none) (ha : PA X [l] ta) (hs : starEach [l] X.env = [(false, eval l X.env)] := by rfl) (e : X.K = K := by rfl) :
    PI X (.Tuple elts kk tpos) (.Call (.Name "enumerate" p) [l] [] pos) (iEnumB K ta) := by subst e; exact pi_enumB hg hm ha hs
theorem k_zip {l l2 : Expr} {ta : TA} {p pos tpos : Pos} {elts : List Expr} {kk : Nat} (hg : Gl X "zip") (hm : X.mg "zip" = none) (ha : PA X [l, l2] ta) (hs : starEach [l, l2] X.env = (false, eval l X.env) :: starEach [l2] X.env := by rfl)
    (hpl : (backTo pos (starEach [l2] X.env)).any (·.1) = false := by rfl) (e : X.K = K := by rfl) : PI X (.Tuple elts kk tpos) (.Call (.Name "zip" p) [l, l2] [] pos) (iZipB K ta) := by subst e; exact pi_zipB hg hm ha hs hpl
theorem k_tup {es : List Expr} {k : Nat} {t : TGs} {n : Nat} {pos : Pos} (h : PGs X es t) (hc : X.calm = true := by rfl) (hn : (assignEach es X.env).length = n := by rfl) (hst : (assignEach es X.env).findIdx? (·.1) = none := by rfl) (e : X.K = K := by rfl) :
    PG X (.Tuple es k pos) (gTup K n t) := by subst e; exact pg_tup hc h hn hst
theorem k_app {o a : Expr} {to : TE} {t : TA} {apos cpos : Pos} (ho : PE X o to) (ha : PA X [a] t)
    (hbase : attributeBase o "append" X.env (eval o X.env) = eval o X.env := by rfl)
    (hfew : ((backTo cpos (starEach [a] X.env)).all (fun x => !x.1) && (backToKw cpos (keywordEach [] X.env)).all (fun x => x.1.isSome)
      && decide (([a] : List Expr).length + ([] : List Keyword).length + (if ([] : List Keyword).isEmpty then 0 else 1) < 30)) = true := by rfl)
    (hline : (apos.endLine == cpos.line) = true := by rfl) (hs : starEach [a] X.env = (false, eval a X.env) :: starEach [] X.env := by rfl) (hplain : (backTo cpos (starEach [] X.env)).any (·.1) = false := by rfl) (e : X.K = K := by rfl) :
    PE X (.Call (.Attribute o "append" apos) [a] [] cpos) (tBM K "list" rAppend to t) := by subst e; exact pe_bm PySem.F.plainAttrs_list PySem.F.slot_list_append PySem.F.type_list_append mt_append ho ha hbase hfew hline hs hplain
theorem k_ins {o a b : Expr} {to : TE} {t : TA} {apos cpos : Pos} (ho : PE X o to) (ha : PA X [a, b] t)
    (hbase : attributeBase o "insert" X.env (eval o X.env) = eval o X.env := by rfl)
    (hfew : ((backTo cpos (starEach [a, b] X.env)).all (fun x => !x.1) && (backToKw cpos (keywordEach [] X.env)).all (fun x => x.1.isSome)
      && decide (([a, b] : List Expr).length + ([] : List Keyword).length + (if ([] : List Keyword).isEmpty then 0 else 1) < 30)) = true := by rfl)
    (hline : (apos.endLine == cpos.line) = true := by rfl) (hs : starEach [a, b] X.env = (false, eval a X.env) :: starEach [b] X.env := by rfl) (hplain : (backTo cpos (starEach [b] X.env)).any (·.1) = false := by rfl) (e : X.K = K := by rfl) :
    PE X (.Call (.Attribute o "insert" apos) [a, b] [] cpos) (tBM K "list" rIns to t) := by subst e; exact pe_bm PySem.F.plainAttrs_list PySem.F.slot_list_insert PySem.F.type_list_insert mt_ins ho ha hbase hfew hline hs hplain
theorem k_star {y : Expr} {es : List Expr} {p : Pos} {te : TE} {t : TA} (he : PE X y te) (hr : PA X es t) (hs : starEach (.Starred y p :: es) X.env = (true, eval y X.env) :: starEach es X.env := by rfl) (e : X.K = K := by rfl) : PA X (.Starred y p :: es) (StX.tStar K te t) := by subst e; exact StX.pa_star he hr hs
/-- [] in lists: told by data -/
theorem k_inD (hu : X.A.units + 65 < cLine) (e : X.K = K := by rfl) : OpR X (compareOp .In) (rInD K) := by subst e; exact op_inD hu
/-- a slot that holds the name x -/
theorem pvx {x : Str} {pos : Pos} (i : Nat) (hN : X.N[i]? = some x := by rfl) (hv : Vis X.env.scope x := by first | exact .inl rfl | exact .inr (.inl rfl) | exact .inr (.inr rfl)) (hd : (x == ("__debug__" : Str)) = false := by decide) (hcd : (x == ("__classdict__" : Str)) = false := by decide) : PE X (.Name x pos) (tVar i) := pe_var hN hv hd hcd
theorem pgx {x : Str} {pos : Pos} (i : Nat) (hN : X.N.Nodup) (hi : X.N[i]? = some x := by rfl) (hx : Loc X.env.scope x := by first | exact .inl rfl | exact .inr rfl) (hf : X.fn x = true ∨ X.env.scope.names.lookup x = some .local := by first | exact .inl rfl | exact .inr rfl) : PG X (.Name x pos) (gName i) := pg_name hN hi hx hf
theorem psx {x : Str} {e : Expr} {te : TE} {pos pos' : Pos} (i : Nat) (hN : X.N.Nodup) (he : PE X e te) (hi : X.N[i]? = some x := by rfl) (hx : Loc X.env.scope x := by first | exact .inl rfl | exact .inr rfl) (hs : swapsWith e (some (.Name x pos')) pos.line X.env = pure false := by rfl) (hf : X.fn x = true ∨ X.env.scope.names.lookup x = some .local := by first | exact .inl rfl | exact .inr rfl) :
    PS X (.Assign [.Name x pos'] e pos) (tAsg te (gName i)) := ps_set hN hi hx he hs hf
theorem ps_augx {i : Nat} {x : Str} {e : Expr} {te : TE} {op : Operator} {ti : TIp} {pos pos' : Pos} (ho : PIp X op ti) (hN : X.N.Nodup) (he : PE X e te) (hi : X.N[i]? = some x := by rfl) (hx : Loc X.env.scope x := by first | exact .inl rfl | exact .inr rfl) (hf : X.fn x = true ∨ X.env.scope.names.lookup x = some .local := by first | exact .inl rfl | exact .inr rfl) :
    PS X (.AugAssign (.Name x pos') op e pos) (tAug i te ti) := ps_aug hN hi hx he ho hf
end
end Dn
/-! Den8: loops and comprehensions over lists of plain things. -/
namespace Dn
open PySem PySem.Spec PyProof.Rows L2
section
variable {W : Wd} {Γ : List Sl} {P : Po} {t : TS} {ti : TI} {tt : TT} {te : TE} {vs : List Nat} {gg : TG} {α : Type}
theorem map_get {β : Type} {xs : List α} {f : α → β} {i : Nat} {d : β} (h : (xs.map f)[i]? = some d) : ∃ x, xs[i]? = some x ∧ d = f x := by
  rw [List.getElem?_map] at h
  cases e : xs[i]? with
  | none => rw [e] at h; cases h
  | some x => rw [e] at h; cases h; exact ⟨x, rfl, rfl⟩
theorem take_snoc {xs : List α} {i : Nat} {x : α} (h : xs[i]? = some x) : xs.take (i + 1) = xs.take i ++ [x] := by
  rw [List.take_add_one, h]; rfl
theorem split_at {xs : List α} {i : Nat} {x : α} (h : xs[i]? = some x) : xs = xs.take i ++ x :: xs.drop (i + 1) := by
  have hi := (List.getElem?_eq_some_iff.mp h).1
  have e : xs[i] = x := (List.getElem?_eq_some_iff.mp h).2
  rw [← e, List.getElem_cons_drop, List.take_append_drop]
theorem ev_lcX (xs : List α) (f g : α → D) (h : ItE W ti Γ (xs.map f)) (hl : xs.length ≤ 1000)
    (hs : ∀ (i : Nat) (x : α), xs[i]? = some x → ∃ js Γ2, TgE W gg js (f x) (wipeG Γ vs) Γ2 ∧ (∀ j ∈ js, j ∈ vs) ∧ EvE W te Γ2 (.dat (g x))) : EvE W (tLc ti gg tYes te vs) Γ (.own (.lst (xs.map g))) := by
  have z := ev_lcR (g := gg) (tt := tYes) (te := te) (vs := vs) h (fun ds e => by subst e; rw [List.length_map]; exact hl) (fun _ i out => out = (xs.take i).map g) (fun _ _ => rfl) (fun ds i d out e hd hI _ => by
    subst e
    obtain ⟨x, hx, rfl⟩ := map_get hd
    obtain ⟨js, Γ2, tg, hj, he⟩ := hs i x hx
    exact ⟨js, Γ2, fun b => b = true, tg, hj, et_yes.ev rfl, fun _ => ⟨fun s => s = .dat (g x), he.ev rfl, fun s es => ⟨g x, es, by rw [take_snoc hx, List.map_append, hI]; rfl⟩⟩, fun hb => nomatch hb⟩)
  exact fun σ F H k Q q => z σ F H k Q fun v F' H' s g' ⟨ds, out, e, es, hI⟩ zz => by
    subst e es hI
    rw [List.length_map, List.take_length] at zz
    exact q v F' H' g' zz
theorem take_filter {p : α → Bool} {β : Type} {g : α → β} {xs : List α} {i : Nat} {x : α} (h : xs[i]? = some x) : ((xs.take (i + 1)).filter p).map g = ((xs.take i).filter p).map g ++ (if p x then [g x] else []) := by
  rw [take_snoc h, List.filter_append, List.map_append]
  cases hp : p x
  · simp [hp]
  · simp [hp]
theorem ev_lcF (xs : List α) (f g : α → D) (p : α → Bool) (h : ItE W ti Γ (xs.map f)) (hl : xs.length ≤ 1000)
    (hs : ∀ (i : Nat) (x : α), xs[i]? = some x → ∃ js Γ2, TgE W gg js (f x) (wipeG Γ vs) Γ2 ∧ (∀ j ∈ js, j ∈ vs) ∧ EvTE W tt Γ2 (p x) ∧ (p x = true → EvE W te Γ2 (.dat (g x)))) : EvE W (tLc ti gg tt te vs) Γ (.own (.lst ((xs.filter p).map g))) := by
  have z := ev_lcR (g := gg) (tt := tt) (te := te) (vs := vs) h (fun ds e => by subst e; rw [List.length_map]; exact hl) (fun _ i out => out = ((xs.take i).filter p).map g) (fun _ _ => rfl) (fun ds i d out e hd hI _ => by
    subst e
    obtain ⟨x, hx, rfl⟩ := map_get hd
    obtain ⟨js, Γ2, tg, hj, ht, he⟩ := hs i x hx
    refine ⟨js, Γ2, fun b => b = p x, tg, hj, ht.ev rfl, fun hb => ⟨fun s => s = .dat (g x), (he hb.symm).ev rfl, fun s es => ⟨g x, es, ?_⟩⟩, fun hb => ?_⟩
    · rw [take_filter hx, hI, ← hb]; rfl
    · rw [take_filter hx, hI, ← hb]; simp)
  exact fun σ F H k Q q => z σ F H k Q fun v F' H' s g' ⟨ds, out, e, es, hI⟩ zz => by
    subst e es hI
    rw [List.length_map, List.take_length] at zz
    exact q v F' H' g' zz
/-- by place -/
theorem ev_lcI {ds : List D} (out : List D) (h : ItE W ti Γ ds) (hl : ds.length ≤ 1000) (ho : out.length = ds.length)
    (hs : ∀ (i : Nat) (d e : D), ds[i]? = some d → out[i]? = some e → ∃ js Γ2, TgE W gg js d (wipeG Γ vs) Γ2 ∧ (∀ j ∈ js, j ∈ vs) ∧ EvE W te Γ2 (.dat e)) : EvE W (tLc ti gg tYes te vs) Γ (.own (.lst out)) := by
  have z := ev_lcR (g := gg) (tt := tYes) (te := te) (vs := vs) h (fun es e => by subst e; exact hl) (fun _ i o => o = out.take i) (fun _ _ => rfl) (fun es i d o e hd hI _ => by
    subst e
    have hi : i < out.length := by rw [ho]; exact (List.getElem?_eq_some_iff.mp hd).1
    obtain ⟨js, Γ2, tg, hj, he⟩ := hs i d out[i] hd (List.getElem?_eq_getElem hi)
    exact ⟨js, Γ2, fun b => b = true, tg, hj, et_yes.ev rfl, fun _ => ⟨fun s => s = .dat out[i], he.ev rfl, fun s es => ⟨_, es, by rw [take_snoc (List.getElem?_eq_getElem hi), hI]⟩⟩, fun hb => nomatch hb⟩)
  exact fun σ F H k Q q => z σ F H k Q fun v F' H' s g' ⟨es, o, e, es', hI⟩ zz => by
    subst e es' hI
    rw [← ho, List.take_length] at zz
    exact q v F' H' g' zz
/-- every item of its own kind -/
theorem ev_lcXR (xs : List α) (f : α → D) (R : α → D → Prop) (h : ItE W ti Γ (xs.map f)) (hl : xs.length ≤ 1000)
    (hs : ∀ (i : Nat) (x : α), xs[i]? = some x → ∃ js Γ2, TgE W gg js (f x) (wipeG Γ vs) Γ2 ∧ (∀ j ∈ js, j ∈ vs) ∧ Ev W te Γ2 fun s => ∃ e, s = .dat e ∧ R x e) : Ev W (tLc ti gg tYes te vs) Γ fun s => ∃ out, s = .own (.lst out) ∧ Paired R xs out := by
  have z := ev_lcR (g := gg) (tt := tYes) (te := te) (vs := vs) h (fun ds e => by subst e; rw [List.length_map]; exact hl) (fun _ i out => Paired R (xs.take i) out) (fun _ _ => .nil) (fun ds i d out e hd hI _ => by
    subst e
    obtain ⟨x, hx, rfl⟩ := map_get hd
    obtain ⟨js, Γ2, tg, hj, he⟩ := hs i x hx
    exact ⟨js, Γ2, fun b => b = true, tg, hj, et_yes.ev rfl, fun _ => ⟨_, he, fun s ⟨e, es, r⟩ => ⟨e, es, by rw [take_snoc hx]; exact Paired.snoc hI r⟩⟩, fun hb => nomatch hb⟩)
  exact z.imp fun s ⟨ds, out, e, es, hI⟩ => by
    subst e es
    rw [List.length_map, List.take_length] at hI
    exact ⟨out, rfl, hI⟩
/-- range(n), n not known ahead: every item of one kind -/
theorem ev_lcN {n : Nat → Prop} (R : D → Prop) (h : ItR W ti Γ fun ds => ∃ m, n m ∧ ds = rngD 0 m) (hl : ∀ m, n m → m ≤ 1000)
    (hs : ∀ m (i : Nat), n m → i < m → ∃ js Γ2, TgE W gg js (.int (0 + (i : Nat))) (wipeG Γ vs) Γ2 ∧ (∀ j ∈ js, j ∈ vs) ∧ Ev W te Γ2 fun s => ∃ e, s = .dat e ∧ R e) : Ev W (tLc ti gg tYes te vs) Γ fun s => ∃ m out, n m ∧ s = .own (.lst out) ∧ out.length = m ∧ ∀ e ∈ out, R e := by
  have z := ev_lcR (g := gg) (tt := tYes) (te := te) (vs := vs) h (fun ds ⟨m, hm, e⟩ => by subst e; rw [rngD_len]; exact hl m hm) (fun _ i out => out.length = i ∧ ∀ e ∈ out, R e) (fun _ _ => ⟨rfl, fun _ h => nomatch h⟩) (fun ds i d out ⟨m, hm, e⟩ hd hI _ => by
    subst e
    obtain ⟨hi, rfl⟩ := rngD_get hd
    obtain ⟨js, Γ2, tg, hj, he⟩ := hs m i hm hi
    refine ⟨js, Γ2, fun b => b = true, tg, hj, et_yes.ev rfl, fun _ => ⟨_, he, fun s ⟨e, es, r⟩ => ⟨e, es, ?_, fun x hx => ?_⟩⟩, fun hb => nomatch hb⟩
    · rw [List.length_append, hI.1]; rfl
    · rcases List.mem_append.mp hx with q | q
      · exact hI.2 x q
      · rw [List.mem_singleton.mp q]; exact r)
  exact z.imp fun s ⟨ds, out, ⟨m, hm, e⟩, es, hI⟩ => by
    subst e es
    exact ⟨m, out, hm, rfl, by rw [hI.1, rngD_len], hI.2⟩
/-- for x in xs: I of what is done -/
theorem ec_forP (xs : List α) (f : α → D) (h : ItE W ti Γ (xs.map f)) (I : List α → List Sl → Prop) (h0 : I [] Γ)
    (hs : ∀ pre x post Γ1, xs = pre ++ x :: post → I pre Γ1 → ∃ js Γ2, TgE W gg js (f x) Γ1 Γ2 ∧ Ec W t Γ2 { nx := I (pre ++ [x]), ct := I (pre ++ [x]), bk := P.nx, rt := P.rt })
    (hd : ∀ Γ1, I xs Γ1 → P.nx Γ1) : Ec W (tFor ti gg t) Γ P :=
  ec_for h (fun i => I (xs.take i)) h0 (fun i d Γ1 hd hI => by
    obtain ⟨x, hx, rfl⟩ := map_get hd
    obtain ⟨js, Γ2, tg, e⟩ := hs (xs.take i) x (xs.drop (i + 1)) Γ1 (split_at hx) hI
    refine ⟨js, Γ2, tg, ?_⟩
    rw [take_snoc hx]
    exact e) fun Γ1 hI => by
    rw [List.length_map, List.take_length] at hI
    exact hd Γ1 hI
/-- .. by places -/
theorem ec_forX (xs : List α) (f : Nat → α → D) {ds : List D} (h : ItE W ti Γ ds) (hds : ∀ i d, ds[i]? = some d → ∃ x, xs[i]? = some x ∧ d = f i x) (hlen : ds.length = xs.length) (I : Nat → List Sl → Prop) (h0 : I 0 Γ)
    (hs : ∀ (i : Nat) (x : α) Γ1, xs[i]? = some x → I i Γ1 → ∃ js Γ2, TgE W gg js (f i x) Γ1 Γ2 ∧ Ec W t Γ2 { nx := I (i + 1), ct := I (i + 1), bk := P.nx, rt := P.rt })
    (hd : ∀ Γ1, I xs.length Γ1 → P.nx Γ1) : Ec W (tFor ti gg t) Γ P :=
  ec_for h I h0 (fun i d Γ1 hd hI => by
    obtain ⟨x, hx, rfl⟩ := hds i d hd
    exact hs i x Γ1 hx hI) fun Γ1 hI => by rw [hlen] at hI; exact hd Γ1 hI
theorem enum_at {f : α → D} {xs : List α} (i : Nat) (d : D) (h : (enumD (xs.map f))[i]? = some d) : ∃ x, xs[i]? = some x ∧ d = .tup [.int i, f x] := by
  rw [enumD_get, List.getElem?_map] at h
  cases e : xs[i]? with
  | none => rw [e] at h; cases h
  | some x => rw [e] at h; cases h; exact ⟨x, rfl, rfl⟩
theorem zip_at {β : Type} {f : α → D} {g : β → D} {xs : List α} {ys : List β} (i : Nat) (d : D) (h : (zipD (xs.map f) (ys.map g))[i]? = some d) : ∃ x, (xs.zip ys)[i]? = some x ∧ d = .tup [f x.1, g x.2] := by
  unfold zipD at h
  rw [List.getElem?_zipWith, List.getElem?_map, List.getElem?_map] at h
  cases e : xs[i]? with
  | none => rw [e] at h; cases h
  | some x =>
    cases e2 : ys[i]? with
    | none => rw [e, e2] at h; cases h
    | some y =>
      rw [e, e2] at h
      cases h
      refine ⟨(x, y), ?_, rfl⟩
      rw [List.getElem?_zip_eq_some]
      exact ⟨e, e2⟩
theorem zipD_map {β : Type} {f : α → D} {g : β → D} {xs : List α} {ys : List β} : zipD (xs.map f) (ys.map g) = (xs.zip ys).map fun p => .tup [f p.1, g p.2] := by
  unfold zipD
  rw [List.zipWith_map, List.zip, List.map_zipWith]
theorem rng_at (lo : Int) (n : Nat) (i : Nat) (d : D) (h : (rngD lo n)[i]? = some d) : ∃ x, (List.range n)[i]? = some x ∧ d = .int (lo + i) := by
  obtain ⟨hi, e⟩ := rngD_get h
  exact ⟨i, List.getElem?_range hi, e⟩
end
end Dn
/-! Den9: promises under their names; making instances. -/
namespace Dn
open PySem PySem.Spec PyProof.Rows L2
section
variable {P : Program} {w : World} {K : PySem.W.Frag} {mg : Str → Option Value} {base : Heap} {x qual : Str} {params : Arguments} {body : List Stmt} {scope : Scope} {f : Addr} {fd : FuncData} {k : Nat}
abbrev BodyOk (P : Program) (w : World) (K : PySem.W.Frag) (mg : Str → Option Value) (base : Heap) (qual : Str) (body : List Stmt) (scope : Scope) (f : Addr) (N : List Str) (k : Nat) (ob : TS → Prop) : Prop :=
  ∀ (cdv : Value) (A' : Around) (outer : List Env) (s : Shared) (H : Hp) (E : XK), Room k (A'.deeper (envOfC qual scope s.heap.objs.size f cdv)) → ∃ t, PSs (cxOf C8.CX0 P w K mg base N qual scope f cdv A' outer s H E) body t ∧ ob t
theorem Prm.cal {A : Type} (p : Prm A) {N ps : List Str} (F : ∃ fd, FunD K x x params body scope [] [] f fd) (hm : mg x = some (.ref f)) (S : FnScope N ps scope)
    (b : ∀ (kV doc pm : Value) (an : Option Addr) (cdv ct : Value) (us : List Value), us.length = ps.length → bindArgs (PySem.W.fnOf x x params body scope .none kV doc pm an cdv ct) ⟨us, []⟩ = pure (ps.zip us))
    (hl : ∀ x, (p.args x).length = ps.length) (hbody : BodyOk P w K mg base x body scope f N k fun t => ∀ x F H, Ec (p.wd x F H) t (p.args x ++ List.replicate (N.length - ps.length) .no) (Po.fn (p.res x))) : C8.Cal P w K mg base (k + 1) x p.sp [] := by
  obtain ⟨fd, F⟩ := F
  exact ⟨f, fd, ps, [], p.ok F S hl hbody, hm, F.kp, F.bindsN b, .nil⟩
theorem Prm.met {A : Type} (p : Prm A) {N ps : List Str} {C : Addr} (c : Cls K C) (me : Meth K C x f) (F : ∃ fd, FunD K x qual params body scope [] [] f fd) (S : FnScope N ps scope)
    (b : ∀ (kV doc pm : Value) (an : Option Addr) (cdv ct : Value) (us : List Value), us.length = ps.length → bindArgs (PySem.W.fnOf x qual params body scope .none kV doc pm an cdv ct) ⟨us, []⟩ = pure (ps.zip us))
    (hl : ∀ x, (p.args x).length = ps.length) (hbody : BodyOk P w K mg base qual body scope f N k fun t => ∀ x F H, Ec (p.wd x F H) t (p.args x ++ List.replicate (N.length - ps.length) .no) (Po.fn (p.res x))) : C8.Met P w K mg base (k + 1) C x p.sp [] := by
  obtain ⟨fd, F⟩ := F
  exact ⟨f, fd, ps, [], c, me, p.ok F S hl hbody, F.bindsN b, .nil⟩

/-- an __init__'s promise: the arguments behind self; what holds of the new object -/
structure IPrm (A : Type) where
  args : A → List Sl
  out : A → Addr → Hp → Hp → Hp → Prop
def wd0 (F H : Hp) : Wd := ⟨fun _ => False, fun _ _ => True, fun {_ _ _ _} _ _ _ => trivial, F, H⟩
/-- between H and (F', H') nothing that stood was changed -/
def Gr0 (F H F' H' : Hp) : Prop := Gr (wd0 F H) F H F' H'
theorem sok0 {W : Wd} {F H Fb Hb : Hp} (s : Sok W F H) : Sok (wd0 Fb Hb) F H := ⟨s.le, fun _ h => h.elim, fun _ h => h.elim, trivial⟩
theorem gr0_of {W : Wd} {F H F' H' : Hp} (s : Sok W F H) (g : Gr0 F H F' H') : Gr W F H F' H' := by
  have f : Fits W (Prm.pu (A := Unit) (fun _ => []) fun _ _ => False) () := fits_pure
  exact f.gr s g
def IPrm.sp {A : Type} (p : IPrm A) (C : Addr) : Sp := fun vs H Q _ => ∃ x F H1 a dx us, vs = .ref a :: us ∧ H = upd (upd H1 dx (.own a)) a (.ins C dx []) ∧ H1 a = none ∧ H1 dx = none ∧ dx ≠ a ∧ Sok (wd0 F H1) F H1 ∧ SlVs (wd0 F H1) H1 F H1 us (p.args x) ∧
  ∀ F' H', Gr0 F H1 F' H' → p.out x a H1 F' H' → Q .non H'
/-- the new object is of these attributes -/
def IPrm.one {A : Type} (C : Addr) (args : A → List Sl) (fs : A → List (Str × D)) : IPrm A := ⟨args, fun x a H F' H' => F' a = none ∧ OwRep F' H' a (.ins C (fs x))⟩
theorem slvs_new {F H1 H2 : Hp} (g : Gr0 F H1 F H2) {us : List V} {ss : List Sl} (h : SlVs (wd0 F H1) H1 F H1 us ss) : SlVs (wd0 F H1) H1 F H2 us ss := SlVs.gr (fun _ (h : False) => h.elim) g h
theorem ok_init {F H1 : Hp} {N : List Str} {a dx C : Addr} {us : List V} {ss : List Sl} (ha : H1 a = none) (hd : H1 dx = none) (hne : dx ≠ a) (s0 : Sok (wd0 F H1) F H1) (h : SlVs (wd0 F H1) H1 F H1 us ss) :
    Ok (wd0 F H1) (.slf a (.ins C []) :: (ss ++ List.replicate (N.length - (ss.length + 1)) .no)) (L2.start N (.ref a :: us)) F (upd (upd H1 dx (.own a)) a (.ins C dx [])) := by
  have g1 : Gr0 F H1 F (upd H1 dx (.own a)) := Gr.newO s0 hd
  have g2 : Gr0 F H1 F (upd (upd H1 dx (.own a)) a (.ins C dx [])) := g1.trans (Gr.newO g1.ok (by rw [upd_ne (Ne.symm hne)]; exact ha))
  have k0 := ok_start (W := wd0 F H1) (N := N.tail) s0 h
  have hl := h.length
  have nl : (L2.start N (.ref a :: us)) = some (.ref a) :: L2.start N.tail us := by
    unfold L2.start
    rw [List.map_cons, List.cons_append, List.length_cons, List.length_tail, Nat.sub_sub, Nat.add_comm 1]
  have nl2 : List.replicate (N.length - (ss.length + 1)) Sl.no = List.replicate (N.tail.length - ss.length) Sl.no := by
    rw [List.length_tail, Nat.sub_sub, Nat.add_comm 1]
  rw [nl, nl2]
  have k1 := k0.gr g2
  have now : ∀ i, ¬ isOw (ss ++ List.replicate (N.tail.length - ss.length) Sl.no) i := fun i ⟨s, e, hs⟩ => by
    by_cases q : i < ss.length
    · rw [List.getElem?_append_left q] at e; exact hs (h.isOw e)
    · rw [List.getElem?_append_right (by omega), List.getElem?_replicate] at e
      split at e
      · cases e; exact hs rfl
      · cases e
  refine ⟨k1.s0, k1.g, congrArg Nat.succ k1.len, fun i s e => ?_, fun i j b hi hj ei ej => ?_⟩
  · cases i with
    | zero =>
      cases e
      exact ⟨rfl, ha, s0.le.no ha, dx, [], upd_same, .nil⟩
    | succ i =>
      exact SlE.at (σ := none :: L2.start N.tail us) (σ' := some (V.ref a) :: L2.start N.tail us) (i := i + 1) (by
        have z := k1.sl i s e
        cases s with
        | no => trivial
        | dat d => exact z
        | raw v => exact z
        | bor o => exact z
        | own o => exact z
        | slf b o => exact z) rfl
  · cases i with
    | zero =>
      cases j with
      | zero => rfl
      | succ j => exact absurd hj (now j)
    | succ i => exact absurd hi (now i)
theorem IPrm.okE {A : Type} (p : IPrm A) {N ps : List Str} {C : Addr} (F : FunD K "__init__" qual params body scope [] [] f fd) (S : FnScope N ps scope) (hl : ∀ x, (p.args x).length + 1 = ps.length)
    (hbody : BodyOk P w K mg base qual body scope f N k fun t => ∀ x F H1 a H σ, Ok (wd0 F H1) (.slf a (.ins C []) :: (p.args x ++ List.replicate (N.length - ps.length) .no)) σ F H → ∀ Z : Ends,
      (∀ σ' F' H', Gr0 F H1 F' H' → p.out x a H1 F' H' → Z.nx σ' H') → t Z σ H) : FnOk P w K mg base C8.CX0 (k + 1) f fd ps (p.sp C) := by
  refine F.ok S (fun vs H Q E hsp => by
    obtain ⟨x, F, H1, a, dx, us, e, _, _, _, _, _, h, _⟩ := hsp
    rw [e, List.length_cons, h.length]; exact hl x) fun cdv A' outer s H vs Q E hr h => ?_
  obtain ⟨t, ht, hE⟩ := hbody cdv A' outer s H E hr
  refine ⟨t, ht, ?_⟩
  obtain ⟨y, Fz, H1, a, dx, us, e, eH, ha, hd, hne, s0, hv, q⟩ := h
  subst e eH
  have k0 := ok_init (N := N) (C := C) ha hd hne s0 hv
  have ll : (p.args y).length + 1 = ps.length := hl y
  rw [ll] at k0
  exact hE y Fz H1 a _ _ k0 _ fun σ' F' H' g o => q F' H' g o
theorem IPrm.mak {A : Type} (p : IPrm A) {N ps : List Str} {C : Addr} (M : Mk K C f) (hm : mg x = some (.ref C)) (F : ∃ fd, FunD K "__init__" qual params body scope [] [] f fd) (S : FnScope N ps scope)
    (b : ∀ (kV doc pm : Value) (an : Option Addr) (cdv ct : Value) (us : List Value), us.length = ps.length → bindArgs (PySem.W.fnOf "__init__" qual params body scope .none kV doc pm an cdv ct) ⟨us, []⟩ = pure (ps.zip us))
    (hl : ∀ x, (p.args x).length + 1 = ps.length)
    (hbody : BodyOk P w K mg base qual body scope f N k fun t => ∀ x F H1 a H σ, Ok (wd0 F H1) (.slf a (.ins C []) :: (p.args x ++ List.replicate (N.length - ps.length) .no)) σ F H → ∀ Z : Ends,
      (∀ σ' F' H', Gr0 F H1 F' H' → p.out x a H1 F' H' → Z.nx σ' H') → t Z σ H) : C8.Mak P w K mg base (k + 1) x C (p.sp C) [] := by
  obtain ⟨fd, F⟩ := F
  exact ⟨f, fd, ps, [], M, p.okE F S hl hbody, hm, F.bindsN b, .nil⟩
/-- the body ends with the object as told -/
theorem ec_init {A : Type} {C : Addr} {args : A → List Sl} {fs : A → List (Str × D)} {t : TS} {Γ : List Sl} {F H1 H : Hp} {a : Addr} {x : A} {σ : L2.St} (k : Ok (wd0 F H1) Γ σ F H) {Z : Ends} (q : ∀ σ' F' H', Gr0 F H1 F' H' → (IPrm.one C args fs).out x a H1 F' H' → Z.nx σ' H')
    (h : Ec (wd0 F H1) t Γ { nx := fun Γ' => Γ'[0]? = some (.slf a (.ins C (fs x))), rt := fun _ => False }) : t Z σ H :=
  h σ F H k Z (fun Γ' σ' F' H' k' _ e => q σ' F' H' k'.g (by
    obtain ⟨_, _, f0, r⟩ := k'.sl 0 _ e
    exact ⟨f0, r⟩)) (fun _ _ _ _ _ _ z => z.elim) (fun _ _ _ _ _ _ z => z.elim) fun _ _ _ _ _ _ z => z.elim
end
section
variable {A : Type} {W : Wd} {Γ : List Sl} {ta : TA} {C : Addr} {p : IPrm A}
theorem arg0 {Hb F H : Hp} : ∀ {vs : List V} {ss : List Sl}, (∀ s ∈ ss, s.ow = none) → SlVs W Hb F H vs ss → SlVs (wd0 F H) H F H vs ss := fun {vs ss} n h =>
  (Fits.arg (p := Prm.pu (A := Unit) (fun _ => []) fun _ _ => False) (x := ()) fits_pure n h)
/-- C(..), as it comes out -/
theorem make_run (x : A) (ha : EvAE W ta Γ (p.args x)) (n : noOw (p.args x) = true) : ∀ σ F H, Ok W Γ σ F H → ∀ Q : VK, (∀ a F1 H1 F' H', Gr W F H F1 H1 → Gr0 F1 H1 F' H' → H1 a = none → p.out x a H1 F' H' → Q (.ref a) H') → tMake C (p.sp C) [] C8.E0 ta σ H Q := fun σ F H k Q q =>
  ha σ F H k _ fun vs F1 H1 g1 z1 a dx ha hd hne => by
    rw [List.append_nil]
    exact ⟨x, F1, H1, a, dx, vs, rfl, rfl, ha, hd, hne, sok0 g1.ok, arg0 (noOw_of n) z1, fun F' H' g o => ⟨rfl, q a F1 H1 F' H' g1 g ha o⟩⟩
theorem ev_make {args : A → List Sl} {fs : A → List (Str × D)} (x : A) (ha : EvAE W ta Γ (args x)) (n : noOw (args x) = true) : EvE W (tMake C ((IPrm.one C args fs).sp C) [] C8.E0 ta) Γ (.own (.ins C (fs x))) := fun σ F H k Q q =>
  make_run (p := IPrm.one C args fs) x ha n σ F H k Q fun a F1 H1 F' H' g1 g0 h0 o => q (.ref a) F' H' (g1.trans (gr0_of g1.ok g0)) ⟨a, rfl, g1.no h0, o.1, o.2⟩
end

/-! ### a property -/
structure PrpAt (P : Program) (w : World) (K : PySem.W.Frag) (mg : Str → Option Value) (base : Heap) (k : Nat) (C : Addr) (m : Str) (sp : Sp) : Prop where
  ex : ∃ (p g : Addr) (fd : FuncData) (ps : List Str), Cls K C ∧ PropOf K C m p g ∧ FnOk P w K mg base C8.CX0 k g fd ps sp ∧ Binds K fd ps []
theorem pe_propC {X : Cx} {j k : Nat} {C : Addr} {f : Str} {sp : Sp} {e : Expr} {ta : TE} {pos : Pos} (c : PrpAt X.prog X.w X.K X.mg X.base k C f sp) (hr : Room j X.A) (hk : k + 1 ≤ j) (he : PE X e ta) (hab : attributeBase e f X.env (eval e X.env) = eval e X.env := by rfl) : PE X (.Attribute e f pos) (tProp C sp [] C8.E0 ta) := by
  obtain ⟨p, g, fd, ps, c1, c2, F, b⟩ := c.ex
  exact pe_prop he c1 c2 F (hr.mono hk) b .nil pass0N hab
where
  pass0N {X : Cx} {E : XK} : Passes C8.CX0 X E := C8.pass0
/-! ### calls with keyword-only arguments -/
structure CalN (P : Program) (w : World) (K : PySem.W.Frag) (mg : Str → Option Value) (base : Heap) (k : Nat) (x : Str) (n : Nat) (ks : List Str) (gV : List V → List V → List V) (sp : Sp) : Prop where
  ex : ∃ (f : Addr) (fd : FuncData) (ps : List Str) (g : List Value → List Value → List Value), FnOk P w K mg base C8.CX0 k f fd ps sp ∧ mg x = some (.ref f) ∧ PySem.W.keepIn K (.ref f) = true ∧ KBn K fd ps n ks g gV
structure MakN (P : Program) (w : World) (K : PySem.W.Frag) (mg : Str → Option Value) (base : Heap) (k : Nat) (x : Str) (C : Addr) (n : Nat) (ks : List Str) (gV : List V → List V → List V) (sp : Sp) : Prop where
  ex : ∃ (f : Addr) (fd : FuncData) (ps : List Str) (g : List Value → List Value → List Value), Mk K C f ∧ FnOk P w K mg base C8.CX0 k f fd ps sp ∧ mg x = some (.ref C) ∧ KBn K fd ps (n + 1) ks g gV
section
variable {X : Cx} {j k n : Nat} {C : Addr} {x : Str} {ks : List Str} {gV : List V → List V → List V} {sp : Sp} {p pos : Pos} {e : Expr} {es : List Expr} {kws : List Keyword} {t tk : TA}
theorem pe_callKX (c : CalN X.prog X.w X.K X.mg X.base k x n ks gV sp) (hr : Room j X.A) (hk : k ≤ j) (hg : Gl X x) (ha : PA X (e :: es) t) (hkw : PK X kws tk) (hall : (backToKw pos (keywordEach kws X.env)).all (·.1.isSome) = true := by rfl) (hks : (backToKw pos (keywordEach kws X.env)).filterMap (·.1) = ks := by rfl)
    (hdb : (x == ("__debug__" : Str)) = false := by decide) (he : starEach (e :: es) X.env = (false, eval e X.env) :: starEach es X.env := by rfl)
    (hpl : ((backTo pos (starEach (e :: es) X.env)).any (·.1) || (backToKw pos (keywordEach kws X.env)).any (·.1.isNone)) = false := by rfl) :
    PE X (.Call (.Name x p) (e :: es) kws pos) (tCallN n ks.length sp gV C8.E0 t tk) := by
  obtain ⟨f, fd, ps, g, F, hm, kp, b⟩ := c.ex
  exact pe_callN F (hr.mono hk) hg hm kp b C8.pass0 ha hkw hall hks hdb he hpl
theorem pe_makeKX (c : MakN X.prog X.w X.K X.mg X.base k x C n ks gV sp) (hr : Room j X.A) (hk : k + 1 ≤ j) (hg : Gl X x) (ha : PA X (e :: es) t) (hkw : PK X kws tk) (hall : (backToKw pos (keywordEach kws X.env)).all (·.1.isSome) = true := by rfl) (hks : (backToKw pos (keywordEach kws X.env)).filterMap (·.1) = ks := by rfl)
    (hdb : (x == ("__debug__" : Str)) = false := by decide) (he : starEach (e :: es) X.env = (false, eval e X.env) :: starEach es X.env := by rfl)
    (hpl : ((backTo pos (starEach (e :: es) X.env)).any (·.1) || (backToKw pos (keywordEach kws X.env)).any (·.1.isNone)) = false := by rfl) :
    PE X (.Call (.Name x p) (e :: es) kws pos) (tMakeK C n ks.length sp gV C8.E0 t tk) := by
  obtain ⟨f, fd, ps, g, M, F, hm, b⟩ := c.ex
  exact pe_makeK M F (hr.mono hk) hg hm b C8.pass0 ha hkw hall hks hdb he hpl
end
end Dn
/-! Mth0: circuits as plain data, bits; short words for ints. -/
namespace Dn
open PySem PySem.Spec PyProof.Rows L2
section
variable {W : Wd} {Γ : List Sl} {ta tb te : TE} {i j : Int}
theorem ev_bi {g : Int → Int → Int} (ha : EvE W ta Γ (.dat (.int i))) (hb : EvE W tb Γ (.dat (.int j))) : EvE W (tOp (rI0 fun i j => .int (g i j)) ta tb) Γ (.dat (.int (g i j))) := ev_op ha hb (oe_I0 fun F => .int _)
theorem ev_bb {g : Int → Int → Bool} (ha : EvE W ta Γ (.dat (.int i))) (hb : EvE W tb Γ (.dat (.int j))) : EvE W (tOp (rI0 fun i j => .bl (g i j)) ta tb) Γ (.dat (.bl (g i j))) := ev_op ha hb (oe_I0 fun F => .bl _)
theorem et_bb {g : Int → Int → Bool} (ha : EvE W ta Γ (.dat (.int i))) (hb : EvE W tb Γ (.dat (.int j))) : EvTE W (tTest (tOp (rI0 fun i j => .bl (g i j)) ta tb)) Γ (g i j) := et_test (ev_bb ha hb)
theorem ev_bc {C : Int → Int → Prop} {g : Int → Int → Int} (ha : EvE W ta Γ (.dat (.int i))) (hb : EvE W tb Γ (.dat (.int j))) (hc : C i j) : EvE W (tOp (rI C fun i j => .int (g i j)) ta tb) Γ (.dat (.int (g i j))) := ev_op ha hb (oe_I hc fun F => .int _)
theorem ev_eqI (ha : EvE W ta Γ (.dat (.int i))) (hb : EvE W tb Γ (.dat (.int j))) : EvE W (tOp rEq ta tb) Γ (.dat (.bl (decide (i = j)))) := ev_op ha hb oe_eqI
theorem ev_neI (ha : EvE W ta Γ (.dat (.int i))) (hb : EvE W tb Γ (.dat (.int j))) : EvE W (tOp rNe ta tb) Γ (.dat (.bl (!decide (i = j)))) := ev_op ha hb oe_neI
theorem ev_add {K : PySem.W.Frag} (ha : EvE W ta Γ (.dat (.int i))) (hb : EvE W tb Γ (.dat (.int j))) : EvE W (tOp (rPlus K) ta tb) Γ (.dat (.int (i + j))) := ev_op ha hb oe_addI
theorem ev_mul (ha : EvE W ta Γ (.dat (.int i))) (hb : EvE W tb Γ (.dat (.int j))) (h : CMul i j) : EvE W (tOp rTimes ta tb) Γ (.dat (.int (i * j))) := ev_op ha hb (oe_mulI h)
theorem ev_addL {K : PySem.W.Frag} {xs ys : List D} (ha : EvE W ta Γ (.bor (.lst xs))) (hb : EvE W tb Γ (.bor (.lst ys))) (hl : xs.length + ys.length ≤ 1000) : EvE W (tOp (rPlus K) ta tb) Γ (.own (.lst (xs ++ ys))) := ev_op ha hb (oe_addL hl)
theorem ev_ixT {K : PySem.W.Frag} {ds : List D} {d : D} (ha : EvE W ta Γ (.dat (.tup ds))) (hb : EvE W tb Γ (.dat (.int i))) (h : atI ds i = some d) : EvE W (tOp (rIx K) ta tb) Γ (.dat d) := ev_op ha hb (oe_ixT h)
theorem ev_ixL {K : PySem.W.Frag} {ds : List D} {d : D} (ha : EvE W ta Γ (.bor (.lst ds))) (hb : EvE W tb Γ (.dat (.int i))) (h : atI ds i = some d) : EvE W (tOp (rIx K) ta tb) Γ (.dat d) := ev_op ha hb (oe_ixL h)
theorem ev_neg (ha : EvE W ta Γ (.dat (.int i))) : EvE W (tUn (rU fun i => .int (-i)) ta) Γ (.dat (.int (-i))) := ev_un ha ue_neg
theorem ev_inL {K : PySem.W.Frag} {neg : Bool} {d : D} {ds : List D} (ha : EvE W ta Γ (.dat d)) (hb : EvE W tb Γ (.bor (.lst ds))) (h1 : flatD d = true) (h2 : ds.all flatD = true) : EvE W (tOp (rIn K neg) ta tb) Γ (.dat (.bl (if neg then !inD d ds else inD d ds))) := ev_op ha hb (oe_inL h1 h2)
theorem ev_inT {K : PySem.W.Frag} {neg : Bool} {d : D} {ds : List D} (ha : EvE W ta Γ (.dat d)) (hb : EvE W tb Γ (.dat (.tup ds))) (h1 : flatD d = true) (h2 : ds.all flatD = true) : EvE W (tOp (rIn K neg) ta tb) Γ (.dat (.bl (if neg then !inD d ds else inD d ds))) := ev_op ha hb (oe_inT h1 h2)
theorem lt_ptF {f : Str} {d : D} {n : Nat} : ∀ {fs : List (Str × D)}, fs.length < n → (ptF f d fs).length < n + 1
  | [], h => by show 1 < n + 1; exact Nat.succ_lt_succ h
  | (g, x) :: r, h => by
    unfold ptF
    by_cases e : g = f
    · rw [if_pos e]; exact Nat.lt_succ_of_lt h
    · rw [if_neg e, List.length_cons]
      rw [List.length_cons] at h
      cases n with
      | zero => exact absurd h (Nat.not_lt_zero _)
      | succ n => exact Nat.succ_lt_succ (lt_ptF (Nat.lt_of_succ_lt_succ h))
theorem inD_str {x : Str} {xs : List Str} : inD (.str x) (xs.map .str) = decide (x ∈ xs) := by
  unfold inD
  rw [List.any_map]
  induction xs with
  | nil => simp
  | cons y r ih =>
    rw [List.any_cons, ih, Bool.eq_iff_iff]
    simp only [Function.comp, eqD, Bool.or_eq_true, decide_eq_true_eq, List.mem_cons, beq_iff_eq]
    exact ⟨fun h => h.imp Eq.symm id, fun h => h.imp Eq.symm id⟩
theorem inD_bl {x : Bool} {xs : List Bool} : inD (.bl x) (xs.map .bl) = decide (x ∈ xs) := by
  unfold inD
  rw [List.any_map]
  induction xs with
  | nil => simp
  | cons y r ih =>
    rw [List.any_cons, ih, Bool.eq_iff_iff]
    simp only [Function.comp, eqD, Bool.or_eq_true, decide_eq_true_eq, List.mem_cons, beq_iff_eq]
    exact ⟨fun h => h.imp Eq.symm id, fun h => h.imp Eq.symm id⟩
theorem flat_str {xs : List Str} : (xs.map D.str).all flatD = true := by
  rw [List.all_map]; exact List.all_eq_true.mpr fun _ _ => rfl
theorem flat_bl {xs : List Bool} : (xs.map D.bl).all flatD = true := by
  rw [List.all_map]; exact List.all_eq_true.mpr fun _ _ => rfl
theorem atI_map {α : Type} {f : α → D} {xs : List α} {n : Nat} {x : α} (h : xs[n]? = some x) : atI (xs.map f) (n : Int) = some (f x) := atI_n (by rw [List.getElem?_map, h]; rfl)
end
end Dn
namespace Sg
open PySem PySem.Spec PyProof.Rows L2 Dn
structure Gate where
  nm : Str
  tab : List Bool
  nets : List Str
  rng : List (Int × Int)
structure Reg where
  nm : Str
  net : Str
  e0 : Int
  e1 : Int
  o0 : Int
  o1 : Int
  su : Int
  ho : Int
  ini : Bool
structure Circ where
  ins : List Str
  gates : List Gate
  regs : List Reg
def pD (p : Int × Int) : D := .tup [.int p.1, .int p.2]
def strsD (l : List Str) : D := .tup (l.map .str)
def gD (g : Gate) : D := .tup [.str g.nm, .tup (g.tab.map .bl), .tup (g.nets.map .str), .tup (g.rng.map pD)]
def rD (r : Reg) : D := .tup [.str r.nm, .str r.net, .tup [.int r.e0, .int r.e1], .tup [.int r.o0, .int r.o1], .int r.su, .int r.ho, .bl r.ini]
def cD (c : Circ) : D := .tup [.tup (c.ins.map .str), .tup (c.gates.map gD), .tup (c.regs.map rD), .tup []]
def src (c : Circ) : List Str := c.ins ++ c.regs.map (·.nm)
def nets (c : Circ) : List Str := src c ++ c.gates.map (·.nm)
def bit (i k : Nat) : Bool := decide (i / 2 ^ k % 2 = 1)
def bits (i n : Nat) : List Bool := (List.range n).map (bit i)
def idx : List Bool → Nat
  | [] => 0
  | b :: r => (if b then 1 else 0) + 2 * idx r
theorem idx_snoc : ∀ (l : List Bool) (b : Bool), idx (l ++ [b]) = idx l + (if b then 2 ^ l.length else 0)
  | [], b => by cases b <;> rfl
  | a :: l, b => by
    show (if a then 1 else 0) + 2 * idx (l ++ [b]) = (if a then 1 else 0) + 2 * idx l + _
    rw [idx_snoc l b, List.length_cons, Nat.pow_succ]
    cases b
    · simp
    · simp only [if_true]; omega
theorem idx_lt : ∀ l : List Bool, idx l < 2 ^ l.length
  | [] => by decide
  | a :: l => by
    have := idx_lt l
    show (if a then 1 else 0) + 2 * idx l < _
    rw [List.length_cons, Nat.pow_succ]
    cases a <;> simp <;> omega
theorem bit_zero (i : Nat) : bit i 0 = decide (i % 2 = 1) := by unfold bit; rw [Nat.pow_zero, Nat.div_one]
theorem bit_succ (i k : Nat) : bit i (k + 1) = bit (i / 2) k := by unfold bit; rw [Nat.pow_succ', Nat.div_div_eq_div_mul]
theorem idx_bit : ∀ (l : List Bool) (k : Nat) (b : Bool), l[k]? = some b → bit (idx l) k = b
  | a :: l, 0, b, h => by
    cases h
    rw [bit_zero]
    show decide (((if a then 1 else 0) + 2 * idx l) % 2 = 1) = a
    cases a <;> simp <;> omega
  | a :: l, k + 1, b, h => by
    have ih := idx_bit l k b h
    rw [bit_succ]
    have : idx (a :: l) / 2 = idx l := by
      show ((if a then 1 else 0) + 2 * idx l) / 2 = idx l
      cases a <;> simp <;> omega
    rw [this]
    exact ih
/-- a number below 2 ^ n is told by its bits -/
theorem bit_ext : ∀ (n i j : Nat), i < 2 ^ n → j < 2 ^ n → (∀ k, k < n → bit i k = bit j k) → i = j
  | 0, i, j, hi, hj, _ => by simp at hi hj; omega
  | n + 1, i, j, hi, hj, h => by
    rw [Nat.pow_succ] at hi hj
    have h0 := h 0 (Nat.succ_pos _)
    rw [bit_zero, bit_zero] at h0
    have ih := bit_ext n (i / 2) (j / 2) (by omega) (by omega) fun k hk => by
      have := h (k + 1) (Nat.succ_lt_succ hk)
      rw [bit_succ, bit_succ] at this
      exact this
    have h0 : (i % 2 = 1) ↔ (j % 2 = 1) := decide_eq_decide.mp h0
    omega
theorem bit_py (i k : Nat) : decide (Builtin.bitAnd ((i : Int) / 2 ^ (0 + (k : Int)).toNat) 1 = 1) = bit i k := by
  rw [PyProof.Rows.bitAnd_m1, Int.zero_add, Int.toNat_natCast]
  unfold bit
  have e : ((i : Int) / 2 ^ k % 2) = ((i / 2 ^ k % 2 : Nat) : Int) := by
    rw [Int.natCast_emod, Int.natCast_ediv, Int.natCast_pow]; rfl
  rw [e]
  exact decide_eq_decide.mpr ⟨fun h => by omega, fun h => by omega⟩
end Sg
/-! Den10: dict comprehensions, dict displays, starred tuples, slices of tuples, told by abstract slots. -/
namespace Dn
open PySem PySem.Spec PyProof.Rows L2
section
variable {W : Wd} {Γ : List Sl}
/-- a dict comprehension; I: what holds of the dict after i items -/
theorem ev_dcR {ti : TI} {g : TG} {tt : TT} {tk tv : TE} {vs : List Nat} {S : List D → Prop} (h : ItR W ti Γ S) (hl : ∀ ds, S ds → ds.length ≤ 1000) (I : List D → Nat → List (Key × D) → Prop) (h0 : ∀ ds, S ds → I ds 0 [])
    (hs : ∀ ds (i : Nat) (d : D) out, S ds → ds[i]? = some d → I ds i out → out.length ≤ i → ∃ js Γ2 ky e, TgE W g js d (wipeG Γ vs) Γ2 ∧ (∀ j ∈ js, j ∈ vs) ∧ EvTE W tt Γ2 true ∧
      EvE W tk Γ2 (.dat (kD ky)) ∧ EvE W tv Γ2 (.dat e) ∧ I ds (i + 1) (pt out ky e)) :
    Ev W (tDc ti g tt tk tv vs) Γ fun s => ∃ ds out, S ds ∧ s = .own (.dic out) ∧ I ds ds.length out ∧ out.length ≤ ds.length := fun σ F H k Q q => by
  refine h σ F H k _ fun J F1 H1 ds g1 hS hJ Dl hD => ?_
  have hDH : H Dl = none := g1.no hD
  have hm : ¬ W.M Dl := fun m => k.ok.mh Dl m hDH
  refine ⟨fun i m H' => m = ds.length - i ∧ i ≤ ds.length ∧ ∃ F' acc out, Gr W F H F' H' ∧ Le F1 F' ∧ F' Dl = none ∧ H' Dl = some (.dK acc) ∧ RepK F' acc out ∧ out.length ≤ i ∧ I ds i out,
    ⟨ds.length, rfl, Nat.zero_le _, F1, [], [], g1.put k.ok hDH (g1.ok.le.no hD), Le.refl _, g1.ok.le.no hD, upd_same, .nil, Nat.le_refl _, h0 ds hS⟩, ?_⟩
  rintro i m H' ⟨rfl, hi, F', acc, out, g', le', fD, hDl, rp, ol, hI⟩
  obtain ⟨hgo, hst⟩ := hJ i F' H' g'.ok le'
  by_cases hlt : i < ds.length
  · obtain ⟨go, yl⟩ := hgo ds[i] (List.getElem?_eq_getElem hlt)
    obtain ⟨js, Γ2, ky, e, tg, hjs, ht, hk, hv, hI2⟩ := hs ds i ds[i] out hS (List.getElem?_eq_getElem hlt) hI ol
    refine .inr ⟨go, fun H2 => i + 1 ≤ ds.length ∧ ∃ F2 acc out, Gr W F H F2 H2 ∧ Le F1 F2 ∧ F2 Dl = none ∧ H2 Dl = some (.dK acc) ∧ RepK F2 acc out ∧ out.length ≤ i + 1 ∧ I ds (i + 1) out, fun H2 ⟨a, b⟩ => ⟨ds.length - (i + 1), by omega, rfl, a, b⟩, fun x H2 y => ?_⟩
    obtain ⟨F2, g2, rx⟩ := yl x H2 y
    have k2 : Ok W (wipeG Γ vs) (L2.wipe σ vs) F2 H2 := (k.gr (g'.trans g2)).wipe vs
    refine tg _ F2 H2 x k2 rx _ fun σ3 k3 at3 => ⟨wipe_back at3 hjs, ?_⟩
    refine ht σ3 F2 H2 k3 _ fun F3 H3 g3 => ?_
    rw [if_pos rfl]
    refine hk σ3 F3 H3 (k3.gr g3) _ fun kv F4 H4 g4 z4 => ?_
    refine hv σ3 F4 H4 ((k3.gr g3).gr g4) _ fun v F5 H5 g5 z5 => ?_
    have gb := ((g2.trans g3).trans g4).trans g5
    have gg := g'.trans gb
    refine ⟨acc, ky, key_rep (show Rep F4 kv (kD ky) from z4), gb.kp Dl _ hDl hm, ?_, hlt, F5, putK acc ky v, pt out ky e, gg.put k.ok hDH (gb.out fD hDl), le'.trans gb.ff, gb.out fD hDl, upd_same, (rp.mono gb.ff).put z5, Nat.le_trans (pt_len _ _ _) (Nat.succ_le_succ ol), hI2⟩
    rw [rp.length]
    have := hl ds hS
    exact Nat.lt_of_le_of_lt (show out.length ≤ 1000 by omega) (by decide)
  · have e : i = ds.length := by omega
    subst e
    exact .inl ⟨hst rfl, q _ F' H' _ g' ⟨ds, out, hS, rfl, hI, ol⟩ ⟨Dl, rfl, hDH, fD, acc, hDl, rp⟩⟩
/-- over a plain list -/
theorem ev_dcX {α : Type} {ti : TI} {g : TG} {tk tv : TE} {vs : List Nat} (xs : List α) (f : Nat → α → D) (ky : Nat → α → Key) (vl : Nat → α → D) {ds : List D} (h : ItE W ti Γ ds) (hds : ∀ i d, ds[i]? = some d → ∃ x, xs[i]? = some x ∧ d = f i x) (hlen : ds.length = xs.length) (hl : xs.length ≤ 1000)
    (hs : ∀ (i : Nat) (x : α), xs[i]? = some x → ∃ js Γ2, TgE W g js (f i x) (wipeG Γ vs) Γ2 ∧ (∀ j ∈ js, j ∈ vs) ∧ EvE W tk Γ2 (.dat (kD (ky i x))) ∧ EvE W tv Γ2 (.dat (vl i x))) :
    Ev W (tDc ti g tYes tk tv vs) Γ fun s => ∃ out, s = .own (.dic out) ∧ out.length ≤ xs.length ∧ (∀ k, lk out k ≠ none → ∃ (i : Nat) (x : α), xs[i]? = some x ∧ ky i x = k) ∧
      ∀ (i : Nat) (x : α), xs[i]? = some x → (∀ (j : Nat) (y : α), i < j → xs[j]? = some y → ky j y ≠ ky i x) → lk out (ky i x) = some (vl i x) := by
  have z := ev_dcR (g := g) (tt := tYes) (tk := tk) (tv := tv) (vs := vs) h (fun es e => by subst e; rw [hlen]; exact hl)
    (fun _ n out => (∀ k, lk out k ≠ none → ∃ (i : Nat) (x : α), xs[i]? = some x ∧ ky i x = k) ∧ ∀ (i : Nat) (x : α), i < n → xs[i]? = some x → (∀ (j : Nat) (y : α), i < j → j < n → xs[j]? = some y → ky j y ≠ ky i x) → lk out (ky i x) = some (vl i x)) (fun _ _ => ⟨fun k h => absurd rfl h, fun _ _ h => absurd h (Nat.not_lt_zero _)⟩) (fun es n d out e hd ⟨h1, h2⟩ _ => by
    subst e
    obtain ⟨x, hx, rfl⟩ := hds n d hd
    obtain ⟨js, Γ2, tg, hj, hk, hv⟩ := hs n x hx
    refine ⟨js, Γ2, ky n x, vl n x, tg, hj, et_yes, hk, hv, fun k hk => ?_, fun i y hi hy hu => ?_⟩
    · rw [lk_pt] at hk
      by_cases q : ky n x = k
      · exact ⟨n, x, hx, q⟩
      · rw [if_neg q] at hk; exact h1 k hk
    · rw [lk_pt]
      by_cases q : i = n
      · subst q
        rw [hx] at hy
        cases hy
        rw [if_pos rfl]
      · rw [if_neg (hu n x (by omega) (Nat.lt_succ_self _) hx)]
        exact h2 i y (by omega) hy fun j z a b c => hu j z a (Nat.lt_succ_of_lt b) c)
  refine z.imp fun s ⟨es, out, e, es', ⟨h1, h2⟩, hl⟩ => ?_
  subst e es'
  rw [hlen] at h2 hl
  exact ⟨out, rfl, hl, h1, fun i x hx hu => h2 i x (List.getElem?_eq_some_iff.mp hx).1 hx fun j y a b c => hu j y a c⟩

/-! ### {k: v} -/
theorem ev_disp1 {tk tv : TE} {ky : Key} {d : D} (hk : EvE W tk Γ (.dat (kD ky))) (hv : EvE W tv Γ (.dat d)) : EvE W (tDisp [(tk, tv)]) Γ (.own (.dic [(ky, d)])) := fun σ F H k Q q p hp => by
  have g0 : Gr W F H F (upd H p (.dK [])) := Gr.newO k.ok hp
  have hm : ¬ W.M p := fun m => k.ok.mh p m hp
  refine hk σ F _ (k.gr g0) _ fun y F1 H1 g1 z1 => ?_
  refine hv σ F1 H1 ((k.gr g0).gr g1) _ fun v F2 H2 g2 z2 => ?_
  have gb := g1.trans g2
  have hp2 : H2 p = some (.dK []) := gb.kp p _ upd_same hm
  refine ⟨hp2, [(ky, v)], ?_, Nat.le_of_lt (by show 1 < 15; decide), ?_⟩
  · rw [key_rep (show Rep F1 y (kD ky) from z1)]; rfl
  · have f2 : F2 p = none := gb.out (k.ok.le.no hp) upd_same
    exact q _ F2 _ ((g0.trans gb).put k.ok hp f2) ⟨p, rfl, hp, f2, _, upd_same, .cons z2 .nil⟩
end
end Dn
/-! Mth1: circuits in order, their values. -/
namespace Sg
open PySem Dn
def Topo : List Str → List Gate → Prop
  | _, [] => True
  | k, g :: gs => (∀ n ∈ g.nets, n ∈ k) ∧ Topo (k ++ [g.nm]) gs
structure GateOk (g : Gate) : Prop where
  tab : g.tab.length = 2 ^ g.nets.length
  pins : g.nets.length ≤ 3
  rng : g.rng.length = g.nets.length
  lo : ∀ p ∈ g.rng, 0 ≤ p.1 ∧ p.1 ≤ p.2 ∧ p.2 ≤ 100
structure RegOk (c : Circ) (r : Reg) : Prop where
  net : r.net ∈ nets c
  e0 : 0 ≤ r.e0
  e1 : r.e0 ≤ r.e1
  e2 : r.e1 ≤ 35000
  o0 : 0 ≤ r.o0
  o1 : r.o0 ≤ r.o1
  o2 : r.o1 ≤ 100
  su : 0 ≤ r.su ∧ r.su ≤ 10
  ho : 0 ≤ r.ho ∧ r.ho ≤ 10
  hh : r.ho < r.o1
structure WF (c : Circ) : Prop where
  i : c.ins.length ≤ 2
  g : c.gates.length ≤ 5
  r : c.regs.length ≤ 3
  r1 : c.regs ≠ []
  nd : (nets c).Nodup
  tp : ∃ gs, gs.Perm c.gates ∧ Topo (src c) gs
  gate : ∀ g ∈ c.gates, GateOk g
  reg : ∀ r ∈ c.regs, RegOk c r
section
variable {c : Circ}
theorem nd_gates (h : (nets c).Nodup) : (c.gates.map (·.nm)).Nodup := (List.nodup_append.mp h).2.1
theorem nd_src (h : (nets c).Nodup) : (src c).Nodup := (List.nodup_append.mp h).1
theorem src_gate (h : (nets c).Nodup) {n : Str} (a : n ∈ src c) (g : Gate) (hg : g ∈ c.gates) : g.nm ≠ n := fun e => (List.nodup_append.mp h).2.2 n a g.nm (List.mem_map.mpr ⟨g, hg, rfl⟩) e.symm
theorem gate_inj (h : (nets c).Nodup) {g g' : Gate} (hg : g ∈ c.gates) (hg' : g' ∈ c.gates) (e : g.nm = g'.nm) : g = g' := by
  obtain ⟨i, hi⟩ := List.mem_iff_getElem?.mp hg
  obtain ⟨j, hj⟩ := List.mem_iff_getElem?.mp hg'
  have hn := nd_gates h
  have a : (c.gates.map (·.nm))[i]? = some g.nm := by rw [List.getElem?_map, hi]; rfl
  have b : (c.gates.map (·.nm))[j]? = some g.nm := by rw [List.getElem?_map, hj, e]; rfl
  have hl := (List.getElem?_eq_some_iff.mp a).1
  have q := (List.getElem?_inj hl hn).mp (a.trans b.symm)
  subst q
  rw [hi] at hj
  exact Option.some.inj hj
/-- the place of the gate that drives n -/
def gix (c : Circ) (n : Str) : Option Nat := c.gates.findIdx? fun g => decide (g.nm = n)
theorem gix_some {n : Str} {i : Nat} (h : gix c n = some i) : ∃ g, c.gates[i]? = some g ∧ g.nm = n := by
  obtain ⟨hi, e, _⟩ := List.findIdx?_eq_some_iff_getElem.mp h
  exact ⟨c.gates[i], List.getElem?_eq_getElem hi, of_decide_eq_true e⟩
theorem gix_none {n : Str} (h : gix c n = none) : ∀ g ∈ c.gates, g.nm ≠ n := fun g hg => of_decide_eq_false (by
  have := List.findIdx?_eq_none_iff.mp h g hg
  simpa using this)
theorem gix_of (hn : (nets c).Nodup) {i : Nat} {g : Gate} (h : c.gates[i]? = some g) : gix c g.nm = some i := by
  cases e : gix c g.nm with
  | none => exact absurd rfl (gix_none e g (List.mem_of_getElem? h))
  | some j =>
    obtain ⟨g', hg', en⟩ := gix_some e
    have q := gate_inj hn (List.mem_of_getElem? hg') (List.mem_of_getElem? h) en
    subst q
    have a : (c.gates.map (·.nm))[i]? = some g'.nm := by rw [List.getElem?_map, h]; rfl
    have b : (c.gates.map (·.nm))[j]? = some g'.nm := by rw [List.getElem?_map, hg']; rfl
    have hl := (List.getElem?_eq_some_iff.mp a).1
    rw [(List.getElem?_inj hl (nd_gates hn)).mp (a.trans b.symm)]
theorem gix_src (hn : (nets c).Nodup) {n : Str} (h : n ∈ src c) : gix c n = none := by
  cases e : gix c n with
  | none => rfl
  | some j =>
    obtain ⟨g', hg', en⟩ := gix_some e
    exact absurd en (src_gate hn h g' (List.mem_of_getElem? hg'))
theorem gix_net {n : Str} (h : n ∈ nets c) (e : gix c n = none) : n ∈ src c := by
  rcases List.mem_append.mp h with q | q
  · exact q
  · obtain ⟨g, hg, en⟩ := List.mem_map.mp q
    exact absurd en (gix_none e g hg)
theorem topo_split : ∀ {pre : List Gate} {k : List Str} {g : Gate} {post : List Gate}, Topo k (pre ++ g :: post) → ∀ n ∈ g.nets, n ∈ k ∨ ∃ g' ∈ pre, g'.nm = n
  | [], k, g, post, h, n, hn => .inl (h.1 n hn)
  | p :: pre, k, g, post, h, n, hn => by
    rcases topo_split (pre := pre) h.2 n hn with q | ⟨g', hg', e⟩
    · rcases List.mem_append.mp q with q | q
      · exact .inl q
      · exact .inr ⟨p, List.mem_cons_self .., (List.mem_singleton.mp q).symm⟩
    · exact .inr ⟨g', List.mem_cons_of_mem _ hg', e⟩
theorem first_not {α : Type} (p : α → Prop) : ∀ l : List α, (∀ x ∈ l, p x) ∨ ∃ pre x post, l = pre ++ x :: post ∧ (∀ y ∈ pre, p y) ∧ ¬ p x
  | [] => .inl fun _ h => nomatch h
  | x :: l => by
    by_cases h : p x
    · rcases first_not p l with q | ⟨pre, y, post, e, a, b⟩
      · exact .inl fun y hy => (List.mem_cons.mp hy).elim (fun e => e ▸ h) fun hy => q y hy
      · exact .inr ⟨x :: pre, y, post, by rw [e]; rfl, fun z hz => (List.mem_cons.mp hz).elim (fun e => e ▸ h) fun hz => a z hz, b⟩
    · exact .inr ⟨[], x, l, rfl, fun _ h => (nomatch h), h⟩
/-- a net of a gate: a source or a gate's -/
theorem WF.net (w : WF c) {g : Gate} (hg : g ∈ c.gates) {n : Str} (hn : n ∈ g.nets) : n ∈ nets c := by
  obtain ⟨gs, hp, ht⟩ := w.tp
  obtain ⟨pre, post, e⟩ := List.append_of_mem (hp.mem_iff.mpr hg)
  subst e
  rcases topo_split ht n hn with q | ⟨g', hg', en⟩
  · exact List.mem_append_left _ q
  · exact List.mem_append_right _ (List.mem_map.mpr ⟨g', hp.mem_iff.mp (List.mem_append_left _ hg'), en⟩)
/-- some gate that is not done has all its gates done -/
theorem WF.next (w : WF c) (p : Gate → Prop) (h : ∃ g ∈ c.gates, ¬ p g) : ∃ g ∈ c.gates, ¬ p g ∧ ∀ n ∈ g.nets, n ∈ src c ∨ ∃ g' ∈ c.gates, p g' ∧ g'.nm = n := by
  obtain ⟨gs, hp, ht⟩ := w.tp
  rcases first_not p gs with q | ⟨pre, g, post, e, a, b⟩
  · obtain ⟨g, hg, np⟩ := h
    exact absurd (q g (hp.mem_iff.mpr hg)) np
  · subst e
    refine ⟨g, hp.mem_iff.mp (List.mem_append_right _ (List.mem_cons_self ..)), b, fun n hn => ?_⟩
    rcases topo_split ht n hn with q | ⟨g', hg', en⟩
    · exact .inl q
    · exact .inr ⟨g', hp.mem_iff.mp (List.mem_append_left _ hg'), a g' hg', en⟩

/-! ### values -/
def gateVal (g : Gate) (v : Str → Bool) : Bool := (g.tab[idx (g.nets.map v)]?).getD false
structure Sol (c : Circ) (vec : List Bool) (v : Str → Bool) : Prop where
  s : ∀ (i : Nat) (n : Str), (src c)[i]? = some n → vec[i]? = some (v n)
  g : ∀ g ∈ c.gates, g.tab[idx (g.nets.map v)]? = some (v g.nm)
def put1 (v : Str → Bool) (n : Str) (b : Bool) : Str → Bool := fun m => if m = n then b else v m
def runG (v : Str → Bool) : List Gate → (Str → Bool)
  | [] => v
  | g :: gs => runG (put1 v g.nm (gateVal g v)) gs
theorem gateVal_congr {g : Gate} {v u : Str → Bool} (h : ∀ n ∈ g.nets, v n = u n) : gateVal g v = gateVal g u := by
  unfold gateVal
  rw [List.map_congr_left h]
theorem runG_old : ∀ {gs : List Gate} {v : Str → Bool} {n : Str}, (∀ g ∈ gs, g.nm ≠ n) → runG v gs n = v n
  | [], _, _, _ => rfl
  | g :: gs, v, n, h => by
    show runG (put1 v g.nm (gateVal g v)) gs n = v n
    rw [runG_old fun g' hg' => h g' (List.mem_cons_of_mem _ hg')]
    unfold put1
    rw [if_neg (Ne.symm (h g (List.mem_cons_self ..)))]
theorem runG_new : ∀ {gs : List Gate} {k : List Str} {v : Str → Bool}, Topo k gs → (gs.map (·.nm)).Nodup → (∀ n ∈ k, ∀ g ∈ gs, g.nm ≠ n) → ∀ g ∈ gs, runG v gs g.nm = gateVal g (runG v gs)
  | [], _, _, _, _, _, g, hg => nomatch hg
  | p :: gs, k, v, ht, hn, hk, g, hg => by
    rw [List.map_cons, List.nodup_cons] at hn
    have hp : ∀ g' ∈ gs, g'.nm ≠ p.nm := fun g' hg' e => hn.1 (List.mem_map.mpr ⟨g', hg', e⟩)
    rcases List.mem_cons.mp hg with e | hg
    · subst e
      show runG (put1 v g.nm (gateVal g v)) gs g.nm = gateVal g (runG (put1 v g.nm (gateVal g v)) gs)
      rw [runG_old hp]
      show (if g.nm = g.nm then gateVal g v else v g.nm) = _
      rw [if_pos rfl]
      refine gateVal_congr fun n hm => ?_
      have hnk := ht.1 n hm
      rw [runG_old fun g' hg' => hk n hnk g' (List.mem_cons_of_mem _ hg')]
      show v n = if n = g.nm then gateVal g v else v n
      rw [if_neg (Ne.symm (hk n hnk g (List.mem_cons_self ..)))]
    · refine runG_new (k := k ++ [p.nm]) ht.2 hn.2 (fun n hm g' hg' => ?_) g hg
      rcases List.mem_append.mp hm with q | q
      · exact hk n q g' (List.mem_cons_of_mem _ hg')
      · rw [List.mem_singleton.mp q]; exact hp g' hg'
def v0 (c : Circ) (vec : List Bool) (n : Str) : Bool := (vec[(src c).idxOf n]?).getD false
theorem WF.sol (w : WF c) {vec : List Bool} (hl : vec.length = (src c).length) : ∃ v, Sol c vec v := by
  obtain ⟨gs, hp, ht⟩ := w.tp
  refine ⟨runG (v0 c vec) gs, fun i n hi => ?_, fun g hg => ?_⟩
  · have hm : n ∈ src c := List.mem_of_getElem? hi
    rw [runG_old fun g hg => src_gate w.nd hm g (hp.mem_iff.mp hg)]
    unfold v0
    have hlt := (List.getElem?_eq_some_iff.mp hi).1
    have e : (src c).idxOf n = i := by
      have h1 : (src c)[(src c).idxOf n]? = some n := by
        rw [List.getElem?_eq_getElem (List.idxOf_lt_length_iff.mpr hm)]
        rw [List.getElem_idxOf]
      exact ((List.getElem?_inj hlt (nd_src w.nd)).mp (hi.trans h1.symm)).symm
    rw [e, List.getElem?_eq_getElem (by omega)]
    rfl
  · have hg' := hp.mem_iff.mpr hg
    have e := runG_new (v := v0 c vec) ht ((hp.map _).nodup_iff.mpr (nd_gates w.nd)) (fun n hn g hg => src_gate w.nd hn g (hp.mem_iff.mp hg)) g hg'
    rw [e]
    have ok := w.gate g hg
    have hlt : idx (g.nets.map (runG (v0 c vec) gs)) < g.tab.length := by
      have := idx_lt (g.nets.map (runG (v0 c vec) gs))
      rw [List.length_map] at this
      rw [ok.tab]; exact this
    unfold gateVal
    rw [List.getElem?_eq_getElem hlt]
    rfl
theorem Sol.uniq (w : WF c) {vec : List Bool} {v u : Str → Bool} (a : Sol c vec v) (b : Sol c vec u) : ∀ n ∈ nets c, v n = u n := by
  have hs : ∀ n ∈ src c, v n = u n := fun n hn => by
    obtain ⟨i, hi⟩ := List.mem_iff_getElem?.mp hn
    exact Option.some.inj ((a.s i n hi).symm.trans (b.s i n hi))
  have hg : ∀ g ∈ c.gates, v g.nm = u g.nm := fun g hg => by
    by_cases q : v g.nm = u g.nm
    · exact q
    · obtain ⟨g, hg, np, hn⟩ := w.next (fun g => v g.nm = u g.nm) ⟨g, hg, q⟩
      refine absurd ?_ np
      have e : g.nets.map v = g.nets.map u := List.map_congr_left fun n hm => by
        rcases hn n hm with q | ⟨g', _, h1, h2⟩
        · exact hs n q
        · rw [← h2]; exact h1
      have h1 := a.g g hg
      have h2 := b.g g hg
      rw [e, h2] at h1
      exact (Option.some.inj h1).symm
  intro n hn
  rcases List.mem_append.mp hn with q | q
  · exact hs n q
  · obtain ⟨g, hm, e⟩ := List.mem_map.mp q
    rw [← e]; exact hg g hm
end
end Sg
/-! DenN: dicts whose keys are nested tuples. -/
namespace Dn
open PySem PySem.Spec PyProof.Rows L2
abbrev NKV := NestedKey × Addr × V
abbrev NT : List NKV → List (NestedKey × Addr × Value) → Prop := Paired fun p q => p.1 = q.1 ∧ p.2.1 = q.2.1 ∧ RelV p.2.2 q.2.2
def lkN (kvs : List NKV) (k : NestedKey) : Option V := (kvs.find? fun p => decide (p.1 = k)).map (·.2.2)
def rpN (k : NestedKey) (v : V) (p : NKV) : NKV := if p.1 = k then (p.1, p.2.1, v) else p
def ptN (kvs : List NKV) (k : NestedKey) (b : Addr) (v : V) : List NKV := if (lkN kvs k).isSome = true then kvs.map (rpN k v) else kvs ++ [(k, b, v)]
def NDo (P : Program) (w : World) (a : Addr) (kvs : List NKV) : HO := .ext fun h => (a == sysModules) = false ∧ ∃ xs : List (NestedKey × Addr × Value), NT kvs xs ∧ xs.length ≤ sizeLine ∧
  ∃ o es ep, h.get? a = some o ∧ o.ExactDict ∧ o.data = .dict es ep ∧ es.toList = xs.map (entryOfKey (nestedKind P w)) ∧ (xs.map (·.1)).Nodup
mutual
/-- the value y is the key k, by the tuples that are tracked -/
inductive KeyV (H : Hp) : V → NestedKey → Prop
  | non : KeyV H .non .none
  | bl (b : Bool) : KeyV H (.bl b) (.num (if b = true then 1 else 0))
  | int (i : Int) : KeyV H (.int i) (.num i)
  | str (x : Str) : KeyV H (.str x) (.text x)
  | tup {a : Addr} {xs : List V} {ks : List NestedKey} : H a = some (.tup xs) → KeyVs H xs ks → KeyV H (.ref a) (.tup ks)
inductive KeyVs (H : Hp) : List V → List NestedKey → Prop
  | nil : KeyVs H [] []
  | cons {x : V} {xs : List V} {k : NestedKey} {ks : List NestedKey} : KeyV H x k → KeyVs H xs ks → KeyVs H (x :: xs) (k :: ks)
end
mutual
theorem KeyV.mono {H G : Hp} (h : ∀ a xs, H a = some (.tup xs) → G a = some (.tup xs)) : ∀ {x : V} {k : NestedKey}, KeyV H x k → KeyV G x k
  | _, _, .non => .non
  | _, _, .bl b => .bl b
  | _, _, .int b => .int b
  | _, _, .str b => .str b
  | _, _, .tup e r => .tup (h _ _ e) (KeyVs.mono h r)
theorem KeyVs.mono {H G : Hp} (h : ∀ a xs, H a = some (.tup xs) → G a = some (.tup xs)) : ∀ {x : List V} {k : List NestedKey}, KeyVs H x k → KeyVs G x k
  | _, _, .nil => .nil
  | _, _, .cons e r => .cons (KeyV.mono h e) (KeyVs.mono h r)
end
section
variable {P : Program} {w : World} {H : Hp} {h : Heap}
mutual
theorem KeyV.is (ok : HOk P w H h) : ∀ {x : V} {k : NestedKey} {u : Value}, KeyV H x k → RelV x u → NestedIs h k u
  | _, _, _, .non, r => by cases r; exact .none
  | _, _, _, .bl b, r => by cases r; exact .bool rfl
  | _, _, _, .int i, r => by obtain ⟨t, rfl⟩ := r; exact .int _ _
  | _, _, _, .str i, r => by obtain ⟨t, rfl⟩ := r; exact .text _ _
  | _, _, _, .tup (a := a) (xs := xs) e q, r => by
    cases r
    obtain ⟨_, its, rv, o, h1, h2, n, h3⟩ := (show ObjOk P w H h a (.tup xs) from ok a _ e)
    exact .tup h1 h2 h3 (by simpa using KeyVs.is ok q rv)
theorem KeyVs.is (ok : HOk P w H h) : ∀ {x : List V} {k : List NestedKey} {u : List Value}, KeyVs H x k → Vals x u → NestedAll h k u
  | _, _, _, .nil, r => by cases r; exact .nil
  | _, _, _, .cons e q, r => by
    cases r with
    | cons r1 r2 => exact .cons (KeyV.is ok e r1) (KeyVs.is ok q r2)
end
end
def KeysOk (H : Hp) (kvs : List NKV) : Prop := ∀ p ∈ kvs, KeyV H (.ref p.2.1) p.1 ∧ p.1.depth ≤ 8
section
variable {kvs : List NKV} {xs : List (NestedKey × Addr × Value)} {k : NestedKey}
theorem NT.val (r : NT kvs xs) (k : NestedKey) : RelO (lkN kvs k) ((atKey xs k).map (·.2)) := by
  induction r with
  | nil => exact True.intro
  | @cons p q ps qs h t ih =>
    obtain ⟨h1, _, h2⟩ := h
    unfold lkN atKey
    rw [List.find?_cons, List.find?_cons, ← h1]
    by_cases e : p.1 = k
    · rw [decide_eq_true e]; exact h2
    · rw [decide_eq_false e]; exact ih
theorem NT.repl (r : NT kvs xs) (k : NestedKey) {y : V} {u : Value} (ry : RelV y u) : NT (kvs.map (rpN k y)) (xs.map (putAt k u)) := by
  induction r with
  | nil => exact .nil
  | @cons p q ps qs h t ih =>
    rw [List.map_cons, List.map_cons]
    refine .cons ?_ ih
    obtain ⟨h1, h2, h3⟩ := h
    unfold putAt rpN
    by_cases e : p.1 = k
    · rw [if_pos e, if_pos (h1.symm.trans e)]; exact ⟨h1, h2, ry⟩
    · rw [if_neg e, if_neg (fun z => e (h1.trans z))]; exact ⟨h1, h2, h3⟩
theorem NT.put (r : NT kvs xs) (k : NestedKey) {b : Addr} {y : V} {u : Value} (ry : RelV y u) : NT (ptN kvs k b y) (storedH xs k b u) := by
  have e := (r.val k).isSome_eq
  rw [Option.isSome_map] at e
  unfold ptN storedH
  rw [e]
  by_cases q : (atKey xs k).isSome = true
  · rw [if_pos q, if_pos q]; exact r.repl k ry
  · rw [if_neg q, if_neg q]; exact Paired.snoc r ⟨rfl, rfl, ry⟩
theorem ptN_len (kvs : List NKV) (k : NestedKey) (b : Addr) (v : V) : (ptN kvs k b v).length ≤ kvs.length + 1 := by
  unfold ptN
  split
  · rw [List.length_map]; exact Nat.le_succ _
  · rw [List.length_append]; exact Nat.le_refl _
theorem lkN_pt {kvs : List NKV} {k j : NestedKey} {b : Addr} {v : V} : lkN (ptN kvs k b v) j = if k = j then some v else lkN kvs j := by
  unfold ptN
  by_cases h : (lkN kvs k).isSome = true
  · rw [if_pos h]
    by_cases e : k = j
    · subst e
      rw [if_pos rfl]
      unfold lkN at h ⊢
      rw [List.find?_map]
      have : (fun p : NKV => decide (p.1 = k)) ∘ rpN k v = fun p => decide (p.1 = k) := funext fun p => by
        show decide ((rpN k v p).1 = k) = decide (p.1 = k)
        unfold rpN
        by_cases q : p.1 = k
        · rw [if_pos q]
        · rw [if_neg q]
      rw [this]
      cases q : kvs.find? (fun p => decide (p.1 = k)) with
      | none => rw [q] at h; cases h
      | some p =>
        have hp : p.1 = k := of_decide_eq_true (List.find?_some (p := fun p : NKV => decide (p.1 = k)) q)
        show some (rpN k v p).2.2 = some v
        unfold rpN
        rw [if_pos hp]
    · rw [if_neg e]
      unfold lkN
      rw [List.find?_map]
      have : (fun p : NKV => decide (p.1 = j)) ∘ rpN k v = fun p => decide (p.1 = j) := funext fun p => by
        show decide ((rpN k v p).1 = j) = decide (p.1 = j)
        unfold rpN
        by_cases q : p.1 = k
        · rw [if_pos q]
        · rw [if_neg q]
      rw [this]
      cases q : kvs.find? (fun p => decide (p.1 = j)) with
      | none => rfl
      | some p =>
        have hp : p.1 = j := of_decide_eq_true (List.find?_some (p := fun p : NKV => decide (p.1 = j)) q)
        show some (rpN k v p).2.2 = some p.2.2
        unfold rpN
        rw [if_neg (fun z => e (z.symm.trans hp))]
  · rw [if_neg h]
    unfold lkN
    rw [List.find?_append]
    by_cases e : k = j
    · subst e
      rw [if_pos rfl]
      unfold lkN at h
      cases q : kvs.find? (fun p => decide (p.1 = k)) with
      | none => simp
      | some p => rw [q] at h; exact absurd rfl h
    · rw [if_neg e]
      cases q : kvs.find? (fun p => decide (p.1 = j)) with
      | none => simp [e]
      | some p => rfl
theorem ptN_mem {kvs : List NKV} {k : NestedKey} {b : Addr} {v : V} {p : NKV} (h : p ∈ ptN kvs k b v) : (∃ q ∈ kvs, p.1 = q.1 ∧ p.2.1 = q.2.1 ∧ (p.2.2 = q.2.2 ∨ (p.1 = k ∧ p.2.2 = v))) ∨ p = (k, b, v) := by
  unfold ptN at h
  split at h
  · obtain ⟨q, hq, e⟩ := List.mem_map.mp h
    refine .inl ⟨q, hq, ?_⟩
    unfold rpN at e
    by_cases z : q.1 = k
    · rw [if_pos z] at e; subst e; exact ⟨rfl, rfl, .inr ⟨z, rfl⟩⟩
    · rw [if_neg z] at e; subst e; exact ⟨rfl, rfl, .inl rfl⟩
  · rcases List.mem_append.mp h with q | q
    · exact .inl ⟨p, q, rfl, rfl, .inl rfl⟩
    · exact .inr (List.mem_singleton.mp q)
theorem lkN_mem {kvs : List NKV} {k : NestedKey} {v : V} (h : lkN kvs k = some v) : ∃ p ∈ kvs, p.1 = k ∧ p.2.2 = v := by
  unfold lkN at h
  obtain ⟨p, hp, e⟩ := Option.map_eq_some_iff.mp h
  exact ⟨p, List.mem_of_find?_eq_some hp, of_decide_eq_true (List.find?_some (p := fun p : NKV => decide (p.1 = k)) hp), e⟩
end
section
variable {X : Cx} {pins : List (Addr × Obj)} {σ : L2.St} {H : Hp} {s : Shared} {a b : Addr} {kvs : List NKV} {k : NestedKey} {v : V}
theorem nd_of (I : Inv X pins σ H s) (e : H a = some (NDo X.prog X.w a kvs)) (ks : KeysOk H kvs) : (a == sysModules) = false ∧ ∃ xs, NT kvs xs ∧ xs.length ≤ sizeLine ∧ s.heap.DictOfH (nestedKind X.prog X.w) a xs := by
  obtain ⟨⟨y, xs, r, z, o, es, ep, h1, h2, h3, h4, h5⟩, _⟩ := (show ObjOk X.prog X.w H s.heap a (NDo X.prog X.w a kvs) from I.hok a _ e)
  refine ⟨y, xs, r, z, o, es, ep, h1, h2, h3, h4, fun x hx => ?_, h5⟩
  have all : ∀ {l : List NKV} {m : List (NestedKey × Addr × Value)}, NT l m → (∀ p ∈ l, KeyV H (.ref p.2.1) p.1 ∧ p.1.depth ≤ 8) → ∀ x ∈ m, (nestedKind X.prog X.w).is s.heap x.1 x.2.1 := by
    intro l m q
    induction q with
    | nil => intro _ x hx; exact nomatch hx
    | @cons p q ps qs hq t ih =>
      intro hk x hx
      rcases List.mem_cons.mp hx with e | hx
      · subst e
        obtain ⟨k1, k2⟩ := hk p (List.mem_cons_self ..)
        refine ⟨?_, by rw [← hq.1]; exact k2⟩
        rw [← hq.1, ← hq.2.1]
        exact k1.is I.hok rfl
      · exact ih (fun p hp => hk p (List.mem_cons_of_mem _ hp)) x hx
  exact all r ks x hx
theorem nd_empty {P : Program} {w : World} {H : Hp} (h : Heap) (hb : sysModules < h.objs.size) : ObjOk P w H (h.push { cls := .type "dict", data := .dict #[] }) h.objs.size (NDo P w h.objs.size []) :=
  ⟨⟨beq_eq_false_iff_ne.mpr (Ne.symm (Nat.ne_of_lt hb)), [], .nil, Nat.zero_le _, _, #[], 0, Heap.get?_push_size _ rfl, ⟨rfl, rfl, rfl⟩, rfl, rfl, List.nodup_nil⟩, ⟨_, Heap.get?_push_size _ rfl⟩,
    fun h1 h2 ⟨y, xs, r, z, o, es, ep, g, q⟩ k => ⟨y, xs, r, z, o, es, ep, k _ g, q⟩⟩
end
def tNew (P : Program) (w : World) : TE := fun _ H Q => ∀ p, H p = none → Q (.ref p) (upd H p (NDo P w p []))
def tNGet (P : Program) (w : World) (td tk : TE) : TE := fun σ H Q => td σ H fun x H1 => tk σ H1 fun y H2 => ∃ a b kvs k v, x = .ref a ∧ y = .ref b ∧ H2 a = some (NDo P w a kvs) ∧ KeysOk H2 kvs ∧ KeyV H2 (.ref b) k ∧ k.depth ≤ 8 ∧ lkN kvs k = some v ∧ Q v H2
def tNNotIn (P : Program) (w : World) (tk td : TE) : TE := fun σ H Q => tk σ H fun y H1 => td σ H1 fun x H2 => ∃ a b kvs k, x = .ref a ∧ y = .ref b ∧ H2 a = some (NDo P w a kvs) ∧ KeysOk H2 kvs ∧ KeyV H2 (.ref b) k ∧ k.depth ≤ 8 ∧ Q (.bl (!(lkN kvs k).isSome)) H2
def sNPut (P : Program) (w : World) (td tk tv : TE) : TS := fun Z σ H => tv σ H fun v H1 => td σ H1 fun x H2 => tk σ H2 fun y H3 => ∃ a b kvs k, x = .ref a ∧ y = .ref b ∧ H3 a = some (NDo P w a kvs) ∧ KeysOk H3 kvs ∧ KeyV H3 (.ref b) k ∧ k.depth ≤ 8 ∧ kvs.length < 16000000 ∧ Z.nx σ (upd H3 a (NDo P w a (ptN kvs k b v)))
section
variable {X : Cx} {P : Program} {w : World} {o i value : Expr} {pos pos' : Pos} {td tk tv : TE}
theorem pe_nnew (eP : X.prog = P := by rfl) (ew : X.w = w := by rfl) : PE X (.Dict [] [] pos) (tNew P w) := by
  subst eP ew
  exact ⟨fun pins s σ H Q I h => wpAny_Dict_empty ⟨.ref s.heap.objs.size, _, I.laid (a := s.heap.objs.size) (o := NDo X.prog X.w s.heap.objs.size []) (t' := s.toks) (fun _ _ q => Heap.get?_push_of_some _ q) (Nat.le_refl _) (nd_empty s.heap I.big), rfl, h _ (I.hok.fresh (Nat.le_refl _))⟩⟩
theorem n_room {A : Around} (hu : A.units + 64 < cLine) : (nestedKind P w).room A.in1 := by
  show A.in1.units + 8 < cLine
  rw [Around.in1_units]
  omega
theorem pe_nget (hu : X.A.units + 64 < cLine) (ho : PE X o td) (hi : PE X i tk) (hs : NoSl i) (eP : X.prog = P := by rfl) (ew : X.w = w := by rfl) : PE X (.Subscript o i pos) (tNGet P w td tk) := by
  subst eP ew
  refine ⟨fun pins s σ H Q I h => ?_⟩
  refine subD_of PySem.F.slot_dict_getitem.lookup hs (thn (ho.run pins s σ H _ I h) fun u s1 ⟨x, H1, I1, rx, q1⟩ => thn (hi.run pins s1 σ H1 _ I1 q1) fun iv s2 ⟨y, H2, I2, ry, a, b, kvs, k, v, ex, ey, e, ks, kb, kd, l, q2⟩ => ?_)
  subst ex ey
  obtain rfl : u = Value.ref a := rx
  obtain rfl : iv = Value.ref b := ry
  obtain ⟨hd, xs, rel, z, dd⟩ := nd_of I2 e ks
  refine ⟨dd.typeIs, ?_⟩
  obtain ⟨w', hw, rw'⟩ := RelO.some_of (v := v) (o := (atKey xs k).map (·.2)) (by rw [← l]; exact rel.val k)
  obtain ⟨p, hp, hp2⟩ := Option.map_eq_some_iff.mp hw
  refine wpAny_getItem_heap (n_room hu) ⟨kb.is I2.hok rfl, kd⟩ dd hp ?_
  rw [hp2]
  exact ⟨v, H2, I2.tok _, rw', q2⟩
theorem pc_nnotin (hu : X.A.units + 64 < cLine) (hi : PE X i tk) (ho : PE X o td) (eP : X.prog = P := by rfl) (ew : X.w = w := by rfl) : PC X .NotIn i o (tNNotIn P w tk td) := by
  subst eP ew
  refine ⟨fun pins s σ H Q I h => ?_⟩
  refine thn (hi.run pins s σ H _ I h) fun iv s1 ⟨y, H1, I1, ry, q1⟩ => thn (ho.run pins s1 σ H1 _ I1 q1) fun u s2 ⟨x, H2, I2, rx, a, b, kvs, k, ex, ey, e, ks, kb, kd, q2⟩ => ?_
  subst ex ey
  obtain rfl : u = Value.ref a := rx
  obtain rfl : iv = Value.ref b := ry
  obtain ⟨hd, xs, rel, z, dd⟩ := nd_of I2 e ks
  refine wpAny_notIn_heap (n_room hu) ⟨kb.is I2.hok rfl, kd⟩ hd dd ?_
  have q := (rel.val k).isSome_eq
  rw [Option.isSome_map] at q
  rw [← q]
  exact ⟨.bl (!(lkN kvs k).isSome), H2, I2.tok _, rfl, q2⟩
theorem ps_nput (hu : X.A.units + 64 < cLine) (ho : PE X o td) (hi : PE X i tk) (hv : PE X value tv) (hs : swapsWith value (some (.Subscript o i pos')) pos.line X.env = pure false := by rfl) (eP : X.prog = P := by rfl) (ew : X.w = w := by rfl) :
    PS X (.Assign [.Subscript o i pos'] value pos) (sNPut P w td tk tv) := by
  subst eP ew
  refine ⟨fun pins s σ H D I h => ?_⟩
  refine wpAny_Assign_Subscript (thn (hv.run pins s σ H _ I h) fun r s1 ⟨v, H1, I1, rv, q1⟩ => thn (ho.run pins s1 σ H1 _ I1 q1) fun u s2 ⟨x, H2, I2, rx, q2⟩ => thn (hi.run pins s2 σ H2 _ I2 q2) fun iv s3 ⟨y, H3, I3, ry, a, b, kvs, k, ex, ey, e, ks, kb, kd, hl, q3⟩ => ?_) hs
  subst ex ey
  obtain rfl : u = Value.ref a := rx
  obtain rfl : iv = Value.ref b := ry
  obtain ⟨hd, xs, rel, z, dd⟩ := nd_of I3 e ks
  refine wpAny_setItem_heap (hsz := z) (n_room hu) ⟨kb.is I3.hok rfl, kd⟩ dd fun h' dd' hsb => ?_
  obtain ⟨q, es, ep, hq, h2, h3, h4, _, h5⟩ := dd'
  have r2 : NT (ptN kvs k b v) (storedH xs k b r) := rel.put k rv
  have hz : (storedH xs k b r).length ≤ sizeLine := by
    rw [← Paired.length r2]
    have := ptN_len kvs k b v
    have e : sizeLine = 16777216 := sizeLine_eq
    omega
  refine ⟨σ, _, d_write (ob := NDo X.prog X.w a (ptN kvs k b v)) I3 (by rw [e]; exact True.intro) hsb ⟨q, hq⟩ ⟨⟨hd, _, r2, hz, q, es, ep, hq, h2, h3, h4, h5⟩, ⟨q, hq⟩, fun h1 h2 ⟨y, xs, r, z, o, es, ep, g, q⟩ k => ⟨y, xs, r, z, o, es, ep, k _ g, q⟩⟩, q3⟩
end
end Dn
/-! Mth2: paths, windows, ranks; keys of the memos. -/
namespace Sg
open PySem Dn L2
/-- from the source s to a net: a the sum of the least delays, b of the greatest -/
inductive Pth (c : Circ) (s : Str) : Str → Int → Int → Prop
  | nil : Pth c s s 0 0
  | snoc {n : Str} {a b lo hi : Int} {g : Gate} {i : Nat} : Pth c s n a b → g ∈ c.gates → g.nets[i]? = some n → g.rng[i]? = some (lo, hi) → Pth c s g.nm (a + lo) (b + hi)
/-- at the time t every source's value has come to the net and none has left it -/
def InWin (c : Circ) (ws : List (Int × Int)) (net : Str) (t : Int) : Prop := ∀ (i : Nat) (n : Str) (w : Int × Int), (src c)[i]? = some n → ws[i]? = some w → ∀ a b, Pth c n net a b → w.1 + b ≤ t ∧ t < w.2 + a
section
variable {c : Circ} {ws : List (Int × Int)} {t : Int}
theorem InWin.pin {g : Gate} (h : InWin c ws g.nm t) (hg : g ∈ c.gates) {i : Nat} {n : Str} {lo hi : Int} (hn : g.nets[i]? = some n) (hr : g.rng[i]? = some (lo, hi)) {m : Int} (h1 : t - hi ≤ m) (h2 : m ≤ t - lo) : InWin c ws n m := fun j s w hs hw a b p => by
  have := h j s w hs hw _ _ (p.snoc hg hn hr)
  omega
theorem InWin.src {i : Nat} {n : Str} {w : Int × Int} (h : InWin c ws n t) (hs : (src c)[i]? = some n) (hw : ws[i]? = some w) : w.1 ≤ t ∧ t < w.2 := by
  have := h i n w hs hw 0 0 .nil
  omega
structure RkOk (c : Circ) (rk : Str → Nat) : Prop where
  lt : ∀ g ∈ c.gates, ∀ n ∈ g.nets, rk n < rk g.nm
  le : ∀ n, rk n ≤ 5
theorem idx_of {l : List Str} (hn : l.Nodup) {i : Nat} {x : Str} (h : l[i]? = some x) : l.idxOf x = i := by
  have hm : x ∈ l := List.mem_of_getElem? h
  have h1 : l[l.idxOf x]? = some x := by
    rw [List.getElem?_eq_getElem (List.idxOf_lt_length_iff.mpr hm), List.getElem_idxOf]
  exact ((List.getElem?_inj (List.getElem?_eq_some_iff.mp h).1 hn).mp (h.trans h1.symm)).symm
theorem WF.rank (w : WF c) : ∃ rk, RkOk c rk := by
  obtain ⟨gs, hp, ht⟩ := w.tp
  have hn : (gs.map (·.nm)).Nodup := (hp.map _).nodup_iff.mpr (nd_gates w.nd)
  have hl : gs.length ≤ 5 := by rw [hp.length_eq]; exact w.g
  refine ⟨fun n => if n ∈ gs.map (·.nm) then (gs.map (·.nm)).idxOf n + 1 else 0, fun g hg n hm => ?_, fun n => ?_⟩
  · obtain ⟨pre, post, e⟩ := List.append_of_mem (hp.mem_iff.mpr hg)
    have hgi : (gs.map (·.nm))[pre.length]? = some g.nm := by
      rw [e, List.map_append, List.getElem?_append_right (by rw [List.length_map]; exact Nat.le_refl _), List.length_map, Nat.sub_self]; rfl
    have e1 := idx_of hn hgi
    show (if n ∈ gs.map (·.nm) then (gs.map (·.nm)).idxOf n + 1 else 0) < (if g.nm ∈ gs.map (·.nm) then (gs.map (·.nm)).idxOf g.nm + 1 else 0)
    rw [if_pos (List.mem_of_getElem? hgi), e1]
    rw [e] at ht
    rcases topo_split ht n hm with q | ⟨g', hg', e'⟩
    · rw [if_neg]
      · exact Nat.succ_pos _
      · intro z
        obtain ⟨g2, a, b⟩ := List.mem_map.mp z
        exact src_gate w.nd q g2 (hp.mem_iff.mp a) b
    · obtain ⟨j, hj⟩ := List.mem_iff_getElem?.mp hg'
      have hjl := (List.getElem?_eq_some_iff.mp hj).1
      have hni : (gs.map (·.nm))[j]? = some n := by
        rw [e, List.map_append, List.getElem?_append_left (by rw [List.length_map]; exact hjl), List.getElem?_map, hj, ← e']; rfl
      rw [if_pos (List.mem_of_getElem? hni), idx_of hn hni]
      omega
  · show (if n ∈ gs.map (·.nm) then (gs.map (·.nm)).idxOf n + 1 else 0) ≤ 5
    split
    · rename_i h
      have := List.idxOf_lt_length_iff.mpr h
      rw [List.length_map] at this
      omega
    · exact Nat.zero_le _
end
/-! ### keys -/
def k3D (n : Str) (t : Int) (vec : List Bool) : D := .tup [.str n, .int t, .tup (vec.map .bl)]
def kvN (vec : List Bool) : NestedKey := .tup (vec.map fun b => .num (if b = true then 1 else 0))
def k3N (n : Str) (t : Int) (vec : List Bool) : NestedKey := .tup [.text n, .num t, kvN vec]
def k2N (n : Str) (t : Int) : NestedKey := .tup [.text n, .num t]
theorem bits_keys {F : Hp} : ∀ {xs : List V} {vec : List Bool}, Reps F xs (vec.map .bl) → KeyVs F xs (vec.map fun b => .num (if b = true then 1 else 0))
  | _, [], .nil => .nil
  | _, b :: r, .cons (.bl _) h => .cons (.bl b) (bits_keys h)
theorem vec_key {F : Hp} {v : V} {vec : List Bool} (r : Rep F v (.tup (vec.map .bl))) : KeyV F v (kvN vec) := by
  cases r with
  | tup e r => exact .tup e (bits_keys r)
theorem k3_key {F : Hp} {v : V} {n : Str} {t : Int} {vec : List Bool} (r : Rep F v (k3D n t vec)) : KeyV F v (k3N n t vec) := by
  cases r with
  | tup e r =>
    cases r with
    | cons r1 r =>
      cases r with
      | cons r2 r =>
        cases r with
        | cons r3 r =>
          cases r
          cases r1
          cases r2
          exact .tup e (.cons (.str _) (.cons (.int _) (.cons (vec_key r3) .nil)))
theorem k2_key {F : Hp} {v : V} {n : Str} {t : Int} (r : Rep F v (.tup [.str n, .int t])) : KeyV F v (k2N n t) := by
  cases r with
  | tup e r =>
    cases r with
    | cons r1 r =>
      cases r with
      | cons r2 r =>
        cases r
        cases r1
        cases r2
        exact .tup e (.cons (.str _) (.cons (.int _) .nil))
theorem kv_depth : ∀ vec : List Bool, NestedKey.depthAll (vec.map fun b => NestedKey.num (if b = true then 1 else 0)) = 0
  | [] => by simp [NestedKey.depthAll]
  | b :: r => by rw [List.map_cons, NestedKey.depthAll, kv_depth r]; simp [NestedKey.depth]
theorem kvN_depth (vec : List Bool) : (kvN vec).depth ≤ 8 := by
  unfold kvN
  rw [NestedKey.depth, kv_depth]; decide
theorem k3N_depth (n : Str) (t : Int) (vec : List Bool) : (k3N n t vec).depth ≤ 8 := by
  unfold k3N kvN
  simp only [NestedKey.depth, NestedKey.depthAll]
  rw [kv_depth]; decide
theorem k2N_depth (n : Str) (t : Int) : (k2N n t).depth ≤ 8 := by
  unfold k2N
  simp only [NestedKey.depth, NestedKey.depthAll]
  decide
theorem kvN_inj {a b : List Bool} (h : kvN a = kvN b) : a = b := by
  unfold kvN at h
  injection h with h
  exact List.map_inj_right (fun x y e => by
    injection e with e
    revert e
    cases x <;> cases y <;> simp) |>.mp h
theorem k3N_inj {n n' : Str} {t t' : Int} {a b : List Bool} (h : k3N n t a = k3N n' t' b) : n = n' ∧ t = t' ∧ a = b := by
  unfold k3N at h
  injection h with h
  injection h with h1 h
  injection h with h2 h
  injection h with h3 h
  injection h1 with h1
  injection h2 with h2
  exact ⟨h1, h2, kvN_inj h3⟩
theorem k2N_inj {n n' : Str} {t t' : Int} (h : k2N n t = k2N n' t') : n = n' ∧ t = t' := by
  unfold k2N at h
  injection h with h
  injection h with h1 h
  injection h with h2 h
  injection h1 with h1
  injection h2 with h2
  exact ⟨h1, h2⟩
theorem len_flat {α β : Type} {f : α → List β} {k : Nat} : ∀ {l : List α}, (∀ x ∈ l, (f x).length = k) → (l.flatMap f).length = l.length * k
  | [], _ => by simp
  | x :: l, h => by
    rw [List.flatMap_cons, List.length_append, h x (List.mem_cons_self ..), len_flat fun y hy => h y (List.mem_cons_of_mem _ hy), List.length_cons, Nat.succ_mul, Nat.add_comm]
theorem bits_all {m : Nat} {vec : List Bool} (h : vec.length = m) : bits (idx vec) m = vec := by
  refine List.ext_getElem? fun k => ?_
  unfold bits
  rw [List.getElem?_map]
  by_cases q : k < m
  · rw [List.getElem?_range q, List.getElem?_eq_getElem (by omega)]
    exact congrArg some (idx_bit vec k _ (List.getElem?_eq_getElem (by omega)))
  · rw [List.getElem?_eq_none (by rw [List.length_range]; omega), List.getElem?_eq_none (by omega)]; rfl
/-- keys of nets, times in a span, vectors of m -/
theorem k3_count {ns : List Str} {lo : Int} {W m : Nat} {ks : List NestedKey} (hn : ks.Nodup) (h : ∀ k ∈ ks, ∃ n t vec, k = k3N n t vec ∧ n ∈ ns ∧ lo ≤ t ∧ t < lo + W ∧ vec.length = m) : ks.length ≤ ns.length * (W * 2 ^ m) := by
  have e : (ns.flatMap fun n => (List.range W).flatMap fun (i : Nat) => (List.range (2 ^ m)).map fun j => k3N n (lo + (i : Int)) (bits j m)).length = ns.length * (W * 2 ^ m) := by
    refine len_flat fun n _ => ?_
    have := len_flat (f := fun (i : Nat) => (List.range (2 ^ m)).map fun j => k3N n (lo + (i : Int)) (bits j m)) (k := 2 ^ m) (l := List.range W) fun i _ => by rw [List.length_map, List.length_range]
    rw [this, List.length_range]
  rw [← e]
  refine List.Nodup.length_le_of_subset hn fun k hk => ?_
  obtain ⟨n, t, vec, rfl, h1, h2, h3, h4⟩ := h k hk
  refine List.mem_flatMap.mpr ⟨n, h1, List.mem_flatMap.mpr ⟨(t - lo).toNat, List.mem_range.mpr (by omega), List.mem_map.mpr ⟨idx vec, List.mem_range.mpr (by have := idx_lt vec; rw [h4] at this; exact this), ?_⟩⟩⟩
  rw [bits_all h4, show lo + ((t - lo).toNat : Int) = t by omega]
theorem k2_count {ns : List Str} {lo : Int} {W : Nat} {ks : List NestedKey} (hn : ks.Nodup) (h : ∀ k ∈ ks, ∃ n t, k = k2N n t ∧ n ∈ ns ∧ lo ≤ t ∧ t < lo + W) : ks.length ≤ ns.length * W := by
  have e : (ns.flatMap fun n => (List.range W).map fun (i : Nat) => k2N n (lo + (i : Int))).length = ns.length * W := len_flat fun n _ => by rw [List.length_map, List.length_range]
  rw [← e]
  refine List.Nodup.length_le_of_subset hn fun k hk => ?_
  obtain ⟨n, t, rfl, h1, h2, h3⟩ := h k hk
  refine List.mem_flatMap.mpr ⟨n, h1, List.mem_map.mpr ⟨(t - lo).toNat, List.mem_range.mpr (by omega), ?_⟩⟩
  rw [show lo + ((t - lo).toNat : Int) = t by omega]
theorem kv_count {m : Nat} {ks : List NestedKey} (hn : ks.Nodup) (h : ∀ k ∈ ks, ∃ vec : List Bool, k = kvN vec ∧ vec.length = m) : ks.length ≤ 2 ^ m := by
  have e : ((List.range (2 ^ m)).map fun j => kvN (bits j m)).length = 2 ^ m := by rw [List.length_map, List.length_range]
  rw [← e]
  refine List.Nodup.length_le_of_subset hn fun k hk => ?_
  obtain ⟨vec, rfl, h1⟩ := h k hk
  exact List.mem_map.mpr ⟨idx vec, List.mem_range.mpr (by have := idx_lt vec; rw [h1] at this; exact this), by rw [bits_all h1]⟩
theorem ptN_nodup {kvs : List NKV} {k : NestedKey} {b : Addr} {v : V} (h : (kvs.map (·.1)).Nodup) : ((ptN kvs k b v).map (·.1)).Nodup := by
  unfold ptN
  split
  · rw [List.map_map]
    have : (fun p : NKV => p.1) ∘ rpN k v = fun p => p.1 := funext fun p => by
      show (rpN k v p).1 = p.1
      unfold rpN
      split <;> rfl
    rw [this]; exact h
  · rename_i hk
    rw [List.map_append, List.nodup_append]
    refine ⟨h, List.pairwise_singleton .., fun a ha c hc e => ?_⟩
    have hc : c = k := List.mem_singleton.mp hc
    subst hc
    subst e
    obtain ⟨p, hp, e⟩ := List.mem_map.mp ha
    refine hk ?_
    unfold lkN
    rw [Option.isSome_map]
    exact List.find?_isSome.mpr ⟨p, hp, decide_eq_true e⟩
end Sg
/-! DenM: memos (dicts of nested keys that several calls change), told by abstract slots. -/
namespace Dn
open PySem PySem.Spec PyProof.Rows L2
section
variable {W : Wd} {Γ : List Sl} {F H F1 H1 : Hp} {p : Addr} {o : HO}
theorem Gr.putM (s : Sok W F H) (hm : W.M p) (hj : W.J F (upd H p o)) : Gr W F H F (upd H p o) := by
  refine ⟨⟨fun a u e => ?_, s.mf, fun a m => ?_, hj⟩, Le.refl _, fun a u e => .inl e, fun a u e n => ?_⟩
  · rw [upd_ne (fun q => by rw [q, s.mf p hm] at e; cases e)]; exact s.le a u e
  · by_cases q : a = p
    · subst q; rw [upd_same]; exact fun z => nomatch z
    · rw [upd_ne q]; exact s.mh a m
  · rw [upd_ne (fun q => n (by rw [q]; exact hm))]; exact e
/-- te comes to the data d, the heap is as it was -/
def EvP (W : Wd) (te : TE) (Γ : List Sl) (d : D) : Prop := ∀ σ F H, Ok W Γ σ F H → ∀ Q : VK, (∀ v, Rep F v d → Q v H) → te σ H Q
theorem evp_var {i : Nat} {d : D} (h : Γ[i]? = some (.dat d)) : EvP W (tVar i) Γ d := fun σ F H k Q q => by
  obtain ⟨v, e, r⟩ := k.sl i _ h
  exact ⟨v, e, q v r⟩
theorem evp_fld {K : PySem.W.Frag} {te : TE} {C : Addr} {f : Str} {fs : List (Str × D)} {d : D} (c : Cls K C) (na : NoAttr K C f) (h : EvP W te Γ (.ins C fs)) (hd : fs.lookup f = some d) : EvP W (tFld K te f) Γ d := fun σ F H k Q q =>
  h σ F H k _ fun v z => by
    cases z with
    | ins e r =>
      obtain ⟨v, hv, rv⟩ := r.look hd
      exact ⟨_, _, _, _, v, rfl, k.ok.le _ _ e, c, na, hv, q v rv⟩
theorem EvP.ev {te : TE} {d : D} (h : EvP W te Γ d) : EvE W te Γ (.dat d) := fun σ F H k Q q => h σ F H k Q fun v r => q v F H (.refl k.ok) r
/-- the data kd is the key k -/
structure IsKey (kd : D) (k : NestedKey) : Prop where
  key : ∀ F v, Rep F v kd → ∃ b, v = .ref b ∧ KeyV F (.ref b) k
  dep : k.depth ≤ 8
/-- the memo at a holds something of R at the key k -/
def Has (P : Program) (w : World) (a : Addr) (k : NestedKey) (R : D → Prop) (F H : Hp) : Prop := ∃ kvs v d, H a = some (NDo P w a kvs) ∧ KeysOk F kvs ∧ lkN kvs k = some v ∧ Rep F v d ∧ R d
theorem KeyV.le {x : V} {k : NestedKey} (h : KeyV F x k) (l : Le F F1) : KeyV F1 x k := h.mono fun a xs e => l a _ e
theorem KeysOk.le {kvs : List NKV} (h : KeysOk F kvs) (l : Le F F1) : KeysOk F1 kvs := fun p hp => ⟨(h p hp).1.le l, (h p hp).2⟩
def EcH (W : Wd) (t : TS) (Γ : List Sl) (N : List Sl → Hp → Hp → Prop) : Prop := ∀ σ F H, Ok W Γ σ F H → ∀ Z : Ends, (∀ Γ' σ' F' H', Ok W Γ' σ' F' H' → Le F F' → N Γ' F' H' → Z.nx σ' H') → t Z σ H
theorem ech_seq {t u : TS} {M : List Sl → Prop} {N : List Sl → Hp → Hp → Prop} (h : Ec W t Γ { nx := M, rt := fun _ => False }) (k : ∀ Γ', M Γ' → EcH W u Γ' N) : EcH W (tSeq t u) Γ N := fun σ F H ko Z n =>
  h σ F H ko _ (fun Γ' σ' F' H' k' l m => k Γ' m σ' F' H' k' Z fun _ _ _ _ a l' => n _ _ _ _ a (l.trans l')) (fun _ _ _ _ _ _ z => z.elim) (fun _ _ _ _ _ _ z => z.elim) fun _ _ _ _ _ _ z => z.elim
section
variable {P : Program} {w : World} {a : Addr} {k : NestedKey} {kd : D} {R : D → Prop} {td tk tv te : TE}
theorem ech_put (hd : EvP W td Γ (.adr a)) (hk : EvP W tk Γ kd) (ik : IsKey kd k) (hv : Ev W tv Γ fun s => ∃ d, s = .dat d ∧ R d) (hm : W.M a)
    (J0 : ∀ F H, Sok W F H → ∃ kvs, H a = some (NDo P w a kvs) ∧ KeysOk F kvs ∧ kvs.length < 16000000 ∧ ∀ b v d, Rep F (.ref b) kd → Rep F v d → R d → W.J F (upd H a (NDo P w a (ptN kvs k b v)))) :
    EcH W (sNPut P w td tk tv) Γ fun Γ' F H => Γ' = Γ ∧ Has P w a k R F H := fun σ F H ko Z n =>
  hv σ F H ko _ fun v F1 H1 s g1 ⟨d, es, hr⟩ z => by
    subst es
    have k1 := ko.gr g1
    refine hd σ F1 H1 k1 _ fun x rx => ?_
    cases rx
    refine hk σ F1 H1 k1 _ fun y ry => ?_
    obtain ⟨b, rfl, kb⟩ := ik.key F1 y ry
    obtain ⟨kvs, e, ks, hl, hput⟩ := J0 F1 H1 k1.ok
    have up : ∀ {c : Addr} {xs : List V}, F1 c = some (.tup xs) → H1 c = some (.tup xs) := fun h => k1.ok.le _ _ h
    have ks' : KeysOk H1 kvs := ks.le k1.ok.le
    have kb' : KeyV H1 (.ref b) k := kb.le k1.ok.le
    refine ⟨a, b, kvs, k, rfl, rfl, e, ks', kb', ik.dep, hl, ?_⟩
    have gp : Gr W F1 H1 F1 (upd H1 a (NDo P w a (ptN kvs k b v))) := Gr.putM k1.ok hm (hput b v d ry z hr)
    refine n Γ σ F1 _ (k1.gr gp) g1.ff ⟨rfl, ptN kvs k b v, v, d, upd_same, fun p hp => ?_, by rw [lkN_pt, if_pos rfl], z, hr⟩
    rcases ptN_mem hp with ⟨q, hq, e1, e2, _⟩ | e1
    · have := ks q hq
      rw [e1, e2]; exact this
    · subst e1; exact ⟨kb, ik.dep⟩
theorem ec_memo {tb u : TS} {G : List Sl → Prop} {Pst : Po} (hd : EvP W td Γ (.adr a)) (hk : EvP W tk Γ kd) (ik : IsKey kd k)
    (J0 : ∀ F H, Sok W F H → ∃ kvs, H a = some (NDo P w a kvs) ∧ KeysOk F kvs ∧ ∀ v, lkN kvs k = some v → ∃ d, Rep F v d ∧ R d)
    (hb : EcH W tb Γ fun Γ' F H => G Γ' ∧ Has P w a k R F H) (hG : G Γ)
    (hu : ∀ Γ', G Γ' → ∀ σ F H, Ok W Γ' σ F H → Has P w a k R F H → ∀ Z : Ends, (∀ v F' H' s, Gr W W.F0 W.H0 F' H' → (∀ o, s ≠ .bor o) → Pst.rt s → SlV W W.H0 F' H' v s → Z.rt v H') → u Z σ H) :
    Ec W (tSeq (tIfS (tB (tNNotIn P w tk td)) tb tNext) u) Γ Pst := fun σ F H ko Z n r br c => by
  refine hk σ F H ko _ fun y ry => ?_
  refine hd σ F H ko _ fun x rx => ?_
  cases rx
  obtain ⟨b, rfl, kb⟩ := ik.key F y ry
  obtain ⟨kvs, e, ks, hv⟩ := J0 F H ko.ok
  refine ⟨a, b, kvs, k, rfl, rfl, e, ks.le ko.ok.le, kb.le ko.ok.le, ik.dep, !(lkN kvs k).isSome, rfl, ?_⟩
  cases q : lkN kvs k with
  | none =>
    rw [if_pos (show (!(none : Option V).isSome) = true from rfl)]
    exact hb σ F H ko _ fun Γ' σ' F' H' k' l ⟨g, h⟩ => hu Γ' g σ' F' H' k' h Z r
  | some v =>
    rw [if_neg (show ¬ (!(some v : Option V).isSome) = true from fun z => nomatch z)]
    obtain ⟨d, rv, hr⟩ := hv v q
    exact hu Γ hG σ F H ko ⟨kvs, v, d, e, ks, q, rv, hr⟩ Z r
/-- return memo[key] -/
theorem ret_get {Pst : Po} (hd : EvP W td Γ (.adr a)) (hk : EvP W tk Γ kd) (ik : IsKey kd k) (hr : ∀ d, R d → Pst.rt (.dat d)) : ∀ σ F H, Ok W Γ σ F H → Has P w a k R F H → ∀ Z : Ends, (∀ v F' H' s, Gr W W.F0 W.H0 F' H' → (∀ o, s ≠ .bor o) → Pst.rt s → SlV W W.H0 F' H' v s → Z.rt v H') → tRet (tNGet P w td tk) Z σ H := fun σ F H ko ⟨kvs, v, d, e, ks, l, rv, hR⟩ Z r => by
  refine hd σ F H ko _ fun x rx => ?_
  cases rx
  refine hk σ F H ko _ fun y ry => ?_
  obtain ⟨b, rfl, kb⟩ := ik.key F y ry
  exact ⟨a, b, kvs, k, v, rfl, rfl, e, ks.le ko.ok.le, kb.le ko.ok.le, ik.dep, l, r v F H (.dat d) ko.g (fun _ h => nomatch h) (hr d hR) rv⟩
/-- return memo[key][name], the memo's value a dict -/
theorem ret_getD {Pst : Po} {ty : TE} {ky : Key} (hd : EvP W td Γ (.adr a)) (hk : EvP W tk Γ kd) (ik : IsKey kd k) (hy : EvP W ty Γ (kD ky)) (hr : ∀ d, R d → ∃ kvs e, d = .dic kvs ∧ lk kvs ky = some e ∧ Pst.rt (.dat e)) : ∀ σ F H, Ok W Γ σ F H → Has P w a k R F H → ∀ Z : Ends, (∀ v F' H' s, Gr W W.F0 W.H0 F' H' → (∀ o, s ≠ .bor o) → Pst.rt s → SlV W W.H0 F' H' v s → Z.rt v H') → tRet (tDGet (tNGet P w td tk) ty) Z σ H := fun σ F H ko ⟨kvs, v, d, e, ks, l, rv, hR⟩ Z r => by
  refine hd σ F H ko _ fun x rx => ?_
  cases rx
  refine hk σ F H ko _ fun y ry => ?_
  obtain ⟨b, rfl, kb⟩ := ik.key F y ry
  refine ⟨a, b, kvs, k, v, rfl, rfl, e, ks.le ko.ok.le, kb.le ko.ok.le, ik.dep, l, ?_⟩
  obtain ⟨dk, de, rfl, hl, hq⟩ := hr d hR
  refine hy σ F H ko _ fun z rz => ?_
  rw [key_rep rz]
  cases rv with
  | dic e2 r2 =>
    rcases r2.val ky with ⟨q, _⟩ | ⟨u, d', q, qv, ru⟩
    · rw [hl] at q; cases q
    · rw [hl] at q
      cases q
      exact ⟨_, u, rfl, .inl ⟨_, ky, .inl (ko.ok.le _ _ e2), rfl, qv.symm⟩, r u F H (.dat de) ko.g (fun _ h => nomatch h) hq ru⟩
end
end
end Dn
/-! DenS: sorted of tuples of bools; min and max with default=; [] in a list of lists. -/
namespace Dn
open PySem PySem.Spec PyProof.Rows L2
/-! ### sorted, tuples of bools: a list of the same items, in some order -/
def rSortB (K : PySem.W.Frag) : List V → Hp → VK → Prop := fun vs H Q => ∃ (a : Addr) (xs : List V) (bs : List (List Bool)), vs = [V.ref a] ∧ SqL K H a xs ∧ Paired (fun x b => ∃ t, x = V.ref t ∧ H t = some (.tup (b.map V.bl))) xs bs ∧ (∀ b ∈ bs, b ≠ []) ∧
  ∀ (ys : List V) (p : Addr), ys.length = xs.length → (∀ y ∈ ys, y ∈ xs) → H p = none → Q (.ref p) (upd H p (.lst ys))
def encB (b : List Bool) : PyData := .tuple (b.map .bool)
theorem alikeB : ∀ a b : List Bool, PySem.W.alikeAll (a.map .bool) (b.map .bool) = true
  | [], _ => by simp [PySem.W.alikeAll]
  | _ :: _, [] => by simp [PySem.W.alikeAll]
  | x :: xs, y :: ys => by
    show PySem.W.alikeAll (.bool x :: xs.map .bool) (.bool y :: ys.map .bool) = true
    rw [PySem.W.alikeAll, alikeB xs ys]
    simp [PySem.W.alike]
theorem depthB : ∀ a : List Bool, PyData.depthAll (a.map .bool) = 0
  | [] => by simp [PyData.depthAll]
  | x :: xs => by
    show PyData.depthAll (.bool x :: xs.map .bool) = 0
    rw [PyData.depthAll, depthB xs]
    simp [PyData.depth]
section
variable {X : Cx}
theorem dpB {K : PySem.W.Frag} {H : Hp} : ∀ b : List Bool, DpAll K H (b.map V.bl) (b.map PyData.bool)
  | [] => .nil
  | x :: xs => .cons (.bl x) (dpB xs)
theorem out_vs {H : Hp} {xs : List V} : ∀ {out : List Value} {bs : List (List Bool)}, PySem.W.EachIs (fun (u : Value) (_ : List Bool) => ∃ x ∈ xs, RelV x u) out bs → ∃ ys : List V, Vals ys out ∧ ys.length = out.length ∧ ∀ y ∈ ys, y ∈ xs
  | _, _, .nil => ⟨[], .nil, rfl, fun _ h => nomatch h⟩
  | _, _, .cons ⟨x, hx, r⟩ t => by
    obtain ⟨ys, h1, h2, h3⟩ := out_vs (H := H) t
    exact ⟨x :: ys, .cons r h1, congrArg Nat.succ h2, fun y hy => (List.mem_cons.mp hy).elim (fun e => e ▸ hx) fun hy => h3 y hy⟩
theorem each_of {R : Value → List Bool → Prop} : ∀ {xs : List V} {us : List Value} {bs : List (List Bool)} {S : V → List Bool → Prop}, Vals xs us → Paired S xs bs → (∀ x u b, x ∈ xs → RelV x u → S x b → R u b) → PySem.W.EachIs R us bs
  | _, _, _, _, .nil, .nil, _ => .nil
  | _, _, _, _, .cons r rs, .cons s ss, h => .cons (h _ _ _ (List.mem_cons_self ..) r s) (each_of rs ss fun x u b hx => h x u b (List.mem_cons_of_mem _ hx))
theorem cr_sortB (hu : X.A.units + 64 < cLine) : CallR X (.builtin "sorted") (rSortB X.K) := by
  intro pins s σ H vs us Q I r h
  obtain ⟨a, xs, bs, rfl, hs, hx, hne, q⟩ := h
  obtain ⟨its, rv, hl, hz⟩ := I.list hs
  rw [Vals.ref1 r]
  have hlen : bs.length = xs.length := (Paired.length hx).symm
  refine PySem.W.sorted_data (β := List Bool) (enc := encB) (R := fun u _ => ∃ x ∈ xs, RelV x u) (bs := bs) hl.isList (each_of rv hx fun x u b hm r _ => ⟨x, hm, r⟩) (each_of rv hx fun x u b hm r ⟨t, e, ht⟩ => ?_) (PySem.W.AllAlike.of fun b b' => by
    show PySem.W.alike (.tuple _) (.tuple _) = true
    simp only [PySem.W.alike]; exact alikeB b b') (.inl fun d hd => ?_) (by rw [hlen]; exact hz) (fun b hb => ?_) fun out ho he => ?_
  · subst e
    exact Dp.reads I (encB b) _ _ (.tup (SqT.of ht) (dpB b)) r
  · obtain ⟨b, hb, rfl⟩ := List.mem_map.mp hd
    cases b with
    | nil => exact absurd rfl (hne _ hb)
    | cons x r => exact ⟨_, _, rfl⟩
  · show X.A.units + 2 + (PyData.tuple _).depth < cLine
    rw [PyData.depth, depthB]
    omega
  · obtain ⟨ys, h1, h2, h3⟩ := out_vs (H := H) he
    obtain ⟨ep, he'⟩ := PyProof.Rows.sortedAll_at s.heap its out.toArray
    refine ⟨.ref _, upd H (s.heap.objs.size + 1) (.lst ys), I.laid (t' := s.toks) (fun _ _ => PyProof.Rows.sortedAll_old) (Nat.le_succ _) ⟨?_, out, ep, h1, he'⟩, rfl, q ys _ ?_ h3 (I.hok.fresh (Nat.le_succ _))⟩
    · rw [h2, ho, hlen]; exact hz
    · rw [h2, ho, hlen]
end
theorem k_sortB {X : Cx} {K : PySem.W.Frag} (hu : X.A.units + 64 < cLine) (e : X.K = K := by rfl) : CallR X (.builtin "sorted") (rSortB K) := by subst e; exact cr_sortB hu
section
variable {W : Wd} {Γ : List Sl} {K : PySem.W.Frag} {te : TE} {ta tk : TA}
theorem reps_paired {F : Hp} : ∀ {xs : List V} {bs : List (List Bool)}, Reps F xs (bs.map fun b => .tup (b.map .bl)) → Paired (fun x b => ∃ t, x = V.ref t ∧ F t = some (.tup (b.map V.bl))) xs bs
  | _, [], .nil => .nil
  | _, b :: bs, .cons h r => by
    refine .cons ?_ (reps_paired r)
    cases h with
    | tup e r => rw [r.bls] at e; exact ⟨_, rfl, e⟩
theorem reps_of {F : Hp} {xs : List V} {ds : List D} (h : Reps F xs ds) : ∀ {ys : List V}, (∀ y ∈ ys, y ∈ xs) → ∃ es : List D, Reps F ys es ∧ es.length = ys.length ∧ ∀ e ∈ es, e ∈ ds
  | [], _ => ⟨[], .nil, rfl, fun _ h => nomatch h⟩
  | y :: ys, hy => by
    obtain ⟨es, r, l, m⟩ := reps_of h (ys := ys) fun z hz => hy z (List.mem_cons_of_mem _ hz)
    obtain ⟨i, hi⟩ := List.mem_iff_getElem?.mp (hy y (List.mem_cons_self ..))
    obtain ⟨d, hd, rd⟩ := h.get' hi
    exact ⟨d :: es, .cons rd r, congrArg Nat.succ l, fun e he => (List.mem_cons.mp he).elim (fun q => q ▸ List.mem_of_getElem? hd) fun he => m e he⟩
/-- sorted(list of tuples of bools) -/
theorem ev_sortB {bs : List (List Bool)} (h : EvE W te Γ (.bor (.lst (bs.map fun b => .tup (b.map .bl))))) (hne : ∀ b ∈ bs, b ≠ []) : Ev W (tCB (rSortB K) (tCons te tNil)) Γ fun s => ∃ es : List (List Bool), s = .own (.lst (es.map fun b => .tup (b.map .bl))) ∧ es.length = bs.length ∧ ∀ e ∈ es, e ∈ bs := ev_cb (ea_1 h) fun Hb F H vs s h Q q => by
  obtain ⟨a, rfl, xs, e, r⟩ := one_bor h
  refine ⟨a, xs, bs, rfl, SqL.of e, ?_, hne, fun ys p hl hm hp => ?_⟩
  · exact Paired.mapP (reps_paired r) fun x b ⟨t, e, ht⟩ => ⟨t, e, s.le _ _ ht⟩
  · obtain ⟨es, re, le, me⟩ := reps_of r hm
    have ex : ∃ bs' : List (List Bool), es = bs'.map (fun b => .tup (b.map .bl)) ∧ bs'.length = es.length ∧ ∀ b ∈ bs', b ∈ bs := by
      clear re le
      induction es with
      | nil => exact ⟨[], rfl, rfl, fun _ h => nomatch h⟩
      | cons d ds ih =>
        obtain ⟨b, hb, e1⟩ := List.mem_map.mp (me d (List.mem_cons_self ..))
        obtain ⟨bs', e2, l2, m2⟩ := ih fun e he => me e (List.mem_cons_of_mem _ he)
        exact ⟨b :: bs', by rw [List.map_cons, e1, ← e2], congrArg Nat.succ l2, fun c hc => (List.mem_cons.mp hc).elim (fun q => q ▸ hb) fun hc => m2 c hc⟩
    obtain ⟨bs', rfl, l2, m2⟩ := ex
    have hx := r.length
    rw [List.length_map] at hx
    exact q _ F _ _ (Gr.newO s hp) ⟨bs', rfl, by rw [l2, le, hl, hx], m2⟩ ⟨p, rfl, hp, s.le.no hp, ys, upd_same, re⟩

/-! ### max(xs, default=..), xs not empty; min(xs, default=..), xs empty -/
def rMaxKw (K : PySem.W.Frag) : List V → List V → Hp → VK → Prop := fun vs zs H Q => ∃ (a : Addr) (ns : List Int) (z : V), vs = [.ref a] ∧ zs = [z] ∧ SqL K H a (ns.map V.int) ∧ ns ≠ [] ∧ Q (.int (maxI ns)) H
def rMinKw (K : PySem.W.Frag) : List V → List V → Hp → VK → Prop := fun vs zs H Q => ∃ (a : Addr) (z : V), vs = [.ref a] ∧ zs = [z] ∧ SqL K H a [] ∧ Q z H
theorem hold_ints {h : Heap} : ∀ {ns : List Int} {us : List Value}, Vals (ns.map V.int) us → PySem.W.HoldAll h us ns
  | [], _, r => by cases r; exact ⟨_, .nil⟩
  | n :: ns, _, r => by
    cases r with
    | cons h1 h2 =>
      obtain ⟨t, rfl⟩ := h1
      exact PySem.W.HoldAll.cons ⟨_, .int n t⟩ (hold_ints h2)
theorem maxOf_mem : ∀ (xs : List Int) (x : Int), PySem.W.maxOf x xs = x ∨ PySem.W.maxOf x xs ∈ xs
  | [], x => .inl rfl
  | y :: ys, x => by
    show PySem.W.maxOf (if decide (x < y) = true then y else x) ys = x ∨ _
    by_cases q : x < y
    · rw [if_pos (decide_eq_true q)]
      rcases maxOf_mem ys y with h | h
      · rw [show PySem.W.maxOf x (y :: ys) = PySem.W.maxOf (if decide (x < y) = true then y else x) ys from rfl, if_pos (decide_eq_true q), h]
        exact .inr (List.mem_cons_self ..)
      · rw [show PySem.W.maxOf x (y :: ys) = PySem.W.maxOf (if decide (x < y) = true then y else x) ys from rfl, if_pos (decide_eq_true q)]
        exact .inr (List.mem_cons_of_mem _ h)
    · have e : decide (x < y) ≠ true := fun h => q (of_decide_eq_true h)
      rw [if_neg e, show PySem.W.maxOf x (y :: ys) = PySem.W.maxOf (if decide (x < y) = true then y else x) ys from rfl, if_neg e]
      rcases maxOf_mem ys x with h | h
      · exact .inl h
      · exact .inr (List.mem_cons_of_mem _ h)
theorem maxOf_ge : ∀ (xs : List Int) (x : Int), x ≤ PySem.W.maxOf x xs ∧ ∀ y ∈ xs, y ≤ PySem.W.maxOf x xs
  | [], x => ⟨Int.le_refl _, fun _ h => nomatch h⟩
  | y :: ys, x => by
    rw [show PySem.W.maxOf x (y :: ys) = PySem.W.maxOf (if decide (x < y) = true then y else x) ys from rfl]
    by_cases q : x < y
    · rw [if_pos (decide_eq_true q)]
      obtain ⟨h1, h2⟩ := maxOf_ge ys y
      exact ⟨by omega, fun z hz => (List.mem_cons.mp hz).elim (fun e => e ▸ h1) fun hz => h2 z hz⟩
    · rw [if_neg (fun h => q (of_decide_eq_true h))]
      obtain ⟨h1, h2⟩ := maxOf_ge ys x
      exact ⟨h1, fun z hz => (List.mem_cons.mp hz).elim (fun e => by subst e; omega) fun hz => h2 z hz⟩
theorem maxOf_eq (x : Int) (xs : List Int) : PySem.W.maxOf x xs = maxI (x :: xs) := by
  refine maxI_uniq ?_ fun y hy => ?_
  · rcases maxOf_mem xs x with h | h
    · rw [h]; exact List.mem_cons_self ..
    · exact List.mem_cons_of_mem _ h
  · rcases List.mem_cons.mp hy with e | hy
    · subst e; exact (maxOf_ge xs y).1
    · exact (maxOf_ge xs x).2 y hy
theorem reads_int {h : Heap} {v : Value} {i : Int} (H : PySem.W.Holds h v i) : ∃ t, v = .int i t := by
  obtain ⟨as, r⟩ := H
  have r : Reads h v (.int i) as := r
  cases r
  exact ⟨_, rfl⟩
theorem k_maxKw {X : Cx} (hu : X.A.units + 64 < cLine) (hc : X.calm = true := by rfl) (e : X.K = K := by rfl) : CallRK X (.builtin "max") [Str.ofString "default"] (rMaxKw K) := by
  subst e
  intro pins s σ H vs zs us ws Q I r rz h
  obtain ⟨a, ns, z, rfl, rfl, hs, hne, q⟩ := h
  obtain ⟨its, rv, hl, hz⟩ := I.list hs
  obtain rfl := Vals.ref1 r
  obtain ⟨w1, rfl, e1⟩ := vals1 rz
  refine PySem.W.max_list_datum_default (α := Int) (xs := ns) (I.ok.hd hc) hl.isList (by simpa using hold_ints (h := s.heap) rv) (by show X.A.units + 1 + 0 < cLine; omega) (fun e => absurd e hne) fun y ys i v h' tk e hi hv hk => ?_
  obtain ⟨t, rfl⟩ := reads_int hv
  rw [maxOf_eq, ← e]
  exact ⟨.int (maxI ns), H, I.kept hk, ⟨_, rfl⟩, q⟩
theorem k_minKw {X : Cx} (hu : X.A.units + 64 < cLine) (hc : X.calm = true := by rfl) (e : X.K = K := by rfl) : CallRK X (.builtin "min") [Str.ofString "default"] (rMinKw K) := by
  subst e
  intro pins s σ H vs zs us ws Q I r rz h
  obtain ⟨a, z, rfl, rfl, hs, q⟩ := h
  obtain ⟨its, rv, hl, hz⟩ := I.list hs
  obtain rfl := Vals.ref1 r
  obtain ⟨w1, rfl, e1⟩ := vals1 rz
  cases rv
  refine PySem.W.min_list_datum_default (α := Int) (xs := []) (I.ok.hd hc) hl.isList ⟨[], .nil⟩ (by show X.A.units + 1 + 0 < cLine; omega) (fun _ h' tk hk => ⟨z, H, I.kept hk, e1, q⟩) fun y ys i v h' tk e => nomatch e
theorem ev_maxKw {ns : List Int} {s : Sl} (h : EvE W te Γ (.bor (.lst (ns.map D.int)))) (hk : EvAE W tk Γ [s]) (hn : ns ≠ []) (hs : s.ow = none) : EvE W (tCKw (rMaxKw K) (tCons te tNil) tk) Γ (.dat (.int (maxI ns))) := fun σ F H k Q q =>
  (ea_1 h) σ F H k _ fun vs F1 H1 g1 z1 => hk σ F1 H1 (k.gr g1) _ fun zs F2 H2 g2 z2 => by
    obtain ⟨a, rfl, xs, e, r⟩ := one_bor (SlVs.gr k.ok.mh g2 z1)
    rw [r.ints] at e
    cases z2 with
    | cons y1 y2 =>
      cases y2
      exact ⟨a, ns, _, rfl, rfl, SqL.of e, hn, q _ F2 H2 (g1.trans g2) (.int _)⟩
theorem ev_minKw {d : D} (h : EvE W te Γ (.bor (.lst []))) (hk : EvAE W tk Γ [.dat d]) : EvE W (tCKw (rMinKw K) (tCons te tNil) tk) Γ (.dat d) := fun σ F H k Q q =>
  (ea_1 h) σ F H k _ fun vs F1 H1 g1 z1 => hk σ F1 H1 (k.gr g1) _ fun zs F2 H2 g2 z2 => by
    obtain ⟨a, rfl, xs, e, r⟩ := one_bor (SlVs.gr k.ok.mh g2 z1)
    cases r
    obtain ⟨v, rfl, rv⟩ := one_dat z2
    exact ⟨a, v, rfl, rfl, SqL.of e, q v F2 H2 (g1.trans g2) rv⟩

/-! ### [] in a list of lists that are not empty -/
def leafP : D → Option PyData
  | .bl b => some (.bool b)
  | .int i => some (.int i)
  | .non => some .none
  | _ => none
theorem leaf_dp {F H : Hp} {v : V} {d : D} {p : PyData} (r : Rep F v d) (e : leafP d = some p) : Dp K H v p := by
  cases r <;> first
    | (cases e; done)
    | (cases e; first | exact .non | exact .bl _ | exact .int _)
theorem leaf_lay {d : D} {p : PyData} (e : leafP d = some p) : p.canLay0 = true ∧ p.depth = 0 ∧ PyData.eqv p (.list []) = false := by
  cases d <;> first
    | (cases e; done)
    | (cases e; refine ⟨?_, ?_, ?_⟩ <;> simp [PyData.canLay0, PyData.depth, PyData.eqv])
theorem leaves_dp {F H : Hp} : ∀ {vs : List V} {ds : List D}, Reps F vs ds → (∀ d ∈ ds, (leafP d).isSome = true) → ∃ ps : List PyData, DpAll K H vs ps ∧ ps.length = ds.length ∧ PyData.canLayAll0 ps = true ∧ PyData.depthAll ps = 0
  | _, _, .nil, _ => ⟨[], .nil, rfl, by simp [PyData.canLayAll0], by simp [PyData.depthAll]⟩
  | _, _, .cons (d := d) r rs, h => by
    obtain ⟨ps, h1, h2, h3, h4⟩ := leaves_dp rs fun e he => h e (List.mem_cons_of_mem _ he)
    obtain ⟨p, hp⟩ := Option.isSome_iff_exists.mp (h d (List.mem_cons_self ..))
    obtain ⟨l1, l2, _⟩ := leaf_lay hp
    exact ⟨p :: ps, .cons (leaf_dp r hp) h1, congrArg Nat.succ h2, by rw [PyData.canLayAll0, l1, h3]; rfl, by rw [PyData.depthAll, l2, h4]; rfl⟩
theorem lists_dp {F H : Hp} (le : Le F H) : ∀ {vs : List V} {dss : List (List D)}, Reps F vs (dss.map .lst) → (∀ ds ∈ dss, ds ≠ [] ∧ ∀ d ∈ ds, (leafP d).isSome = true) → ∃ ps : List PyData, DpAll K H vs ps ∧ PyData.canLayAll0 ps = true ∧ PyData.depthAll ps ≤ 1 ∧ (ps.any fun z => PyData.eqv z (.list [])) = false
  | _, [], .nil, _ => ⟨[], .nil, by simp [PyData.canLayAll0], by simp [PyData.depthAll], rfl⟩
  | _, ds :: dss, .cons r rs, h => by
    obtain ⟨ps, h1, h2, h3, h4⟩ := lists_dp le rs fun e he => h e (List.mem_cons_of_mem _ he)
    obtain ⟨hne, hl⟩ := h ds (List.mem_cons_self ..)
    cases r with
    | lst e r =>
      obtain ⟨qs, q1, q2, q3, q4⟩ := leaves_dp (K := K) (H := H) r hl
      refine ⟨.list qs :: ps, .cons (.lst (SqL.of (le _ _ e)) q1) h1, ?_, ?_, ?_⟩
      · rw [PyData.canLayAll0, h2, PyData.canLay0, q3]; rfl
      · rw [PyData.depthAll, PyData.depth, q4]; omega
      · rw [List.any_cons, h4]
        cases qs with
        | nil => exact absurd (List.length_eq_zero_iff.mp q2.symm) hne
        | cons x y => simp [PyData.eqv, PyData.eqvAll]
theorem ev_nilIn {tb : TE} {dss : List (List D)} (ha : EvE W te Γ (.own (.lst []))) (hb : EvE W tb Γ (.dat (.lst (dss.map .lst)))) (h : ∀ ds ∈ dss, ds ≠ [] ∧ ∀ d ∈ ds, (leafP d).isSome = true) : EvE W (tOp (rInD K) te tb) Γ (.dat (.bl false)) := ev_op (ev_own_bor ha) hb fun Hb F H x y sk hx hy Q q => by
  obtain ⟨a, rfl, _, xs, e, r⟩ := hx
  cases r
  have hy : Rep F y (.lst (dss.map .lst)) := hy
  cases hy with
  | lst e2 r2 =>
    obtain ⟨ps, h1, h2, h3, h4⟩ := lists_dp (K := K) sk.le r2 h
    refine ⟨.list [], ps, .lst (SqL.of e) .nil, .lst (SqL.of (sk.le _ _ e2)) h1, ?_, ?_, ?_⟩
    · show (PyData.canLay0 _ && decide (PyData.depth _ ≤ 64)) = true
      rw [PyData.canLay0, PyData.canLayAll0, PyData.depth, PyData.depthAll]; rfl
    · show (PyData.canLay0 _ && decide (PyData.depth _ ≤ 64)) = true
      rw [PyData.canLay0, h2, PyData.depth, decide_eq_true (by omega)]; rfl
    · rw [h4]; exact ret_dat sk q (.bl _)
end
end Dn
/-! DenW: new memos in new objects; from one world to another. -/
namespace Dn
open PySem PySem.Spec PyProof.Rows L2
section
variable {W : Wd} {Γ : List Sl} {K : PySem.W.Frag} {te tv : TE} {P : Po} {u : TS} {C a : Addr} {f : Str} {fs : List (Str × D)} {i : Nat}
theorem ec_fldR {R : D → Prop} (c : Cls K C) (na : NoAttr K C f) (hi : Γ[i]? = some (.slf a (.ins C fs))) (h : Ev W tv Γ fun s => ∃ d, s = .dat d ∧ R d) (hl : fs.length < 1000) (k : ∀ d, R d → P.nx (Γ.set i (.slf a (.ins C (ptF f d fs))))) : Ec W (sFld K (tVar i) tv f) Γ P := fun σ F H ko Z n r b ct =>
  h σ F H ko _ fun v F1 H1 s g ⟨d, es, hR⟩ z => by
    subst es
    have k1 := ko.gr g
    obtain ⟨ha, h0, f0, dx, xs, e, rf⟩ := k1.sl i _ hi
    refine ⟨.ref a, ha, a, C, dx, xs, rfl, e, c, na, by rw [rf.length]; exact hl, ?_⟩
    exact n _ _ F1 _ (k1.putA hi (o' := .ins C (ptF f d fs)) ⟨dx, _, upd_same, rf.put z⟩) g.ff (k d hR)
/-- self.f = e, e one of several -/
theorem ec_fldSR {R : D → Prop} (c : Cls K C) (na : NoAttr K C f) (hi : Γ[i]? = some (.slf a (.ins C fs))) (h : Ev W tv Γ fun s => ∃ d, s = .dat d ∧ R d) (hl : fs.length < 1000) (k : ∀ d, R d → Ec W u (Γ.set i (.slf a (.ins C (ptF f d fs)))) P) : Ec W (tSeq (sFld K (tVar i) tv f) u) Γ P :=
  ec_seq (M := fun G => ∃ d, R d ∧ G = Γ.set i (.slf a (.ins C (ptF f d fs)))) (fun σ F H ko Z n r b ct =>
    h σ F H ko _ fun v F1 H1 s g ⟨d, es, hR⟩ z => by
      subst es
      have k1 := ko.gr g
      obtain ⟨ha, h0, f0, dx, xs, e, rf⟩ := k1.sl i _ hi
      refine ⟨.ref a, ha, a, C, dx, xs, rfl, e, c, na, by rw [rf.length]; exact hl, ?_⟩
      exact n _ _ F1 _ (k1.putA hi (o' := .ins C (ptF f d fs)) ⟨dx, _, upd_same, rf.put z⟩) g.ff ⟨d, hR, rfl⟩) fun _ ⟨d, hR, e⟩ => by subst e; exact k d hR
/-- a memo that has come up in this body -/
structure NewM (P : Program) (w : World) (W : Wd) (F H : Hp) (p : Addr) : Prop where
  h0 : W.H0 p = none
  f0 : F p = none
  at_ : H p = some (NDo P w p [])
/-- self.f = {} -/
theorem ech_new {Pg : Program} {w : World} (c : Cls K C) (na : NoAttr K C f) (hi : Γ[i]? = some (.slf a (.ins C fs))) (hl : fs.length < 1000) :
    EcH W (sFld K (tVar i) (tNew Pg w) f) Γ fun Γ' F H => ∃ p, Γ' = Γ.set i (.slf a (.ins C (ptF f (.adr p) fs))) ∧ p ≠ a ∧ NewM Pg w W F H p := fun σ F H ko Z n p hp => by
  have k1 := ko.gr (Gr.newO (o := NDo Pg w p []) ko.ok hp)
  obtain ⟨ha, h0, f0, dx, xs, e, rf⟩ := k1.sl i _ hi
  have hpa : p ≠ a := fun q => by
    obtain ⟨_, _, _, dx', xs', e', _⟩ := ko.sl i _ hi
    rw [q, e'] at hp; cases hp
  refine ⟨.ref a, ha, a, C, dx, xs, rfl, e, c, na, by rw [rf.length]; exact hl, ?_⟩
  exact n _ _ F _ (k1.putA hi (o' := .ins C (ptF f (.adr p) fs)) ⟨dx, _, upd_same, rf.put (.adr p)⟩) (Le.refl _) ⟨p, rfl, hpa, ko.g.no hp, ko.ok.le.no hp, by rw [upd_ne hpa, upd_same]⟩
theorem ech_new2 {Pg : Program} {w : World} {f2 : Str} (c : Cls K C) (na : NoAttr K C f) (na2 : NoAttr K C f2) (hi : Γ[i]? = some (.slf a (.ins C fs))) (hl : fs.length < 900) (hil : i < Γ.length) :
    EcH W (tSeq (sFld K (tVar i) (tNew Pg w) f) (sFld K (tVar i) (tNew Pg w) f2)) Γ fun Γ' F H => ∃ p q, Γ' = Γ.set i (.slf a (.ins C (ptF f2 (.adr q) (ptF f (.adr p) fs)))) ∧ p ≠ a ∧ q ≠ a ∧ p ≠ q ∧ NewM Pg w W F H p ∧ NewM Pg w W F H q := fun σ F H ko Z n =>
  ech_new c na hi (by omega) σ F H ko _ fun Γ' σ' F' H' k' l ⟨p, eG, hpa, hp⟩ => by
    subst eG
    intro q hq
    have hi2 : (Γ.set i (.slf a (.ins C (ptF f (.adr p) fs))))[i]? = some (.slf a (.ins C (ptF f (.adr p) fs))) := List.getElem?_set_self hil
    have k1 := k'.gr (Gr.newO (o := NDo Pg w q []) k'.ok hq)
    obtain ⟨ha, h0, f0, dx, xs, e, rf⟩ := k1.sl i _ hi2
    have hqa : q ≠ a := fun z => by
      obtain ⟨_, _, _, dx', xs', e', _⟩ := k'.sl i _ hi2
      rw [z, e'] at hq; cases hq
    have hqp : p ≠ q := fun z => by rw [← z, hp.at_] at hq; cases hq
    refine ⟨.ref a, ha, a, C, dx, xs, rfl, e, c, na2, ?_, ?_⟩
    · rw [rf.length]
      have : (ptF f (.adr p) fs).length < 901 := lt_ptF hl
      omega
    · refine n _ _ F' _ (k1.putA hi2 (o' := .ins C (ptF f2 (.adr q) (ptF f (.adr p) fs))) ⟨dx, _, upd_same, rf.put (.adr q)⟩) l ⟨p, q, by rw [List.set_set], hpa, hqa, hqp, ⟨hp.h0, hp.f0, by rw [upd_ne hpa, upd_ne hqp]; exact hp.at_⟩, ⟨k'.g.no hq, k'.ok.le.no hq, by rw [upd_ne hqa, upd_same]⟩⟩
end
/-! ### another world from here on -/
section
variable {W W2 : Wd} {F H : Hp} {σ : L2.St} {Γ : List Sl}
theorem ok_new (s : Sok W2 W2.F0 W2.H0) (hl : σ.length = Γ.length) (n : noOw Γ = true) (h : ∀ i t, Γ[i]? = some t → SlE W2 W2.F0 W2.H0 σ i t) : Ok W2 Γ σ W2.F0 W2.H0 :=
  ⟨s, .refl s, hl, h, fun i _ _ ⟨t, e, ht⟩ => absurd (noOw_of n t (List.mem_of_getElem? e)) ht⟩
theorem gr_back (hM : ∀ a, ¬ W.M a) (hJ : ∀ F H, W.J F H) (g0 : Gr W W.F0 W.H0 W2.F0 W2.H0) (hnew : ∀ a, W2.M a → W.H0 a = none) {F' H' : Hp} (g : Gr W2 W2.F0 W2.H0 F' H') : Gr W W.F0 W.H0 F' H' :=
  ⟨⟨g.ok.le, fun a m => absurd m (hM a), fun a m => absurd m (hM a), hJ _ _⟩, g0.ff.trans g.ff, fun a o e => (g.nw a o e).elim (fun q => g0.nw a o q) fun q => .inr (g0.no q),
    fun a o e m => g.kp a o (g0.kp a o e m) fun m2 => by rw [hnew a m2] at e; cases e⟩
theorem slv_back (hM : ∀ a, ¬ W.M a) (g0 : Gr W W.F0 W.H0 W2.F0 W2.H0) {F' H' : Hp} {v : V} {s : Sl} (hb : ∀ o, s ≠ .bor o) (z : SlV W2 W2.H0 F' H' v s) : SlV W W.H0 F' H' v s := by
  cases s with
  | no => trivial
  | dat d => exact z
  | raw u => exact z
  | bor o => exact absurd rfl (hb o)
  | own o => obtain ⟨a, e, h0, q⟩ := z; exact ⟨a, e, g0.no h0, q⟩
  | slf a o => obtain ⟨e, h0, q⟩ := z; exact ⟨e, g0.no h0, q⟩
/-- the rest of a body runs in the world W2 -/
theorem run_in {u : TS} {R : Sl → Prop} (hM : ∀ a, ¬ W.M a) (hJ : ∀ F H, W.J F H) (g0 : Gr W W.F0 W.H0 W2.F0 W2.H0) (hnew : ∀ a, W2.M a → W.H0 a = none) (k : Ok W2 Γ σ W2.F0 W2.H0) (h : Ec W2 u Γ (Po.fn R)) {Z : Ends}
    (n : ∀ σ' F' H', Gr W W.F0 W.H0 F' H' → R (.dat .non) → Z.nx σ' H') (r : ∀ v F' H' s, Gr W W.F0 W.H0 F' H' → (∀ o, s ≠ .bor o) → R s → SlV W W.H0 F' H' v s → Z.rt v H') : u Z σ W2.H0 :=
  h σ W2.F0 W2.H0 k Z (fun Γ' σ' F' H' k' _ m => n σ' F' H' (gr_back hM hJ g0 hnew k'.g) m) (fun v F' H' s g nb m z => r v F' H' s (gr_back hM hJ g0 hnew g) nb m (slv_back hM g0 nb z)) (fun _ _ _ _ _ _ m => m.elim) fun _ _ _ _ _ _ m => m.elim
end
end Dn
/-! Mth3: what longest_sums gives; sums along paths. -/
namespace Sg
open PySem Dn L2
section
variable {c : Circ} {s : Str}
theorem Pth.nonneg (w : WF c) {n : Str} {a b : Int} (p : Pth c s n a b) : 0 ≤ a ∧ a ≤ b := by
  induction p with
  | nil => exact ⟨Int.le_refl _, Int.le_refl _⟩
  | snoc _ hg hn hr ih =>
    have := (w.gate _ hg).lo _ (List.mem_of_getElem? hr)
    dsimp only at this
    omega
theorem Pth.le_rk (w : WF c) {rk : Str → Nat} (hrk : RkOk c rk) {n : Str} {a b : Int} (p : Pth c s n a b) : b + 100 * (rk s : Int) ≤ 100 * (rk n : Int) := by
  induction p with
  | nil => omega
  | snoc _ hg hn hr ih =>
    have := (w.gate _ hg).lo _ (List.mem_of_getElem? hr)
    have h2 := hrk.lt _ hg _ (List.mem_of_getElem? hn)
    dsimp only at this
    omega
theorem Pth.le500 (w : WF c) {n : Str} {a b : Int} (p : Pth c s n a b) : b ≤ 500 := by
  obtain ⟨rk, hrk⟩ := w.rank
  have := p.le_rk w hrk
  have := hrk.le n
  omega
theorem Pth.mem (w : WF c) (hs : s ∈ nets c) {n : Str} {a b : Int} (p : Pth c s n a b) : n ∈ nets c := by
  cases p with
  | nil => exact hs
  | snoc _ hg _ _ => exact List.mem_append_right _ (List.mem_map.mpr ⟨_, hg, rfl⟩)
end
def wgt (up : Bool) (p : Int × Int) : Int := if up then p.2 else -p.1
/-- a pin's inequality -/
def PinOk (kvs : List (Key × D)) (up : Bool) (nm n : Str) (p : Int × Int) : Prop := ∀ v, lk kvs (.inr n) = some (.int v) → ∃ u, lk kvs (.inr nm) = some (.int u) ∧ v + wgt up p ≤ u
structure LSc (c : Circ) (s : Str) (up : Bool) (kvs : List (Key × D)) : Prop where
  src : lk kvs (.inr s) = some (.int 0)
  ach : ∀ n d, lk kvs (.inr n) = some d → ∃ v a b, d = .int v ∧ Pth c s n a b ∧ v = if up then b else -a
structure LS (c : Circ) (s : Str) (up : Bool) (kvs : List (Key × D)) : Prop extends LSc c s up kvs where
  cl : ∀ g ∈ c.gates, ∀ (i : Nat) (n : Str) (p : Int × Int), g.nets[i]? = some n → g.rng[i]? = some p → PinOk kvs up g.nm n p
theorem LS.path {c : Circ} {s : Str} {up : Bool} {kvs : List (Key × D)} (h : LS c s up kvs) {n : Str} {a b : Int} (p : Pth c s n a b) : ∃ v, lk kvs (.inr n) = some (.int v) ∧ (if up then b else -a) ≤ v := by
  induction p with
  | nil => exact ⟨0, h.src, by cases up <;> decide⟩
  | snoc _ hg hn hr ih =>
    obtain ⟨v, hv, hl⟩ := ih
    obtain ⟨u, hu, hl2⟩ := h.cl _ hg _ _ _ hn hr v hv
    refine ⟨u, hu, ?_⟩
    unfold wgt at hl2
    cases up
    · simp at hl hl2 ⊢; omega
    · simp at hl hl2 ⊢; omega
/-- how far a net is from its last value -/
def cost (kvs : List (Key × D)) (n : Str) : Nat := match lk kvs (.inr n) with
  | some (.int v) => (500 - v).toNat
  | _ => 1001
def tot (c : Circ) (kvs : List (Key × D)) : Nat := (c.gates.map fun g => cost kvs g.nm).sum
theorem sum_le {α : Type} {f g : α → Nat} : ∀ {l : List α}, (∀ x ∈ l, f x ≤ g x) → (l.map f).sum ≤ (l.map g).sum
  | [], _ => Nat.le_refl _
  | x :: l, h => by
    rw [List.map_cons, List.map_cons, List.sum_cons, List.sum_cons]
    exact Nat.add_le_add (h x (List.mem_cons_self ..)) (sum_le fun y hy => h y (List.mem_cons_of_mem _ hy))
theorem sum_lt {α : Type} {f g : α → Nat} : ∀ {l : List α}, (∀ x ∈ l, f x ≤ g x) → (∃ x ∈ l, f x < g x) → (l.map f).sum < (l.map g).sum
  | [], _, ⟨_, h, _⟩ => nomatch h
  | x :: l, h, ⟨y, hy, hl⟩ => by
    rw [List.map_cons, List.map_cons, List.sum_cons, List.sum_cons]
    rcases List.mem_cons.mp hy with e | hy
    · subst e
      exact Nat.add_lt_add_of_lt_of_le hl (sum_le fun z hz => h z (List.mem_cons_of_mem _ hz))
    · exact Nat.add_lt_add_of_le_of_lt (h x (List.mem_cons_self ..)) (sum_lt (fun z hz => h z (List.mem_cons_of_mem _ hz)) ⟨y, hy, hl⟩)
theorem tot_lt {c : Circ} {kvs : List (Key × D)} {g : Gate} {t : Int} (hg : g ∈ c.gates) (h : lk kvs (.inr g.nm) = none ∨ ∃ u, lk kvs (.inr g.nm) = some (.int u) ∧ u < t) (hb : -500 ≤ t ∧ t ≤ 500) : tot c (pt kvs (.inr g.nm) (.int t)) < tot c kvs := by
  have new : ∀ n, cost (pt kvs (.inr g.nm) (.int t)) n = if g.nm = n then (500 - t).toNat else cost kvs n := fun n => by
    unfold cost
    rw [lk_pt]
    by_cases e : g.nm = n
    · subst e; rw [if_pos rfl, if_pos rfl]
    · rw [if_neg (fun z => e (Sum.inr.inj z)), if_neg e]
  have at_ : cost kvs g.nm > (500 - t).toNat := by
    unfold cost
    rcases h with e | ⟨u, e, hu⟩
    · rw [e]; show 1001 > _; omega
    · rw [e]; show (500 - u).toNat > _; omega
  refine sum_lt (fun x hx => ?_) ⟨g, hg, ?_⟩
  · rw [new]
    by_cases e : g.nm = x.nm
    · rw [if_pos e, ← e]; omega
    · rw [if_neg e]; exact Nat.le_refl _
  · rw [new, if_pos rfl]; exact at_
end Sg
/-! DenZ: for i, (x, y) in enumerate(zip(list, list)). The tuple that zip hands out first stays held; it is carried through the walk. -/
namespace Dn
open PySem PySem.Spec PyProof.Rows L2

/-- a zip whose first tuple is not out yet (none), or is out and held -/
def ZSt (h : Heap) (z TI TO i1 i2 a c : Addr) (i : Nat) (t : Option Addr) : Prop :=
  (match t with | none => IsZip h z TI TO .none | some T => ∃ f, IsZipHeld h z TI TO T f) ∧ IsPair h TI (.ref i1) (.ref i2) ∧ (∃ x y, IsPair h TO x y) ∧ h.IsListIter i1 a i ∧ h.IsListIter i2 c i
theorem ZSt.keep {h h' : Heap} {z TI TO i1 i2 a c : Addr} {i : Nat} {t : Option Addr} (st : ZSt h z TI TO i1 i2 a c i t) (k : ∀ b ∈ [z, TI, TO, i1, i2], ∀ o, h.get? b = some o → h'.get? b = some o) : ZSt h' z TI TO i1 i2 a c i t := by
  obtain ⟨m, hTI, ⟨x, y, hTO⟩, h1, h2⟩ := st
  refine ⟨?_, k TI (by simp) _ hTI, ⟨x, y, k TO (by simp) _ hTO⟩, h1.at fun o e => k i1 (by simp) o e, h2.at fun o e => k i2 (by simp) o e⟩
  cases t with
  | none => exact k z (by simp) _ m
  | some T => obtain ⟨f, m⟩ := m; exact ⟨f, k z (by simp) _ m⟩
theorem ZSt.live {h : Heap} {z TI TO i1 i2 a c : Addr} {i : Nat} {t : Option Addr} (st : ZSt h z TI TO i1 i2 a c i t) : ∀ b ∈ [z, TI, TO, i1, i2], ∃ o, h.get? b = some o ∧ ∀ v, o.data ≠ .cell v := fun e he => by
  obtain ⟨m, hTI, ⟨x, y, hTO⟩, ⟨o1, e1, _, d1⟩, ⟨o2, e2, _, d2⟩⟩ := st
  have e' : e = z ∨ e = TI ∨ e = TO ∨ e = i1 ∨ e = i2 := by simpa using he
  rcases e' with q | q | q | q | q <;> subst q
  · cases t with
    | none => exact ⟨_, m, fun v q => nomatch q⟩
    | some T => obtain ⟨f, m⟩ := m; exact ⟨_, m, fun v q => nomatch q⟩
  · exact ⟨_, hTI, fun v q => nomatch q⟩
  · exact ⟨_, hTO, fun v q => nomatch q⟩
  · exact ⟨o1, e1, fun v q => by rw [d1] at q; cases q⟩
  · exact ⟨o2, e2, fun v q => by rw [d2] at q; cases q⟩
theorem ZSt.isZ {s : Shared} {z TI TO i1 i2 a c : Addr} {i : Nat} {t : Option Addr} (st : ZSt s.heap z TI TO i1 i2 a c i t) : s.TypeIs (.ref z) "zip" := by
  obtain ⟨m, _⟩ := st
  cases t with
  | none => exact ⟨_, m, rfl⟩
  | some T => obtain ⟨f, m⟩ := m; exact ⟨_, m, rfl⟩
section
variable {prog : Program} {w : World} {A : Around} {E : Value → Shared → Prop} {s : Shared}
theorem nextOf_zip_item {z TI TO i1 i2 a c : Addr} {i : Nat} {t : Option Addr} {xs ys : Array Value} {x y : Value} {Q : Value → Shared → Prop} (D : ZipApart z TI TO i1 i2 a c)
    (st : ZSt s.heap z TI TO i1 i2 a c i t) (hT : ∀ T, t = some T → ∃ o, s.heap.get? T = some o) (hl1 : s.heap.IsList a xs) (hl2 : s.heap.IsList c ys) (hx : xs[i]? = some x) (hy : ys[i]? = some y)
    (hQ : ∀ h', ZSt h' z TI TO i1 i2 a c (i + 1) (some (t.getD s.heap.objs.size)) → IsPair h' s.heap.objs.size x y → h'.objs.size = s.heap.objs.size + 1 →
      (∀ c o, c ≠ z → c ≠ TO → c ≠ i1 → c ≠ i2 → s.heap.get? c = some o → h'.get? c = some o) → Q (.ref s.heap.objs.size) { s with heap := h' }) :
    wpAny (model prog w) A (Builtin.SmallTypes.nextOf (.ref z)) Q E s := by
  have hTy := st.isZ
  obtain ⟨m, hTI, ⟨p, q, hTO⟩, h1, h2⟩ := st
  unfold Builtin.SmallTypes.nextOf
  cases t with
  | none =>
    exact wpAny_bind (wpAny_callSpecial?_slot (name := Str.ofString "__next__") hTy F.slot_zip_next (wpAny_call_entry F.slot_zip_next hTy F.entry_zip_next
      (zip_next_item D m hTI hTO h1 h2 hl1 hl2 hx hy fun h' a1 a2 a3 a4 a5 a6 k => wpAny_pure (hQ h' ⟨⟨false, a1⟩, k _ _ D.TIz D.TITO D.TIi1 D.TIi2 hTI, ⟨x, y, a2⟩, a3, a4⟩ a5 a6 k)) (F.args_zip_next_1 _)))
  | some T =>
    obtain ⟨f, m⟩ := m
    obtain ⟨o, ho⟩ := hT T rfl
    exact wpAny_bind (wpAny_callSpecial?_slot (name := Str.ofString "__next__") hTy F.slot_zip_next (wpAny_call_entry F.slot_zip_next hTy F.entry_zip_next
      (zip_next_item_held D m ho hTI h1 h2 hl1 hl2 hx hy fun h' a1 a3 a4 a5 a6 k => wpAny_pure (hQ h' ⟨⟨true, a1⟩, k _ _ D.TIz D.TIi1 D.TIi2 hTI, ⟨p, q, k _ _ D.TOz D.TOi1 D.TOi2 hTO⟩, a3, a4⟩ a5 a6
        fun c o c1 _ c3 c4 e => k c o c1 c3 c4 e)) (F.args_zip_next_1 _)))
theorem nextOf_zip_end {z TI TO i1 i2 a c : Addr} {i : Nat} {t : Option Addr} {xs ys : Array Value} {Q : Value → Shared → Prop} (hh : A.handled = none) (D : ZipApart z TI TO i1 i2 a c)
    (st : ZSt s.heap z TI TO i1 i2 a c i t) (hT : ∀ T, t = some T → ∃ o, s.heap.get? T = some o) (hl1 : s.heap.IsList a xs) (hl2 : s.heap.IsList c ys) (hend : xs[i]? = none ∨ ys[i]? = none)
    (hE : ∀ h' e, (∀ c o, c ≠ z → c ≠ TO → c ≠ i1 → c ≠ i2 → s.heap.get? c = some o → h'.get? c = some o) → (∃ o, h'.get? e = some o ∧ o.cls = .type "StopIteration") → E (.ref e) { s with heap := h' }) :
    wpAny (model prog w) A (Builtin.SmallTypes.nextOf (.ref z)) Q E s := by
  have hTy := st.isZ
  obtain ⟨m, hTI, ⟨p, q, hTO⟩, h1, h2⟩ := st
  unfold Builtin.SmallTypes.nextOf
  cases t with
  | none =>
    exact wpAny_bind (wpAny_callSpecial?_slot (name := Str.ofString "__next__") hTy F.slot_zip_next (wpAny_call_entry F.slot_zip_next hTy F.entry_zip_next
      (zip_next_end hh D m hTI hTO h1 h2 hl1 hl2 hend hE) (F.args_zip_next_1 _)))
  | some T =>
    obtain ⟨f, m⟩ := m
    obtain ⟨o, ho⟩ := hT T rfl
    exact wpAny_bind (wpAny_callSpecial?_slot (name := Str.ofString "__next__") hTy F.slot_zip_next (wpAny_call_entry F.slot_zip_next hTy F.entry_zip_next
      (zip_next_end_held hh D m ho hTI h1 h2 hl1 hl2 hend fun h' e k q => hE h' e (fun c o c1 _ c3 c4 e => k c o c1 c3 c4 e) q) (F.args_zip_next_1 _)))
theorem enum_next_of {e it : Addr} {i : Nat} {old : Value} {P : Value → Heap → Prop} {Q : Value → Shared → Prop} (he : IsEnum s.heap e it i old)
    (hn : ∀ (Q' : Value → Shared → Prop), (∀ x h1, P x h1 → Q' x { s with heap := h1 }) → wpAny (model prog w) A (Builtin.SmallTypes.nextOf (.ref it)) Q' E s)
    (hP : ∀ x h1, P x h1 → IsEnum h1 e it i old)
    (hQ : ∀ x h1 h', P x h1 → IsEnumOut h' e it ((i : Int) + 1) x h1.objs.size → h'.get? h1.objs.size = some { cls := .type "tuple", data := .seq #[.int i s.toks, x] } → h'.objs.size = h1.objs.size + 1 →
      (∀ b o, b ≠ e → h1.get? b = some o → h'.get? b = some o) → Q (.ref h1.objs.size) { s with heap := h', toks := s.toks + 1 }) :
    wpAny (model prog w) A (Builtin.«enumerate.__next__» ⟨[.ref e], []⟩) (fun fin s' => ∃ v, fin = .done (.ret v) ∧ Q v s') E s := by
  obtain ⟨hp, g, d, tk, os⟩ := s
  show wpAny _ _ (field (.ref e) 2 >>= _) _ _ _
  refine wpAny_bind (wpAny_field he rfl (x := .ref it) rfl ?_)
  refine wpAny_bind (hn _ fun x h₁ hPx => ?_)
  have he₁ : IsEnum h₁ e it i old := hP x h₁ hPx
  show wpAny _ _ (field (.ref e) 3 >>= _) _ _ ⟨h₁, g, d, tk, os⟩
  refine wpAny_bind (wpAny_field he₁ rfl (x := rawInt i) rfl ?_)
  show wpAny _ _ (field (.ref e) 4 >>= _) _ _ ⟨h₁, g, d, tk, os⟩
  refine wpAny_bind (wpAny_field he₁ rfl (x := .none) rfl ?_)
  show wpAny _ _ (mkInt i >>= _) _ _ ⟨h₁, g, d, tk, os⟩
  refine wpAny_bind (wpAny_mkInt ?_)
  show wpAny _ _ (setField (.ref e) 3 (rawInt ((i : Int) + 1)) >>= _) _ _ ⟨h₁, g, d, tk + 1, os⟩
  refine wpAny_bind (wpAny_setField_rec he₁ (by simp) fun h₂ he₂ hs₂ => ?_)
  replace hs₂ : Heap.SameBut e h₁ h₂ := hs₂
  replace he₂ : IsEnum h₂ e it ((i : Int) + 1) old := he₂
  show wpAny _ _ (setField (.ref e) 4 .none >>= _) _ _ ⟨h₂, g, d, tk + 1, os⟩
  refine wpAny_bind (wpAny_setField_rec he₂ (by simp) fun h₃ he₃ hs₃ => ?_)
  replace hs₃ : Heap.SameBut e h₂ h₃ := hs₃
  replace he₃ : IsEnum h₃ e it ((i : Int) + 1) old := he₃
  show wpAny _ _ (newTuple [.int i tk, x] >>= _) _ _ ⟨h₃, g, d, tk + 1, os⟩
  refine wpAny_bind (wpAny_newTuple ?_)
  have he₄ : IsEnum (h₃.push { cls := .type "tuple", data := .seq #[.int i tk, x] }) e it ((i : Int) + 1) old := Heap.get?_push_of_some _ he₃
  generalize hh₄ : h₃.push { cls := .type "tuple", data := .seq #[.int i tk, x] } = h₄ at he₄
  have hsz : h₃.objs.size = h₁.objs.size := by rw [hs₃.1, hs₂.1]
  have hel : e < h₁.objs.size := Heap.lt_size he₁
  have ht₄ : h₄.get? h₁.objs.size = some { cls := .type "tuple", data := .seq #[.int i tk, x] } := by rw [← hh₄, ← hsz]; exact Heap.get?_push_size _ rfl
  have hz₄ : h₄.objs.size = h₁.objs.size + 1 := by rw [← hh₄, Heap.size_push, hsz]
  have hk₄ : ∀ b o, b ≠ e → h₁.get? b = some o → h₄.get? b = some o := fun b o hbe hb => by
    rw [← hh₄]; exact Heap.get?_push_of_some _ (hs₃.extBut b o hbe (hs₂.extBut b o hbe hb))
  show wpAny _ _ (Builtin.SmallTypes.ownedTupleIsFree (.ref e) >>= _) _ _ ⟨h₄, g, d, tk + 1, os⟩
  rw [hsz]
  refine wpAny_bind ?_
  · unfold Builtin.SmallTypes.ownedTupleIsFree
    refine wpAny_bind (wpAny_field he₄ rfl (x := .none) rfl (wpAny_pure ?_))
    simp only [if_true]
    refine wpAny_bind (wpAny_rule ?_)
    refine wpAny_bind (wpAny_field he₄ rfl (x := old) rfl ?_)
    refine wpAny_bind (wpAny_setField_rec he₄ (by simp) fun h₅ he₅ hs₅ => ?_)
    replace hs₅ : Heap.SameBut e h₄ h₅ := hs₅
    replace he₅ : IsEnum h₅ e it ((i : Int) + 1) x := he₅
    show wpAny _ _ (Builtin.SmallTypes.ownedTupleHandOut (.ref e) (.ref h₁.objs.size) >>= _) _ _ ⟨h₅, g, d, tk + 1, os⟩
    refine wpAny_bind ?_
    · unfold Builtin.SmallTypes.ownedTupleHandOut
      refine wpAny_bind (wpAny_setField_rec he₅ (by simp) fun h₆ he₆ hs₆ => ?_)
      replace hs₆ : Heap.SameBut e h₅ h₆ := hs₆
      replace he₆ : IsEnumOut h₆ e it ((i : Int) + 1) x h₁.objs.size := he₆
      refine wpAny_setField_rec he₆ (by simp) fun h₇ he₇ hs₇ => ?_
      replace hs₇ : Heap.SameBut e h₆ h₇ := hs₇
      replace he₇ : IsEnumOut h₇ e it ((i : Int) + 1) x h₁.objs.size := he₇
      refine wpAny_bind (wpAny_letGo (wpAny_pure ⟨_, rfl, hQ x h₁ h₇ hPx he₇ ?_ ?_ ?_⟩))
      · exact hs₇.extBut _ _ (Nat.ne_of_gt hel) (hs₆.extBut _ _ (Nat.ne_of_gt hel) (hs₅.extBut _ _ (Nat.ne_of_gt hel) ht₄))
      · rw [hs₇.1, hs₆.1, hs₅.1, hz₄]
      · exact fun b o hbe hb => hs₇.extBut b o hbe (hs₆.extBut b o hbe (hs₅.extBut b o hbe (hk₄ b o hbe hb)))
theorem pyNext_enum_of {e it : Addr} {i : Nat} {old : Value} {P : Value → Heap → Prop} {Q : Option Value → Shared → Prop} (he : IsEnum s.heap e it i old)
    (hn : ∀ (Q' E' : Value → Shared → Prop), (∀ x h1, P x h1 → Q' x { s with heap := h1 }) → wpAny (model prog w) A.in1 (Builtin.SmallTypes.nextOf (.ref it)) Q' E' s)
    (hP : ∀ x h1, P x h1 → IsEnum h1 e it i old)
    (hQ : ∀ x h1 h', P x h1 → IsEnumOut h' e it ((i : Int) + 1) x h1.objs.size → h'.get? h1.objs.size = some { cls := .type "tuple", data := .seq #[.int i s.toks, x] } → h'.objs.size = h1.objs.size + 1 →
      (∀ b o, b ≠ e → h1.get? b = some o → h'.get? b = some o) → Q (some (.ref h1.objs.size)) { s with heap := h', toks := s.toks + 1 }) :
    wpAny (model prog w) A (pyNext (.ref e)) Q E s := by
  have hT : s.TypeIs (.ref e) "enumerate" := ⟨_, he, rfl⟩
  unfold pyNext
  exact wpAny_bind (wpAny_attempt (wpAny_callSpecial?_slot (name := Str.ofString "__next__") hT F.slot_enumerate_next
    (wpAny_call_entry F.slot_enumerate_next hT F.entry_enumerate_next
      (enum_next_of he (fun Q' h => hn Q' _ h) hP fun x h1 h' a b c d k => wpAny_pure (hQ x h1 h' a b c d k)) (F.args_enumerate_next_1 _))))
theorem pyNext_enum_end {e it : Addr} {i : Int} {old : Value} {P : Heap → Prop} {Q : Option Value → Shared → Prop} (he : IsEnum s.heap e it i old)
    (hn : ∀ (Q' E' : Value → Shared → Prop), (∀ h' e, P h' → (∃ o, h'.get? e = some o ∧ o.cls = .type "StopIteration") → E' (.ref e) { s with heap := h' }) → wpAny (model prog w) A.in1 (Builtin.SmallTypes.nextOf (.ref it)) Q' E' s)
    (hQ : ∀ h', P h' → Q none { s with heap := h' }) : wpAny (model prog w) A (pyNext (.ref e)) Q E s := by
  have hT : s.TypeIs (.ref e) "enumerate" := ⟨_, he, rfl⟩
  unfold pyNext
  refine wpAny_bind (wpAny_attempt (wpAny_callSpecial?_slot (name := Str.ofString "__next__") hT F.slot_enumerate_next
    (wpAny_call_entry F.slot_enumerate_next hT F.entry_enumerate_next ?_ (F.args_enumerate_next_1 _))))
  show wpAny _ _ (field (.ref e) 2 >>= _) _ _ _
  refine wpAny_bind (wpAny_field he rfl (x := .ref it) rfl ?_)
  refine wpAny_bind (hn _ _ fun h' x he' hx' => ?_)
  obtain ⟨o, ho, hc⟩ := hx'
  refine wpAny_bind (wpAny_isInstance (T := "StopIteration") (b := true) ⟨o, ho, hc⟩ isSubtype_stop ?_)
  exact wpAny_pure (hQ _ he')
end
theorem meets_enumZ (z : Addr) :
    Meets (Builtin.«enumerate.__new__» ⟨[.type "enumerate", .ref z], []⟩) (fun _ R s => (∃ TI TO, IsZip s.heap z TI TO .none) ∧
      R (.ok (.ret (.ref s.heap.objs.size))) { s with heap := s.heap.push { cls := .type "enumerate", data := .fields #[.none, .bool false, .ref z, rawInt 0, .none, .none] } }) :=
  .of_wp fun prog w A R s h => by
    obtain ⟨hp, g, d, tk, os⟩ := s; obtain ⟨⟨TI, TO, h1⟩, h⟩ := h
    have hsub := sub_enumerate
    have q1 : ∀ {A' : Around} {E : Value → Shared → Prop} {Q : Value → Shared → Prop}, Q (.ref z) ⟨hp, g, d, tk, os⟩ → wpAny (model prog w) A' (pyIter (.ref z)) Q E ⟨hp, g, d, tk, os⟩ :=
      fun q => wpAny_pyIter_zip (s := ⟨hp, g, d, tk, os⟩) h1 q
    wp_walk using q1
    refine wpAny_stack_any fun st => wpAny_pure ?_
    split
    · rename_i c _ _ _ _ _
      cases (c == Value.type "enumerate")
      · wp_walk using q1
        exact ⟨_, rfl, h⟩
      · wp_walk using q1
        exact ⟨_, rfl, h⟩
    · wp_walk using q1
      exact ⟨_, rfl, h⟩
theorem call_enumZ {prog : Program} {w : World} {A : Around} {E : Value → Shared → Prop} {s : Shared} {z TI TO : Addr} {Q : Value → Shared → Prop} (h1 : IsZip s.heap z TI TO .none)
    (h : ∀ h', IsEnum h' s.heap.objs.size z 0 .none → h'.objs.size = s.heap.objs.size + 1 → (∀ b o, s.heap.get? b = some o → h'.get? b = some o) →
      Q (.ref s.heap.objs.size) { s with heap := h' }) : wpAny (model prog w) A (call (.type "enumerate") [.ref z]) Q E s := by
  refine callType_new F.called_enumerate (by decide) (F.typeCall_enumerate_1 _) (F.newCall_enumerate_1 _) (fun obj => F.args_object_init_2 obj _) F.entry_enumerate_new (meets_enumZ z) ⟨⟨TI, TO, h1⟩, ?_⟩
  show _ ∧ _
  have he := Heap.get?_push_size s.heap (o := { cls := .type "enumerate", data := .fields #[.none, .bool false, .ref z, rawInt 0, .none, .none] }) rfl
  exact ⟨⟨_, he, rfl⟩, h _ he (Heap.size_push ..) fun c u x => Heap.get?_push_of_some _ x⟩
end Dn
/-! DenZ2: the loop rule over enumerate(zip(list, list)). -/
namespace Dn
open PySem PySem.Spec PyProof.Rows L2
def tForZ (K : PySem.W.Frag) (ta : TA) (g : TG) (tb : TS) : TS := fun D σ H => ta σ H fun vs H1 => ∃ a c xs ys, vs = [.ref a, .ref c] ∧ SqL K H1 a xs ∧ SqL K H1 c ys ∧
  ∃ W : Nat → Nat → Option Addr → L2.St → Hp → Prop, (∃ m, W 0 m none σ H1) ∧ ∀ i m t σ H, W i m t σ H →
    SqL K H a xs ∧ SqL K H c ys ∧ (∀ T, t = some T → ∃ l, H T = some (.tup l)) ∧
    ((i = min xs.length ys.length ∧ D.nx σ H) ∨ ∃ x y, xs[i]? = some x ∧ ys[i]? = some y ∧ ∀ T U, H T = none → H U = none → T ≠ U →
      ∃ N : L2.St → Hp → Prop, (∀ σ' H', N σ' H' → ∃ m', m' < m ∧ W (i + 1) m' (some (t.getD T)) σ' H') ∧
        g (.ref U) σ (upd (upd H T (.tup [x, y])) U (.tup [.int (i : Nat), .ref T])) fun σ2 H2 => tb { D with nx := N, ct := N, bk := D.nx } σ2 H2)
def ZTn (e z TI TO i1 i2 a c : Addr) (i : Nat) (t : Option Addr) (h : Heap) : Prop := (∃ old, IsEnum h e z ((i : Nat) : Int) old) ∧ ZSt h z TI TO i1 i2 a c i t
theorem ZTn.live {h : Heap} {e z TI TO i1 i2 a c : Addr} {i : Nat} {t : Option Addr} (st : ZTn e z TI TO i1 i2 a c i t h) : ∀ b ∈ [e, z, TI, TO, i1, i2], ∃ o, h.get? b = some o ∧ ∀ v, o.data ≠ .cell v := fun b hb => by
  rcases List.mem_cons.mp hb with q | q
  · subst q; obtain ⟨old, x⟩ := st.1; exact ⟨_, x, fun v q => nomatch q⟩
  · exact st.2.live b q
theorem ZTn.keep {h h' : Heap} {e z TI TO i1 i2 a c : Addr} {i : Nat} {t : Option Addr} (st : ZTn e z TI TO i1 i2 a c i t h) (k : ∀ b ∈ [e, z, TI, TO, i1, i2], ∀ o, h.get? b = some o → h'.get? b = some o) : ZTn e z TI TO i1 i2 a c i t h' := by
  obtain ⟨⟨old, x⟩, st⟩ := st
  exact ⟨⟨old, k e (by simp) _ x⟩, st.keep fun b hb o => k b (List.mem_cons_of_mem _ hb) o⟩
section
variable {X : Cx} {pins : List (Addr × Obj)} {σ : L2.St} {H : Hp} {s : Shared} {e z TI TO i1 i2 a c : Addr} {i : Nat} {t : Option Addr} {xs ys : List V} {E : Value → Shared → Prop}
theorem ztn_item {elts : List Expr} {kk : Nat} {tpos : Pos} {x y : V} (hc : X.calm = true) (D : ZipApart z TI TO i1 i2 a c) (he : e ∉ [z, TI, TO, i1, i2, a, c]) (I : Inv X pins σ H s) (hf : ∀ b ∈ [e, z, TI, TO, i1, i2], FpOk X pins H b) (st : ZTn e z TI TO i1 i2 a c i t s.heap)
    (hT : ∀ T, t = some T → ∃ l, H T = some (.tup l)) (hl1 : SqL X.K H a xs) (hl2 : SqL X.K H c ys) (hx : xs[i]? = some x) (hy : ys[i]? = some y) :
    wpAny (model X.prog X.w) X.A (pyNext (.ref e)) (fun r s1 => ∃ u, r = some u ∧ wpAny (model X.prog X.w) X.A (letOwnedTupleGo (.Tuple elts kk tpos) (.ref e) u) (fun _ s2 => ∃ T U, u = .ref U ∧ H T = none ∧ H U = none ∧ T ≠ U ∧
      Inv X pins σ (upd (upd H T (.tup [x, y])) U (.tup [.int (i : Nat), .ref T])) s2 ∧ ZTn e z TI TO i1 i2 a c (i + 1) (some (t.getD T)) s2.heap ∧ ∀ b ∈ [e, z, TI, TO, i1, i2], (upd (upd H T (.tup [x, y])) U (.tup [.int (i : Nat), .ref T])) b = none) E s1) E s := by
  obtain ⟨⟨old, hen⟩, zs⟩ := st
  obtain ⟨its, rv, p1, al⟩ := I.list hl1
  obtain ⟨jts, rw', p2, cl⟩ := I.list hl2
  obtain ⟨u, hu, ru⟩ := rv.get hx
  obtain ⟨u2, hu2, ru2⟩ := rw'.get hy
  have hT' : ∀ T, t = some T → ∃ o, s.heap.get? T = some o := fun T q => by
    obtain ⟨l, hl⟩ := hT T q
    obtain ⟨_, _, ⟨o, ho, _⟩, _⟩ := I.tuple (SqT.of (K := X.K) hl)
    exact ⟨o, ho⟩
  have hel : e < s.heap.objs.size := Heap.lt_size hen
  have lt : ∀ b ∈ [e, z, TI, TO, i1, i2], b < s.heap.objs.size := fun b hb => by
    obtain ⟨o, ho, _⟩ := ZTn.live (e := e) ⟨⟨old, hen⟩, zs⟩ b hb
    exact Heap.lt_size ho
  have e1 : e ≠ z := fun q => he (by simp [q])
  have e3 : e ≠ TO := fun q => he (by simp [q])
  have e4 : e ≠ i1 := fun q => he (by simp [q])
  have e5 : e ≠ i2 := fun q => he (by simp [q])
  refine pyNext_enum_of (P := fun v h1 => v = .ref s.heap.objs.size ∧ ZSt h1 z TI TO i1 i2 a c (i + 1) (some (t.getD s.heap.objs.size)) ∧ IsPair h1 s.heap.objs.size u u2 ∧ h1.objs.size = s.heap.objs.size + 1 ∧
      ∀ c o, c ≠ z → c ≠ TO → c ≠ i1 → c ≠ i2 → s.heap.get? c = some o → h1.get? c = some o) hen (fun Q' E' q => nextOf_zip_item D zs hT' p1.isList p2.isList (by simpa using hu) (by simpa using hu2) fun h' q1 q2 q3 q4 => q _ h' ⟨rfl, q1, q2, q3, q4⟩)
    (fun v h1 hp => hp.2.2.2.2 e _ e1 e3 e4 e5 hen) ?_
  rintro v h1 h' ⟨rfl, z1, hp, hsz, hk⟩ ho hTu hsz' hk'
  refine ⟨_, rfl, wpAny_letOwnedTupleGo_enum (s := { s with heap := h', toks := s.toks + 1 }) ho fun h'' he' sb => ?_⟩
  have hN : s.heap.objs.size ≠ h1.objs.size := by rw [hsz]; exact Nat.ne_of_lt (Nat.lt_succ_self _)
  have hnN : H s.heap.objs.size = none := I.hok.fresh (Nat.le_refl _)
  have hnU : H h1.objs.size = none := I.hok.fresh (by rw [hsz]; exact Nat.le_succ _)
  have I1 : Inv X pins σ (upd H s.heap.objs.size (.tup [x, y])) { s with heap := h1, toks := s.toks + 1 } :=
    I.turnedNew (ch := [z, TO, i1, i2]) (fun b o hb q => hk b o (fun q' => hb (by simp [q'])) (fun q' => hb (by simp [q'])) (fun q' => hb (by simp [q'])) (fun q' => hb (by simp [q'])) q)
      (fun b hb => hf b (by simp only [List.mem_cons, List.not_mem_nil, or_false] at hb ⊢; rcases hb with q | q | q | q <;> simp [q])) (Nat.le_refl _) ⟨by show 2 ≤ sizeLine; decide, [u, u2], .cons ru (.cons ru2 .nil), ⟨_, hp, rfl, _, rfl⟩⟩
  have kk' : ∀ b o, b ≠ e → h1.get? b = some o → h''.get? b = some o := fun b o hb q => (sb.2 b hb).trans (hk' b o hb q)
  have hel1 : e < h1.objs.size := by rw [hsz]; exact Nat.lt_succ_of_lt hel
  have hf1 : ∀ b ∈ [e, z, TI, TO, i1, i2], FpOk X pins (upd H s.heap.objs.size (.tup [x, y])) b := fun b hb => ⟨by rw [upd_ne (Nat.ne_of_lt (lt b hb))]; exact (hf b hb).1, (hf b hb).2⟩
  have hT2 : h''.get? h1.objs.size = some { cls := .type "tuple", data := .seq #[.int i s.toks, .ref s.heap.objs.size] } := (sb.2 _ (Nat.ne_of_gt hel1)).trans hTu
  have I2 : Inv X pins σ (upd (upd H s.heap.objs.size (.tup [x, y])) h1.objs.size (.tup [.int (i : Nat), .ref s.heap.objs.size])) { s with heap := h'', toks := s.toks + 1 } :=
    I1.turnedNew (t' := s.toks + 1) (ch := [e]) (fun b o hb q => kk' b o (fun q' => hb (by simp [q'])) q) (fun b hb => hf1 b (by rw [List.mem_singleton.mp hb]; exact List.mem_cons_self ..)) (Nat.le_refl _)
      ⟨by show 2 ≤ sizeLine; decide, [.int i s.toks, .ref s.heap.objs.size], .cons ⟨_, rfl⟩ (.cons rfl .nil), ⟨_, hT2, rfl, _, rfl⟩⟩
  refine ⟨s.heap.objs.size, h1.objs.size, rfl, hnN, hnU, hN, I2, ⟨⟨.ref s.heap.objs.size, ?_⟩, z1.keep fun b hb o q => kk' b o (fun q' => he (by
    rw [← q']
    simp only [List.mem_cons, List.not_mem_nil, or_false] at hb ⊢
    rcases hb with w | w | w | w | w <;> simp [w])) q⟩, fun b hb => ?_⟩
  · have e1 : ((i + 1 : Nat) : Int) = (i : Int) + 1 := by omega
    rw [e1]
    exact he'
  · rw [upd_ne (Nat.ne_of_lt (by rw [hsz]; exact Nat.lt_succ_of_lt (lt b hb)))]
    exact (hf1 b hb).1
theorem ztn_done (hc : X.calm = true) (D : ZipApart z TI TO i1 i2 a c) (I : Inv X pins σ H s) (hf : ∀ b ∈ [e, z, TI, TO, i1, i2], FpOk X pins H b) (st : ZTn e z TI TO i1 i2 a c i t s.heap)
    (hT : ∀ T, t = some T → ∃ l, H T = some (.tup l)) (hl1 : SqL X.K H a xs) (hl2 : SqL X.K H c ys) (hi : i = min xs.length ys.length) :
    wpAny (model X.prog X.w) X.A (pyNext (.ref e)) (fun r s1 => r = none ∧ Inv X pins σ H s1) E s := by
  obtain ⟨⟨old, hen⟩, zs⟩ := st
  obtain ⟨its, rv, p1, al⟩ := I.list hl1
  obtain ⟨jts, rw', p2, cl⟩ := I.list hl2
  have l1 := rv.length
  have l2 := rw'.length
  have hT' : ∀ T, t = some T → ∃ o, s.heap.get? T = some o := fun T q => by
    obtain ⟨l, hl⟩ := hT T q
    obtain ⟨_, _, ⟨o, ho, _⟩, _⟩ := I.tuple (SqT.of (K := X.K) hl)
    exact ⟨o, ho⟩
  have hend : its.toArray[i]? = none ∨ jts.toArray[i]? = none := by
    rcases Nat.le_total xs.length ys.length with q | q
    · left; apply Array.getElem?_eq_none; rw [List.size_toArray]; omega
    · right; apply Array.getElem?_eq_none; rw [List.size_toArray]; omega
  exact pyNext_enum_end (P := fun h' => ∀ c o, c ≠ z → c ≠ TO → c ≠ i1 → c ≠ i2 → s.heap.get? c = some o → h'.get? c = some o) hen (fun Q' E' q => nextOf_zip_end (I.ok.hd hc) D zs hT' p1.isList p2.isList hend fun h' e k w => q h' e k w)
    fun h' hk => ⟨rfl, I.turnedL (t' := s.toks) (ch := [z, TO, i1, i2]) (fun b o hb q => hk b o (fun q' => hb (by simp [q'])) (fun q' => hb (by simp [q'])) (fun q' => hb (by simp [q'])) (fun q' => hb (by simp [q'])) q)
      fun b hb => hf b (by simp only [List.mem_cons, List.not_mem_nil, or_false] at hb ⊢; rcases hb with q | q | q | q <;> simp [q])⟩
end
theorem ps_forZ {X : Cx} {e1 e2 : Expr} {ta : TA} {p p2 pos1 pos2 tpos : Pos} {elts : List Expr} {kk : Nat} {body : List Stmt} {g : TG} {tb : TS} {pos : Pos} (hp : PassesOwn (model X.prog X.w) X.A X.env X.xe) (hc : X.calm = true)
    (hg1 : Gl X "enumerate") (hm1 : X.mg "enumerate" = none) (hg2 : Gl X "zip") (hm2 : X.mg "zip" = none) (ha : PA X [e1, e2] ta) (hg : PG X (.Tuple elts kk tpos) g) (hb : PSs X body tb)
    (hs2 : starEach [e1, e2] X.env = (false, eval e1 X.env) :: starEach [e2] X.env := by rfl) (hpl : (backTo pos2 (starEach [e2] X.env)).any (·.1) = false := by rfl)
    (hs1 : starEach [Expr.Call (.Name "zip" p2) [e1, e2] [] pos2] X.env = [(false, eval (.Call (.Name "zip" p2) [e1, e2] [] pos2) X.env)] := by rfl)
    (hs : ∀ x, foldedSetIterable (.Call (.Name "enumerate" p) [.Call (.Name "zip" p2) [e1, e2] [] pos2] [] pos1) X.env x = pure x := by intro _; rfl) :
    PS X (.For (.Tuple elts kk tpos) (.Call (.Name "enumerate" p) [.Call (.Name "zip" p2) [e1, e2] [] pos2] [] pos1) body [] pos) (tForZ X.K ta g tb) := by
  refine ⟨fun pins s σ H Dn I h => ?_⟩
  refine wpAny_For (Call_ (ld_blt I hg1 hm1 boot_enumerate (PyProof.Rows.callWith_type1 ?_ hs1 rfl))) hs
  rw [hs1]
  refine Calls.spliced_cons (Call_ (ld_blt I hg2 hm2 PyProof.Rows.boot_zip (PyProof.Rows.callWith_type1 (thn (ha.run pos2 pins s σ H _ I h) fun us s1 ⟨vs, H1, I1, r1, a, c, xs, ys, ex, hqx, hqy, q⟩ => ?_) hs2 hpl)))
  subst ex
  cases r1 with
  | cons r rr =>
    cases rr with
    | cons r' rr =>
      cases rr
      cases r
      cases r'
      obtain ⟨its, rv, p1, al⟩ := I1.list hqx
      obtain ⟨jts, rw', p2', cl⟩ := I1.list hqy
      refine call_zip_2 p1.isList p2'.isList fun h1 hz hTI hTO w1 w2 hsz hk => Calls.spliced_nil ?_
      refine call_enumZ (s := { s1 with heap := h1 }) hz fun h2 he hsz2 hk2 => wpAny_pyIter_enum he ?_
      have I2 : Inv X pins σ H1 { s1 with heap := h2 } := I1.kept (t' := s1.toks) fun b o q => hk2 b o (hk b o q)
      have D : ZipApart (s1.heap.objs.size + 4) (s1.heap.objs.size + 2) (s1.heap.objs.size + 3) s1.heap.objs.size (s1.heap.objs.size + 1) a c := by
        have al' : @LT.lt Nat _ a s1.heap.objs.size := p1.lt
        have cl' : @LT.lt Nat _ c s1.heap.objs.size := p2'.lt
        constructor <;> (show @Ne Nat _ _; omega)
      have he6 : h1.objs.size ∉ [s1.heap.objs.size + 4, s1.heap.objs.size + 2, s1.heap.objs.size + 3, s1.heap.objs.size, s1.heap.objs.size + 1, a, c] := by
        rw [hsz]
        simp only [List.mem_cons, List.not_mem_nil, or_false, not_or]
        have al' : @LT.lt Nat _ a s1.heap.objs.size := p1.lt
        have cl' : @LT.lt Nat _ c s1.heap.objs.size := p2'.lt
        refine ⟨?_, ?_, ?_, ?_, ?_, ?_, ?_⟩ <;> (intro q; have q' := @id (@Eq Nat _ _) q; omega)
      have f2 : ∀ b ∈ [h1.objs.size, s1.heap.objs.size + 4, s1.heap.objs.size + 2, s1.heap.objs.size + 3, s1.heap.objs.size, s1.heap.objs.size + 1], FpOk X pins H1 b := fun b hb => by
        have hle : s1.heap.objs.size ≤ b := by
          rw [hsz] at hb
          simp only [List.mem_cons, List.not_mem_nil, or_false] at hb
          show @LE.le Nat _ _ _
          rcases hb with q | q | q | q | q | q <;> (have q' := @id (@Eq Nat _ _) q; omega)
        exact I1.fpOk hle (I1.hok.fresh hle)
      obtain ⟨W, ⟨m0, w0⟩, turn⟩ := q
      have st2 : ZTn h1.objs.size (s1.heap.objs.size + 4) (s1.heap.objs.size + 2) (s1.heap.objs.size + 3) s1.heap.objs.size (s1.heap.objs.size + 1) a c 0 none h2 :=
        ⟨⟨.none, he⟩, ⟨hk2 _ _ hz, hk2 _ _ hTI, ⟨_, _, hk2 _ _ hTO⟩, w1.at fun o q => hk2 _ o q, w2.at fun o q => hk2 _ o q⟩⟩
      generalize hE : h1.objs.size = e at *
      generalize hZ : s1.heap.objs.size + 4 = z at *
      generalize hTI' : s1.heap.objs.size + 2 = TI at *
      generalize hTO' : s1.heap.objs.size + 3 = TO at *
      generalize hI2 : s1.heap.objs.size + 1 = i2 at *
      generalize hI1 : s1.heap.objs.size = i1 at *
      have stat : ∀ {H' : Hp}, (∀ b ∈ [e, z, TI, TO, i1, i2], H' b = none) → ∀ b ∈ [e, z, TI, TO, i1, i2], FpOk X pins H' b := fun hn b hb => ⟨hn b hb, (f2 b hb).2⟩
      refine codeAny_forLoop_any (fun n s' => ∃ i t σ' H', Inv X pins σ' H' s' ∧ ZTn e z TI TO i1 i2 a c i t s'.heap ∧ (∀ b ∈ [e, z, TI, TO, i1, i2], H' b = none) ∧ W i n t σ' H') ?_ m0 ⟨0, none, σ, H1, I2, st2, fun b hb => (f2 b hb).1, w0⟩
      rintro n s3 ⟨i, t, σ3, H3, I3, st3, fr3, w3⟩
      obtain ⟨ql1, ql2, hT, q3⟩ := turn i n t σ3 H3 w3
      rcases q3 with ⟨hi, qn⟩ | ⟨x, y, hx, hy, step⟩
      · refine wpAny_passesOwn hp (thn (ztn_done hc D I3 (stat fr3) st3 hT ql1 ql2 hi) fun r s4 ⟨hr, I4⟩ => ?_)
        subst hr
        exact wpAny_execs_nil ⟨σ3, H3, I4, qn⟩
      · refine wpAny_passesOwn hp (thn (ztn_item (elts := elts) (kk := kk) (tpos := tpos) hc D he6 I3 (stat fr3) st3 hT ql1 ql2 hx hy) fun r s4 ⟨u, hr, h4⟩ => ?_)
        subst hr
        refine wpAny_passesOwn hp (thn h4 fun _ s5 ⟨T, U, hu, nT, nU, nTU, I5, st5, fr5⟩ => ?_)
        subst hu
        obtain ⟨N, hN, stp⟩ := step T U nT nU nTU
        have I5' := I5.pinned (stat fr5) st5.live
        refine wpAny_passesOwn hp (thn (hg.run _ s5 σ3 _ (.ref U) (.ref U) _ I5' rfl stp) fun _ s6 ⟨σ6, H6, I6, q6⟩ => ?_)
        refine wpAny_passesOwn hp (thn (hb.run _ s6 σ6 H6 _ I6 q6) fun f s7 q7 => ?_)
        have again : ∀ {σ7 : L2.St} {H7 : Hp}, Inv X (pins ++ pinsAt [e, z, TI, TO, i1, i2] s5.heap) σ7 H7 s7 → N σ7 H7 → ∃ m, m < n ∧ ∃ i t σ' H', Inv X pins σ' H' s7 ∧ ZTn e z TI TO i1 i2 a c i t s7.heap ∧ (∀ b ∈ [e, z, TI, TO, i1, i2], H' b = none) ∧ W i m t σ' H' := fun {σ7 H7} I7 n7 => by
          obtain ⟨m', hm, w7⟩ := hN σ7 H7 n7
          refine ⟨m', hm, i + 1, some (t.getD T), σ7, H7, I7.unpinned, st5.keep fun b hb o e => (I7.pin (b, o) (List.mem_append_right _ (List.mem_append_right _ (mem_pinsAt hb e)))).1, fun b hb => ?_, w7⟩
          obtain ⟨o, e, d⟩ := st5.live b hb
          exact (I7.pin (b, o) (List.mem_append_right _ (List.mem_append_right _ (mem_pinsAt hb e)))).2.1
        cases f with
        | next => obtain ⟨σ7, H7, I7, n7⟩ := q7; exact again I7 n7
        | cont => obtain ⟨σ7, H7, I7, n7⟩ := q7; exact again I7 n7
        | brk => obtain ⟨σ7, H7, I7, q7⟩ := q7; exact ⟨σ7, H7, I7.unpinned, q7⟩
        | ret v => obtain ⟨x7, σ7, H7, I7, r7, q7⟩ := q7; exact ⟨x7, σ7, H7, I7.unpinned, r7, q7⟩
theorem k_forZ {X : Cx} {K : PySem.W.Frag} {e1 e2 : Expr} {ta : TA} {p p2 pos1 pos2 tpos : Pos} {elts : List Expr} {kk : Nat} {body : List Stmt} {g : TG} {tb : TS} {pos : Pos} (hp : PassesOwn (model X.prog X.w) X.A X.env X.xe) (hc : X.calm = true)
    (hg1 : Gl X "enumerate") (hm1 : X.mg "enumerate" = none) (hg2 : Gl X "zip") (hm2 : X.mg "zip" = none) (ha : PA X [e1, e2] ta) (hg : PG X (.Tuple elts kk tpos) g) (hb : PSs X body tb)
    (hs2 : starEach [e1, e2] X.env = (false, eval e1 X.env) :: starEach [e2] X.env := by rfl) (hpl : (backTo pos2 (starEach [e2] X.env)).any (·.1) = false := by rfl)
    (hs1 : starEach [Expr.Call (.Name "zip" p2) [e1, e2] [] pos2] X.env = [(false, eval (.Call (.Name "zip" p2) [e1, e2] [] pos2) X.env)] := by rfl)
    (hs : ∀ x, foldedSetIterable (.Call (.Name "enumerate" p) [.Call (.Name "zip" p2) [e1, e2] [] pos2] [] pos1) X.env x = pure x := by intro _; rfl) (e : X.K = K := by rfl) :
    PS X (.For (.Tuple elts kk tpos) (.Call (.Name "enumerate" p) [.Call (.Name "zip" p2) [e1, e2] [] pos2] [] pos1) body [] pos) (tForZ K ta g tb) := by subst e; exact ps_forZ hp hc hg1 hm1 hg2 hm2 ha hg hb hs2 hpl hs1 hs
end Dn
/-! DenZ3: the loop over enumerate(zip(list, list)), told by slots. -/
namespace Dn
open PySem L2
section
variable {W : Wd} {Γ : List Sl} {K : PySem.W.Frag} {ta : TA} {gg : TG} {t : TS} {P : Po}
theorem ec_forZ {ds es : List D} (h : EvAE W ta Γ [.dat (.lst ds), .dat (.lst es)]) (I : Nat → List Sl → Prop) (h0 : I 0 Γ)
    (hs : ∀ (i : Nat) (d e : D) Γ1, ds[i]? = some d → es[i]? = some e → I i Γ1 → ∃ js Γ2, TgE W gg js (.tup [.int (i : Nat), .tup [d, e]]) Γ1 Γ2 ∧ Ec W t Γ2 { nx := I (i + 1), ct := I (i + 1), bk := P.nx, rt := P.rt })
    (hd : ∀ Γ1, I (min ds.length es.length) Γ1 → P.nx Γ1) : Ec W (tForZ K ta gg t) Γ P := fun σ F H ko Z n r br c => by
  refine h σ F H ko _ fun vs F1 H1 g1 z => ?_
  cases z with
  | cons z1 z2 =>
    cases z2 with
    | cons z2 z3 =>
      cases z3
      cases (show Rep F1 _ (.lst ds) from z1) with
      | @lst a _ xs e1 r1 =>
        cases (show Rep F1 _ (.lst es) from z2) with
        | @lst a' _ ys e2 r2 =>
          refine ⟨_, _, _, _, rfl, SqL.of (g1.ok.le _ _ e1), SqL.of (g1.ok.le _ _ e2), fun i m t' σ' H' => m = min ds.length es.length - i ∧ i ≤ min ds.length es.length ∧ ∃ Γ1 F', Ok W Γ1 σ' F' H' ∧ Le F1 F' ∧ I i Γ1 ∧ ∀ T, t' = some T → ∃ l, F' T = some (.tup l),
            ⟨min ds.length es.length, rfl, Nat.zero_le _, Γ, F1, ko.gr g1, Le.refl _, h0, fun _ q => nomatch q⟩, ?_⟩
          rintro i m t' σ' H' ⟨rfl, hi, Γ1, F', k1, le1, hI, hT⟩
          refine ⟨SqL.of (k1.ok.le _ _ (le1 _ _ e1)), SqL.of (k1.ok.le _ _ (le1 _ _ e2)), fun T q => let ⟨l, e⟩ := hT T q; ⟨l, k1.ok.le _ _ e⟩, ?_⟩
          have q1 := r1.length
          have q2 := r2.length
          by_cases hlt : i < min ds.length es.length
          · have l1 : i < ds.length := by omega
            have l2 : i < es.length := by omega
            obtain ⟨v1, hv1, rv1⟩ := r1.get (List.getElem?_eq_getElem l1)
            obtain ⟨v2, hv2, rv2⟩ := r2.get (List.getElem?_eq_getElem l2)
            obtain ⟨js, Γ2, tg, body⟩ := hs i ds[i] es[i] Γ1 (List.getElem?_eq_getElem l1) (List.getElem?_eq_getElem l2) hI
            refine .inr ⟨v1, v2, hv1, hv2, fun T U nT nU nTU => ⟨fun σ2 H2 => ∃ Γ3 F3, Ok W Γ3 σ2 F3 H2 ∧ Le F1 F3 ∧ I (i + 1) Γ3 ∧ ∃ l, F3 (t'.getD T) = some (.tup l), fun σ2 H2 ⟨Γ3, F3, a, b, c, d⟩ => ⟨min ds.length es.length - (i + 1), by omega, rfl, hlt, Γ3, F3, a, b, c, fun T' q => by cases q; exact d⟩, ?_⟩⟩
            have gT : Gr W F' H' (upd F' T (.tup [v1, v2])) (upd H' T (.tup [v1, v2])) := Gr.new k1.ok nT
            have nU' : (upd H' T (.tup [v1, v2])) U = none := by rw [upd_ne (Ne.symm nTU)]; exact nU
            have gU := Gr.new (o := .tup [.int (i : Nat), .ref T]) gT.ok nU'
            have g2 := gT.trans gU
            have rT : Rep (upd (upd F' T (.tup [v1, v2])) U (.tup [.int (i : Nat), .ref T])) (.ref T) (.tup [ds[i], es[i]]) :=
              .tup ((upd_ne nTU).trans upd_same) (.cons ((rv1.mono le1).mono g2.ff) (.cons ((rv2.mono le1).mono g2.ff) .nil))
            have rU : Rep (upd (upd F' T (.tup [v1, v2])) U (.tup [.int (i : Nat), .ref T])) (.ref U) (.tup [.int (i : Nat), .tup [ds[i], es[i]]]) :=
              .tup upd_same (.cons (.int _) (.cons rT .nil))
            have hl : ∃ l, (upd (upd F' T (.tup [v1, v2])) U (.tup [.int (i : Nat), .ref T])) (t'.getD T) = some (.tup l) := by
              cases t' with
              | none => exact ⟨_, (upd_ne nTU).trans upd_same⟩
              | some T' => obtain ⟨l, e⟩ := hT T' rfl; exact ⟨l, g2.ff _ _ e⟩
            refine tg σ' _ _ _ (k1.gr g2) rU _ fun σ3 k3 _ => ?_
            exact body σ3 _ _ k3 _ (fun Γ' σ4 F4 H4 k4 l4 q4 => ⟨Γ', F4, k4, (le1.trans g2.ff).trans l4, q4, let ⟨l, e⟩ := hl; ⟨l, l4 _ _ e⟩⟩) r (fun Γ' σ4 F4 H4 k4 l4 q4 => n Γ' σ4 F4 H4 k4 ((g1.ff.trans (le1.trans g2.ff)).trans l4) q4)
              fun Γ' σ4 F4 H4 k4 l4 q4 => ⟨Γ', F4, k4, (le1.trans g2.ff).trans l4, q4, let ⟨l, e⟩ := hl; ⟨l, l4 _ _ e⟩⟩
          · have e : i = min ds.length es.length := by omega
            refine .inl ⟨by omega, n Γ1 σ' F' H' k1 (g1.ff.trans le1) (hd Γ1 (by rw [← e]; exact hI))⟩
end
end Dn
/-! DenC: name = {k: v for ..} on one line. -/
namespace Dn
open PySem PySem.Spec PyProof.Rows L2
theorem ps_setDc {X : Cx} {i : Nat} {y : Str} {py : Pos} {kx vx tg iter : Expr} {ifs : List Expr} {scope : Scope} {own : List (Str × Nat)} {pos spos : Pos} {wi : TI} {g : TG} {tt : TT} {tk tv : TE} (hc : X.calm = true) (hN : X.N.Nodup) (hy : X.N[i]? = some y) (hyl : X.env.scope.names.lookup y = some .local)
    (hsw : swapsWith (.DictComp kx vx [⟨tg, iter, ifs, 0⟩] scope pos) (some (.Name y py)) spos.line X.env = pure true) (hi : PI X tg iter wi) (ok : BlkOk X.N X.env.scope scope own)
    (hg : ∀ (s : Shared) (H : Hp) (C : Addr) (cl : List (Str × Addr)) (fp : List Addr), PG (X.blk s H scope (compEnvC scope cl C X.env) fp) tg g) (ht : ∀ (s : Shared) (H : Hp) (C : Addr) (cl : List (Str × Addr)) (fp : List Addr), PTs (X.blk s H scope (compEnvC scope cl C X.env) fp) ifs tt)
    (hk : ∀ (s : Shared) (H : Hp) (C : Addr) (cl : List (Str × Addr)) (fp : List Addr), PE (X.blk s H scope (compEnvC scope cl C X.env) fp) kx tk)
    (he : ∀ (s : Shared) (H : Hp) (C : Addr) (cl : List (Str × Addr)) (fp : List Addr), PE (X.blk s H scope (compEnvC scope cl C X.env) fp) vx tv) (hs : ∀ x, foldedSetIterable iter X.env x = pure x := by intro _; rfl) :
    PS X (.Assign [.Name y py] (.DictComp kx vx [⟨tg, iter, ifs, 0⟩] scope pos) spos) (tAsg (tDc wi g tt tk tv (own.map (·.2))) (gName i)) := by
  refine ⟨fun pins s σ H D I h => ?_⟩
  rw [exec_Assign_Name_used _ _ _ _ hsw]
  refine wpAny_bind (wpAny_standAt (wpAny_bind ?_))
  show wpAny _ X.A (do let _ ← comprehension (.DictComp kx vx [⟨tg, iter, ifs, 0⟩] scope pos) scope X.env (firstIterPos [⟨tg, iter, ifs, 0⟩] pos) newDict false (eval iter X.env) (some (assign (.Name y py) X.env))) _ _ s
  have h : tDc wi g tt tk tv (own.map (·.2)) σ H (fun x H1 => gName i x σ H1 D.nx) := h
  refine wpAny_bind (thn (dc_core (Qf := fun _ s' => SP X pins D .next s') hc hN I hi ok hg ht hk he hs h fun L C s' m H' I' q hn f => ?_) fun _ s' hq => wpAny_pure (wpAny_pure hq))
  show wpAny _ _ (assign (.Name y py) X.env (.ref L)) _ _ _
  refine wpAny_assign_Name (store_ok2 (v := V.ref L) I' hN hy (.inl hyl) rfl (fun s2 I2 ⟨a, sb, ha⟩ => ?_) (.inr hyl))
  obtain ⟨f0, f1, f2, f3, f4, f5⟩ := f
  have haC : C ≠ a := by
    rcases ha with z | z
    · rw [z]; exact f1
    · exact fun e => f4 y a z e.symm
  refine ⟨m, hn.sameBut sb haC, fun h3 sb3 => ?_⟩
  exact ⟨_, H', I2.turned (t' := s2.toks) (fun b o hb e => (sb3.2 b hb).trans e) f0 f1 f3 f4 f5, q⟩
end Dn
/-! DenT: slices of tuples; starred items of a display. -/
namespace Dn
open PySem L2
section
variable {W : Wd} {Γ : List Sl} {K : PySem.W.Frag} {te : TE} {t : TA}
theorem ev_slT {tl th : TO} {ds : List D} {lo hi : Option Int} (h : EvE W te Γ (.dat (.tup ds))) (h1 : EvO W tl Γ lo) (h2 : EvO W th Γ hi) (hw : ¬ (HT.sIx ds.length 0 lo = 0 ∧ HT.sIx ds.length ds.length hi = ds.length)) :
    EvE W (tSl (rSlA K) te tl th) Γ (.dat (.tup ((ds.drop (HT.sIx ds.length 0 lo)).take (HT.sIx ds.length ds.length hi - HT.sIx ds.length 0 lo)))) := fun σ F H k Q q =>
  h σ F H k _ fun x F1 H1 g1 z1 => h1 σ F1 H1 (k.gr g1) _ fun F2 H2 g2 => h2 σ F2 H2 ((k.gr g1).gr g2) _ fun F3 H3 g3 => by
    have gg := (g1.trans g2).trans g3
    cases (show Rep F1 x (.tup ds) from z1) with
    | @tup a xs _ e r =>
      have r3 : Reps F3 xs ds := (r.mono g2.ff).mono g3.ff
      refine ⟨a, xs, rfl, SqT.of (g3.ok.le _ _ (g3.ff _ _ (g2.ff _ _ e))), fun c => absurd (by rw [← r.length]; exact c) hw, fun _ p hp => ?_⟩
      have g4 := Gr.new (o := .tup (cutV xs lo hi)) g3.ok hp
      exact q _ _ _ (gg.trans g4) (.tup upd_same (cut_rep (r3.mono g4.ff)))
theorem slvs_reps {H F' H' : Hp} : ∀ {xs : List V} {ds : List D}, Reps F' xs ds → SlVs W H F' H' xs (ds.map Sl.dat)
  | _, _, .nil => .nil
  | _, _, .cons a r => .cons a (slvs_reps r)
theorem slvs_appD {H F' H' : Hp} : ∀ {vs zs : List V} {as ks : List Sl}, SlVs W H F' H' vs as → SlVs W H F' H' zs ks → SlVs W H F' H' (vs ++ zs) (as ++ ks)
  | _, _, _, _, .nil, h => h
  | _, _, _, _, .cons a r, h => .cons a (slvs_appD r h)
theorem ea_star {ds : List D} {ss : List Sl} (h : EvE W te Γ (.dat (.tup ds))) (h2 : EvAE W t Γ ss) : EvAE W (StX.tStar K te t) Γ (ds.map Sl.dat ++ ss) := fun σ F H k Q q =>
  h σ F H k _ fun x F1 H1 g1 z1 => by
    cases (show Rep F1 x (.tup ds) from z1) with
    | @tup a xs _ e r =>
      refine ⟨a, xs, rfl, .inl (SqT.of (g1.ok.le _ _ e)), h2 σ F1 H1 (k.gr g1) _ fun ys F2 H2 g2 z2 => ?_⟩
      exact q _ F2 H2 (g1.trans g2) (slvs_appD (slvs_reps (r.mono g2.ff)) (z2.back fun a => g1.no))
end
end Dn
/-! DenL: [e for x in xs for y in ys(x)], both names plain. -/
namespace Dn
open PySem L2
theorem flat_take {α β : Type} {ys : α → List β} {xs : List α} {i : Nat} {x : α} (h : xs[i]? = some x) : (xs.take (i + 1)).flatMap ys = (xs.take i).flatMap ys ++ ys x := by
  rw [take_snoc h, List.flatMap_append]
  simp
theorem flat_len_le {α β : Type} {ys : α → List β} : ∀ {xs : List α} {n : Nat}, (∀ x ∈ xs, (ys x).length ≤ n) → (xs.flatMap ys).length ≤ xs.length * n
  | [], n, _ => Nat.zero_le _
  | x :: xs, n, h => by
    rw [List.flatMap_cons, List.length_append, List.length_cons, Nat.succ_mul]
    have := h x (List.mem_cons_self ..)
    have := flat_len_le (xs := xs) (n := n) fun y hy => h y (List.mem_cons_of_mem _ hy)
    omega
section
variable {W : Wd} {Γ : List Sl}
theorem ev_lc2 {α β : Type} {wi wi1 : TI} {te : TE} {i0 i1 : Nat} {vs vs1 : List Nat} (xs : List α) (f : α → D) (ys : α → List β) (fy : β → D) (e : α → β → D) (h : ItE W wi Γ (xs.map f)) (hl : (xs.flatMap fun x => (ys x).map (e x)).length ≤ 1000)
    (h0 : i0 ∈ vs) (h1 : i1 ∈ vs1)
    (hs : ∀ (i : Nat) (x : α), xs[i]? = some x → ItE W wi1 ((wipeG Γ vs).set i0 (.dat (f x))) ((ys x).map fy) ∧ ∀ (j : Nat) (y : β), (ys x)[j]? = some y → EvE W te ((wipeG ((wipeG Γ vs).set i0 (.dat (f x))) vs1).set i1 (.dat (fy y))) (.dat (e x y))) :
    EvE W (tLc2 wi (gName i0) tYes wi1 (gName i1) tYes te vs vs1) Γ (.own (.lst (xs.flatMap fun x => (ys x).map (e x)))) := fun σ F H k Q q => by
  refine h σ F H k _ fun J F1 H1 ds g1 hS hJ Dl hD => ?_
  subst hS
  have hDH : H Dl = none := g1.no hD
  have hm : ¬ W.M Dl := fun m => k.ok.mh Dl m hDH
  refine ⟨fun i m H' => m = xs.length - i ∧ i ≤ xs.length ∧ ∃ F' acc, Gr W F H F' H' ∧ Le F1 F' ∧ F' Dl = none ∧ H' Dl = some (.lst acc) ∧ Reps F' acc ((xs.take i).flatMap fun x => (ys x).map (e x)),
    ⟨xs.length, rfl, Nat.zero_le _, F1, [], g1.put k.ok hDH (g1.ok.le.no hD), Le.refl _, g1.ok.le.no hD, upd_same, .nil⟩, ?_⟩
  rintro i m H' ⟨rfl, hi, F', acc, g', le', fD, hDl, rp⟩
  obtain ⟨hgo, hst⟩ := hJ i F' H' g'.ok le'
  by_cases hlt : i < xs.length
  · have hx : xs[i]? = some xs[i] := List.getElem?_eq_getElem hlt
    generalize xs[i] = x at hx
    obtain ⟨hs1, hs2⟩ := hs i x hx
    obtain ⟨go, yl⟩ := hgo (f x) (by rw [List.getElem?_map, hx]; rfl)
    have hlen : ∀ j, ((xs.take i).flatMap fun x => (ys x).map (e x)).length + ((ys x).take j).length ≤ 1000 := fun j => by
      have e1 : (xs.flatMap fun x => (ys x).map (e x)) = (xs.take i).flatMap (fun x => (ys x).map (e x)) ++ ((ys x).map (e x) ++ (xs.drop (i + 1)).flatMap fun x => (ys x).map (e x)) := by
        conv => lhs; rw [split_at hx, List.flatMap_append, List.flatMap_cons]
      rw [e1, List.length_append, List.length_append, List.length_map] at hl
      rw [List.length_take]
      omega
    refine .inr ⟨go, fun H2 => i + 1 ≤ xs.length ∧ ∃ F2 acc, Gr W F H F2 H2 ∧ Le F1 F2 ∧ F2 Dl = none ∧ H2 Dl = some (.lst acc) ∧ Reps F2 acc ((xs.take (i + 1)).flatMap fun x => (ys x).map (e x)), fun H2 ⟨a, b⟩ => ⟨xs.length - (i + 1), by omega, rfl, a, b⟩, fun v H2 y => ?_⟩
    obtain ⟨F2, g2, rx⟩ := yl v H2 y
    have kk : ∀ {F' H'}, Gr W F H F' H' → Le F2 F' → Ok W ((wipeG Γ vs).set i0 (.dat (f x))) ((L2.wipe σ vs).set i0 (some v)) F' H' := fun {F' H'} g l =>
      ((k.gr g).wipe vs).set (s := .dat (f x)) (.refl g.ok) (rx.mono l) (fun _ h => nomatch h) i0
    have gg2 := g'.trans g2
    refine ⟨wipe_back ⟨List.length_set .., fun j hj => List.getElem?_set_ne fun e => hj (by rw [e]; exact List.mem_singleton.mpr rfl)⟩ (js := [i0]) fun j hj => by rw [List.mem_singleton.mp hj]; exact h0, ?_⟩
    refine et_yes _ F2 H2 (kk gg2 (Le.refl _)) _ fun F3 H3 g3 => ?_
    rw [if_pos rfl]
    have gg3 := gg2.trans g3
    refine hs1 _ F3 H3 (kk gg3 g3.ff) _ fun J1 F4 H4 ds1 g4 hS1 hJ1 => ?_
    subst hS1
    have gg4 := gg3.trans g4
    have fD4 : F4 Dl = none := ((g2.trans g3).trans g4).out fD hDl
    have hD4 : H4 Dl = some (.lst acc) := ((g2.trans g3).trans g4).kp Dl _ hDl hm
    refine ⟨fun j k' H5 => k' = (ys x).length - j ∧ j ≤ (ys x).length ∧ ∃ F5 acc, Gr W F H F5 H5 ∧ Le F4 F5 ∧ F5 Dl = none ∧ H5 Dl = some (.lst acc) ∧ Reps F5 acc (((xs.take i).flatMap fun x => (ys x).map (e x)) ++ ((ys x).take j).map (e x)),
      ⟨(ys x).length, rfl, Nat.zero_le _, F4, acc, gg4, Le.refl _, fD4, hD4, by rw [List.take_zero, List.map_nil, List.append_nil]; exact rp.mono ((g2.trans g3).trans g4).ff⟩, ?_⟩
    rintro j k' H5 ⟨rfl, hj, F5, acc5, g5, le5, fD5, hD5, rp5⟩
    obtain ⟨hgo1, hst1⟩ := hJ1 j F5 H5 g5.ok le5
    by_cases hlt1 : j < (ys x).length
    · have hy : (ys x)[j]? = some (ys x)[j] := List.getElem?_eq_getElem hlt1
      generalize (ys x)[j] = y at hy
      obtain ⟨go1, yl1⟩ := hgo1 (fy y) (by rw [List.getElem?_map, hy]; rfl)
      refine .inr ⟨go1, fun H6 => j + 1 ≤ (ys x).length ∧ ∃ F6 acc, Gr W F H F6 H6 ∧ Le F4 F6 ∧ F6 Dl = none ∧ H6 Dl = some (.lst acc) ∧ Reps F6 acc (((xs.take i).flatMap fun x => (ys x).map (e x)) ++ ((ys x).take (j + 1)).map (e x)), fun H6 ⟨a, b⟩ => ⟨(ys x).length - (j + 1), by omega, rfl, a, b⟩, fun u H6 z => ?_⟩
      obtain ⟨F6, g6, ru⟩ := yl1 u H6 z
      have gg6 := g5.trans g6
      have l26 : Le F2 F6 := ((g3.trans g4).ff.trans le5).trans g6.ff
      have k6 := (((kk gg6 l26)).wipe vs1).set (s := .dat (fy y)) (.refl gg6.ok) ru (fun _ h => nomatch h) i1
      refine ⟨wipe_back ⟨List.length_set .., fun j hj => List.getElem?_set_ne fun e => hj (by rw [e]; exact List.mem_singleton.mpr rfl)⟩ (js := [i1]) fun j hj => by rw [List.mem_singleton.mp hj]; exact h1, ?_⟩
      refine et_yes _ F6 H6 k6 _ fun F7 H7 g7 => ?_
      rw [if_pos rfl]
      refine hs2 j y hy _ F7 H7 (k6.gr g7) _ fun w F8 H8 g8 rw8 => ?_
      have gx := (g6.trans g7).trans g8
      have fD8 : F8 Dl = none := gx.out fD5 hD5
      refine ⟨acc5, gx.kp Dl _ hD5 hm, ?_, hlt1, F8, acc5 ++ [w], (g5.trans gx).put k.ok hDH fD8, le5.trans gx.ff, fD8, upd_same, ?_⟩
      · rw [rp5.length, List.length_append, List.length_map]
        exact Nat.lt_of_le_of_lt (hlen j) (by decide)
      · rw [take_snoc hy, List.map_append, ← List.append_assoc]
        exact (rp5.mono gx.ff).snoc rw8
    · have e : j = (ys x).length := by omega
      subst e
      refine .inl ⟨hst1 (by rw [List.length_map]), hlt, F5, acc5, g5, ?_, fD5, hD5, ?_⟩
      · exact (le'.trans ((g2.trans g3).trans g4).ff).trans le5
      · rw [flat_take hx]
        rw [List.take_length] at rp5
        exact rp5
  · have e : i = xs.length := by omega
    subst e
    refine .inl ⟨hst (by rw [List.length_map]), q _ F' H' g' ⟨Dl, rfl, hDH, fD, acc, hDl, ?_⟩⟩
    rw [List.take_length] at rp
    exact rp
end
end Dn
/-! Ctx: what the top of the program leaves. -/
namespace Sg
open PySem PySem.Spec PyProof.Rows L2 Dn
theorem room65 {k : Nat} {A : Around} (r : Room k A) : A.units + 65 < cLine := by have := r.un; omega
structure Gs (K : PySem.W.Frag) (mg : Str → Option Value) : Prop where
  f_len : mg "len" = none
  f_list : mg "list" = none
  f_tuple : mg "tuple" = none
  f_int : mg "int" = none
  f_str : mg "str" = none
  f_abs : mg "abs" = none
  f_sum : mg "sum" = none
  f_min : mg "min" = none
  f_max : mg "max" = none
  f_all : mg "all" = none
  f_isinstance : mg "isinstance" = none
  f_range : mg "range" = none
  f_sorted : mg "sorted" = none
  f_enumerate : mg "enumerate" = none
  f_zip : mg "zip" = none
  f_bool : mg "bool" = none
  g_GROUND : ∃ u, mg "GROUND" = some u ∧ RelV (.int (-1)) u
  g_Tracker : mg "Tracker" = some (.ref (He.ga K "Tracker"))
  cls_Tracker : Cls K (He.ga K "Tracker")
  mk_Tracker : Mk K (He.ga K "Tracker") (He.ma K (He.ga K "Tracker") "__init__")
  na_Tracker_circuit : NoAttr K (He.ga K "Tracker") "circuit"
  na_Tracker_delays : NoAttr K (He.ga K "Tracker") "delays"
  na_Tracker_origin : NoAttr K (He.ga K "Tracker") "origin"
  na_Tracker_driven : NoAttr K (He.ga K "Tracker") "driven"
  na_Tracker_known : NoAttr K (He.ga K "Tracker") "known"
  g_Settled : mg "Settled" = some (.ref (He.ga K "Settled"))
  cls_Settled : Cls K (He.ga K "Settled")
  mk_Settled : Mk K (He.ga K "Settled") (He.ma K (He.ga K "Settled") "__init__")
  na_Settled__circuit : NoAttr K (He.ga K "Settled") "_circuit"
  na_Settled__windows : NoAttr K (He.ga K "Settled") "_windows"
  na_Settled__driven : NoAttr K (He.ga K "Settled") "_driven"
  na_Settled__known : NoAttr K (He.ga K "Settled") "_known"
  na_Settled__values : NoAttr K (He.ga K "Settled") "_values"
  g_Clocked : mg "Clocked" = some (.ref (He.ga K "Clocked"))
  cls_Clocked : Cls K (He.ga K "Clocked")
  mk_Clocked : Mk K (He.ga K "Clocked") (He.ma K (He.ga K "Clocked") "__init__")
  na_Clocked__circuit : NoAttr K (He.ga K "Clocked") "_circuit"
  na_Clocked__period : NoAttr K (He.ga K "Clocked") "_period"
  na_Clocked__holds : NoAttr K (He.ga K "Clocked") "_holds"
  g_ClockedRun : mg "ClockedRun" = some (.ref (He.ga K "ClockedRun"))
  cls_ClockedRun : Cls K (He.ga K "ClockedRun")
  mk_ClockedRun : Mk K (He.ga K "ClockedRun") (He.ma K (He.ga K "ClockedRun") "__init__")
  na_ClockedRun__clocked : NoAttr K (He.ga K "ClockedRun") "_clocked"
  na_ClockedRun__circuit : NoAttr K (He.ga K "ClockedRun") "_circuit"
  na_ClockedRun__rows : NoAttr K (He.ga K "ClockedRun") "_rows"
  na_ClockedRun__edges : NoAttr K (He.ga K "ClockedRun") "_edges"
  na_ClockedRun__shakes : NoAttr K (He.ga K "ClockedRun") "_shakes"
  na_ClockedRun__places : NoAttr K (He.ga K "ClockedRun") "_places"
  na_ClockedRun__stored : NoAttr K (He.ga K "ClockedRun") "_stored"
  na_ClockedRun__tracker : NoAttr K (He.ga K "ClockedRun") "_tracker"
  g_bits_at : mg "bits_at" = some (.ref (He.ga K "bits_at"))
  d_bits_at : ∃ fd, FunD K "bits_at" "bits_at" (defArgs (top 10)) (defBody (top 10)) (defScope (top 10)) [] [] (He.ga K "bits_at") fd
  g_look_up : mg "look_up" = some (.ref (He.ga K "look_up"))
  d_look_up : ∃ fd, FunD K "look_up" "look_up" (defArgs (top 11)) (defBody (top 11)) (defScope (top 11)) [] [] (He.ga K "look_up") fd
  g_agrees : mg "agrees" = some (.ref (He.ga K "agrees"))
  d_agrees : ∃ fd, FunD K "agrees" "agrees" (defArgs (top 12)) (defBody (top 12)) (defScope (top 12)) [] [] (He.ga K "agrees") fd
  g_forced : mg "forced" = some (.ref (He.ga K "forced"))
  d_forced : ∃ fd, FunD K "forced" "forced" (defArgs (top 13)) (defBody (top 13)) (defScope (top 13)) [] [] (He.ga K "forced") fd
  g_sources : mg "sources" = some (.ref (He.ga K "sources"))
  d_sources : ∃ fd, FunD K "sources" "sources" (defArgs (top 15)) (defBody (top 15)) (defScope (top 15)) [] [] (He.ga K "sources") fd
  g_all_nets : mg "all_nets" = some (.ref (He.ga K "all_nets"))
  d_all_nets : ∃ fd, FunD K "all_nets" "all_nets" (defArgs (top 16)) (defBody (top 16)) (defScope (top 16)) [] [] (He.ga K "all_nets") fd
  g_check_net : mg "check_net" = some (.ref (He.ga K "check_net"))
  d_check_net : ∃ fd, FunD K "check_net" "check_net" (defArgs (top 17)) (defBody (top 17)) (defScope (top 17)) [] [] (He.ga K "check_net") fd
  g_drivers : mg "drivers" = some (.ref (He.ga K "drivers"))
  d_drivers : ∃ fd, FunD K "drivers" "drivers" (defArgs (top 18)) (defBody (top 18)) (defScope (top 18)) [] [] (He.ga K "drivers") fd
  g_gate_order : mg "gate_order" = some (.ref (He.ga K "gate_order"))
  d_gate_order : ∃ fd, FunD K "gate_order" "gate_order" (defArgs (top 19)) (defBody (top 19)) (defScope (top 19)) [] [] (He.ga K "gate_order") fd
  g_settle : mg "settle" = some (.ref (He.ga K "settle"))
  d_settle : ∃ fd, FunD K "settle" "settle" (defArgs (top 22)) (defBody (top 22)) (defScope (top 22)) [] [] (He.ga K "settle") fd
  g_start_state : mg "start_state" = some (.ref (He.ga K "start_state"))
  d_start_state : ∃ fd, FunD K "start_state" "start_state" (defArgs (top 23)) (defBody (top 23)) (defScope (top 23)) [] [] (He.ga K "start_state") fd
  g_in_window : mg "in_window" = some (.ref (He.ga K "in_window"))
  d_in_window : ∃ fd, FunD K "in_window" "in_window" (defArgs (top 25)) (defBody (top 25)) (defScope (top 25)) [] [] (He.ga K "in_window") fd
  g_check_delays : mg "check_delays" = some (.ref (He.ga K "check_delays"))
  d_check_delays : ∃ fd, FunD K "check_delays" "check_delays" (defArgs (top 27)) (defBody (top 27)) (defScope (top 27)) [] [] (He.ga K "check_delays") fd
  d_Tracker_init : ∃ fd, FunD K "__init__" "Tracker.__init__" (defArgs (inClass (top 28) 0)) (defBody (inClass (top 28) 0)) (defScope (inClass (top 28) 0)) [] [] (He.ma K (He.ga K "Tracker") "__init__") fd
  me_Tracker_value : Meth K (He.ga K "Tracker") "value" (He.ma K (He.ga K "Tracker") "value")
  d_Tracker_value : ∃ fd, FunD K "value" "Tracker.value" (defArgs (inClass (top 28) 1)) (defBody (inClass (top 28) 1)) (defScope (inClass (top 28) 1)) [] [] (He.ma K (He.ga K "Tracker") "value") fd
  d_Settled_init : ∃ fd, FunD K "__init__" "Settled.__init__" (defArgs (inClass (top 30) 0)) (defBody (inClass (top 30) 0)) (defScope (inClass (top 30) 0)) [] [] (He.ma K (He.ga K "Settled") "__init__") fd
  me_Settled__vectors : Meth K (He.ga K "Settled") "_vectors" (He.ma K (He.ga K "Settled") "_vectors")
  d_Settled__vectors : ∃ fd, FunD K "_vectors" "Settled._vectors" (defArgs (inClass (top 30) 2)) (defBody (inClass (top 30) 2)) (defScope (inClass (top 30) 2)) [] [] (He.ma K (He.ga K "Settled") "_vectors") fd
  me_Settled_settled_value : Meth K (He.ga K "Settled") "settled_value" (He.ma K (He.ga K "Settled") "settled_value")
  d_Settled_settled_value : ∃ fd, FunD K "settled_value" "Settled.settled_value" (defArgs (inClass (top 30) 3)) (defBody (inClass (top 30) 3)) (defScope (inClass (top 30) 3)) [] [] (He.ma K (He.ga K "Settled") "settled_value") fd
  me_Settled_fits : Meth K (He.ga K "Settled") "fits" (He.ma K (He.ga K "Settled") "fits")
  d_Settled_fits : ∃ fd, FunD K "fits" "Settled.fits" (defArgs (inClass (top 30) 4)) (defBody (inClass (top 30) 4)) (defScope (inClass (top 30) 4)) [] [] (He.ma K (He.ga K "Settled") "fits") fd
  me_Settled_marks : Meth K (He.ga K "Settled") "marks" (He.ma K (He.ga K "Settled") "marks")
  d_Settled_marks : ∃ fd, FunD K "marks" "Settled.marks" (defArgs (inClass (top 30) 5)) (defBody (inClass (top 30) 5)) (defScope (inClass (top 30) 5)) [] [] (He.ma K (He.ga K "Settled") "marks") fd
  me_Settled__loose_vectors : Meth K (He.ga K "Settled") "_loose_vectors" (He.ma K (He.ga K "Settled") "_loose_vectors")
  d_Settled__loose_vectors : ∃ fd, FunD K "_loose_vectors" "Settled._loose_vectors" (defArgs (inClass (top 30) 7)) (defBody (inClass (top 30) 7)) (defScope (inClass (top 30) 7)) [] [] (He.ma K (He.ga K "Settled") "_loose_vectors") fd
  me_Settled_loose_vector : Meth K (He.ga K "Settled") "loose_vector" (He.ma K (He.ga K "Settled") "loose_vector")
  d_Settled_loose_vector : ∃ fd, FunD K "loose_vector" "Settled.loose_vector" (defArgs (inClass (top 30) 9)) (defBody (inClass (top 30) 9)) (defScope (inClass (top 30) 9)) [] [] (He.ma K (He.ga K "Settled") "loose_vector") fd
  g_check_holds : mg "check_holds" = some (.ref (He.ga K "check_holds"))
  d_check_holds : ∃ fd, FunD K "check_holds" "check_holds" (defArgs (top 32)) (defBody (top 32)) (defScope (top 32)) [] [] (He.ga K "check_holds") fd
  g_check_pairs : mg "check_pairs" = some (.ref (He.ga K "check_pairs"))
  d_check_pairs : ∃ fd, FunD K "check_pairs" "check_pairs" (defArgs (top 33)) (defBody (top 33)) (defScope (top 33)) [] [] (He.ga K "check_pairs") fd
  d_Clocked_init : ∃ fd, FunD K "__init__" "Clocked.__init__" (defArgs (inClass (top 34) 0)) (defBody (inClass (top 34) 0)) (defScope (inClass (top 34) 0)) [] [] (He.ma K (He.ga K "Clocked") "__init__") fd
  d_Clocked_period : ∃ p a, PropOf K (He.ga K "Clocked") "period" p a ∧ ∃ fd, FunD K "period" "Clocked.period" (defArgs (inClass (top 34) 1)) (defBody (inClass (top 34) 1)) (defScope (inClass (top 34) 1)) [] [] (a) fd
  me_Clocked_is_clean : Meth K (He.ga K "Clocked") "is_clean" (He.ma K (He.ga K "Clocked") "is_clean")
  d_Clocked_is_clean : ∃ fd, FunD K "is_clean" "Clocked.is_clean" (defArgs (inClass (top 34) 2)) (defBody (inClass (top 34) 2)) (defScope (inClass (top 34) 2)) [] [] (He.ma K (He.ga K "Clocked") "is_clean") fd
  me_Clocked_circuit : Meth K (He.ga K "Clocked") "circuit" (He.ma K (He.ga K "Clocked") "circuit")
  d_Clocked_circuit : ∃ fd, FunD K "circuit" "Clocked.circuit" (defArgs (inClass (top 34) 3)) (defBody (inClass (top 34) 3)) (defScope (inClass (top 34) 3)) [] [] (He.ma K (He.ga K "Clocked") "circuit") fd
  me_Clocked_holds : Meth K (He.ga K "Clocked") "holds" (He.ma K (He.ga K "Clocked") "holds")
  d_Clocked_holds : ∃ fd, FunD K "holds" "Clocked.holds" (defArgs (inClass (top 34) 4)) (defBody (inClass (top 34) 4)) (defScope (inClass (top 34) 4)) [] [] (He.ma K (He.ga K "Clocked") "holds") fd
  me_Clocked_windows : Meth K (He.ga K "Clocked") "windows" (He.ma K (He.ga K "Clocked") "windows")
  d_Clocked_windows : ∃ fd, FunD K "windows" "Clocked.windows" (defArgs (inClass (top 34) 5)) (defBody (inClass (top 34) 5)) (defScope (inClass (top 34) 5)) [] [] (He.ma K (He.ga K "Clocked") "windows") fd
  me_Clocked_settled : Meth K (He.ga K "Clocked") "settled" (He.ma K (He.ga K "Clocked") "settled")
  d_Clocked_settled : ∃ fd, FunD K "settled" "Clocked.settled" (defArgs (inClass (top 34) 6)) (defBody (inClass (top 34) 6)) (defScope (inClass (top 34) 6)) [] [] (He.ma K (He.ga K "Clocked") "settled") fd
  me_Clocked__row : Meth K (He.ga K "Clocked") "_row" (He.ma K (He.ga K "Clocked") "_row")
  d_Clocked__row : ∃ fd, FunD K "_row" "Clocked._row" (defArgs (inClass (top 34) 7)) (defBody (inClass (top 34) 7)) (defScope (inClass (top 34) 7)) [] [] (He.ma K (He.ga K "Clocked") "_row") fd
  me_Clocked_needed : Meth K (He.ga K "Clocked") "needed" (He.ma K (He.ga K "Clocked") "needed")
  d_Clocked_needed : ∃ fd, FunD K "needed" "Clocked.needed" (defArgs (inClass (top 34) 8)) (defBody (inClass (top 34) 8)) (defScope (inClass (top 34) 8)) [] [] (He.ma K (He.ga K "Clocked") "needed") fd
  me_Clocked_violation : Meth K (He.ga K "Clocked") "violation" (He.ma K (He.ga K "Clocked") "violation")
  d_Clocked_violation : ∃ fd, FunD K "violation" "Clocked.violation" (defArgs (inClass (top 34) 9)) (defBody (inClass (top 34) 9)) (defScope (inClass (top 34) 9)) [] [] (He.ma K (He.ga K "Clocked") "violation") fd
  me_Clocked_violations : Meth K (He.ga K "Clocked") "violations" (He.ma K (He.ga K "Clocked") "violations")
  d_Clocked_violations : ∃ fd, FunD K "violations" "Clocked.violations" (defArgs (inClass (top 34) 10)) (defBody (inClass (top 34) 10)) (defScope (inClass (top 34) 10)) [] [] (He.ma K (He.ga K "Clocked") "violations") fd
  g_shifted : mg "shifted" = some (.ref (He.ga K "shifted"))
  d_shifted : ∃ fd, FunD K "shifted" "shifted" (defArgs (top 37)) (defBody (top 37)) (defScope (top 37)) [] [] (He.ga K "shifted") fd
  g_longest_sums : mg "longest_sums" = some (.ref (He.ga K "longest_sums"))
  d_longest_sums : ∃ fd, FunD K "longest_sums" "longest_sums" (defArgs (top 38)) (defBody (top 38)) (defScope (top 38)) [] [] (He.ga K "longest_sums") fd
  g_constraints : mg "constraints" = some (.ref (He.ga K "constraints"))
  d_constraints : ∃ fd, FunD K "constraints" "constraints" (defArgs (top 39)) (defBody (top 39)) (defScope (top 39)) [] [] (He.ga K "constraints") fd
  g_as_edge : mg "as_edge" = some (.ref (He.ga K "as_edge"))
  d_as_edge : ∃ fd, FunD K "as_edge" "as_edge" (defArgs (top 40)) (defBody (top 40)) (defScope (top 40)) [] [] (He.ga K "as_edge") fd
  g_relaxed : mg "relaxed" = some (.ref (He.ga K "relaxed"))
  d_relaxed : ∃ fd, FunD K "relaxed" "relaxed" (defArgs (top 41)) (defBody (top 41)) (defScope (top 41)) [] [] (He.ga K "relaxed") fd
  g_find_shifts : mg "find_shifts" = some (.ref (He.ga K "find_shifts"))
  d_find_shifts : ∃ fd, FunD K "find_shifts" "find_shifts" (defArgs (top 42)) (defBody (top 42)) (defScope (top 42)) [] [] (He.ga K "find_shifts") fd
  g_least_period : mg "least_period" = some (.ref (He.ga K "least_period"))
  d_least_period : ∃ fd, FunD K "least_period" "least_period" (defArgs (top 43)) (defBody (top 43)) (defScope (top 43)) [] [] (He.ga K "least_period") fd
  g_check_lists : mg "check_lists" = some (.ref (He.ga K "check_lists"))
  d_check_lists : ∃ fd, FunD K "check_lists" "check_lists" (defArgs (top 45)) (defBody (top 45)) (defScope (top 45)) [] [] (He.ga K "check_lists") fd
  d_ClockedRun_init : ∃ fd, FunD K "__init__" "ClockedRun.__init__" (defArgs (inClass (top 46) 0)) (defBody (inClass (top 46) 0)) (defScope (inClass (top 46) 0)) [] [] (He.ma K (He.ga K "ClockedRun") "__init__") fd
  me_ClockedRun__play : Meth K (He.ga K "ClockedRun") "_play" (He.ma K (He.ga K "ClockedRun") "_play")
  d_ClockedRun__play : ∃ fd, FunD K "_play" "ClockedRun._play" (defArgs (inClass (top 46) 1)) (defBody (inClass (top 46) 1)) (defScope (inClass (top 46) 1)) [] [] (He.ma K (He.ga K "ClockedRun") "_play") fd
  me_ClockedRun_edge_time : Meth K (He.ga K "ClockedRun") "edge_time" (He.ma K (He.ga K "ClockedRun") "edge_time")
  d_ClockedRun_edge_time : ∃ fd, FunD K "edge_time" "ClockedRun.edge_time" (defArgs (inClass (top 46) 2)) (defBody (inClass (top 46) 2)) (defScope (inClass (top 46) 2)) [] [] (He.ma K (He.ga K "ClockedRun") "edge_time") fd
  me_ClockedRun_source_value : Meth K (He.ga K "ClockedRun") "source_value" (He.ma K (He.ga K "ClockedRun") "source_value")
  d_ClockedRun_source_value : ∃ fd, FunD K "source_value" "ClockedRun.source_value" (defArgs (inClass (top 46) 3)) (defBody (inClass (top 46) 3)) (defScope (inClass (top 46) 3)) [] [] (He.ma K (He.ga K "ClockedRun") "source_value") fd
  me_ClockedRun__input_value : Meth K (He.ga K "ClockedRun") "_input_value" (He.ma K (He.ga K "ClockedRun") "_input_value")
  d_ClockedRun__input_value : ∃ fd, FunD K "_input_value" "ClockedRun._input_value" (defArgs (inClass (top 46) 4)) (defBody (inClass (top 46) 4)) (defScope (inClass (top 46) 4)) [] [] (He.ma K (He.ga K "ClockedRun") "_input_value") fd
  me_ClockedRun__output_value : Meth K (He.ga K "ClockedRun") "_output_value" (He.ma K (He.ga K "ClockedRun") "_output_value")
  d_ClockedRun__output_value : ∃ fd, FunD K "_output_value" "ClockedRun._output_value" (defArgs (inClass (top 46) 5)) (defBody (inClass (top 46) 5)) (defScope (inClass (top 46) 5)) [] [] (He.ma K (He.ga K "ClockedRun") "_output_value") fd
  me_ClockedRun_state : Meth K (He.ga K "ClockedRun") "state" (He.ma K (He.ga K "ClockedRun") "state")
  d_ClockedRun_state : ∃ fd, FunD K "state" "ClockedRun.state" (defArgs (inClass (top 46) 6)) (defBody (inClass (top 46) 6)) (defScope (inClass (top 46) 6)) [] [] (He.ma K (He.ga K "ClockedRun") "state") fd
  g__law_same : mg "_law_same" = some (.ref (He.ga K "_law_same"))
  d__law_same : ∃ fd, FunD K "_law_same" "_law_same" (defArgs (top 48)) (defBody (top 48)) (defScope (top 48)) [] [] (He.ga K "_law_same") fd
  g__law_pool : mg "_law_pool" = some (.ref (He.ga K "_law_pool"))
  d__law_pool : ∃ fd, FunD K "_law_pool" "_law_pool" (defArgs (top 49)) (defBody (top 49)) (defScope (top 49)) [] [] (He.ga K "_law_pool") fd
  g__law_spread : mg "_law_spread" = some (.ref (He.ga K "_law_spread"))
  d__law_spread : ∃ fd, FunD K "_law_spread" "_law_spread" (defArgs (top 50)) (defBody (top 50)) (defScope (top 50)) [] [] (He.ga K "_law_spread") fd
  g__law_draw : mg "_law_draw" = some (.ref (He.ga K "_law_draw"))
  d__law_draw : ∃ fd, FunD K "_law_draw" "_law_draw" (defArgs (top 51)) (defBody (top 51)) (defScope (top 51)) [] [] (He.ga K "_law_draw") fd
  g__law_names : mg "_law_names" = some (.ref (He.ga K "_law_names"))
  d__law_names : ∃ fd, FunD K "_law_names" "_law_names" (defArgs (top 52)) (defBody (top 52)) (defScope (top 52)) [] [] (He.ga K "_law_names") fd
  g__law_span : mg "_law_span" = some (.ref (He.ga K "_law_span"))
  d__law_span : ∃ fd, FunD K "_law_span" "_law_span" (defArgs (top 53)) (defBody (top 53)) (defScope (top 53)) [] [] (He.ga K "_law_span") fd
  g__law_gate : mg "_law_gate" = some (.ref (He.ga K "_law_gate"))
  d__law_gate : ∃ fd, FunD K "_law_gate" "_law_gate" (defArgs (top 54)) (defBody (top 54)) (defScope (top 54)) [] [] (He.ga K "_law_gate") fd
  g__law_times : mg "_law_times" = some (.ref (He.ga K "_law_times"))
  d__law_times : ∃ fd, FunD K "_law_times" "_law_times" (defArgs (top 55)) (defBody (top 55)) (defScope (top 55)) [] [] (He.ga K "_law_times") fd
  g__law_circuit : mg "_law_circuit" = some (.ref (He.ga K "_law_circuit"))
  d__law_circuit : ∃ fd, FunD K "_law_circuit" "_law_circuit" (defArgs (top 56)) (defBody (top 56)) (defScope (top 56)) [] [] (He.ga K "_law_circuit") fd
  g__law_sources : mg "_law_sources" = some (.ref (He.ga K "_law_sources"))
  d__law_sources : ∃ fd, FunD K "_law_sources" "_law_sources" (defArgs (top 57)) (defBody (top 57)) (defScope (top 57)) [] [] (He.ga K "_law_sources") fd
  g__law_sorted_gates : mg "_law_sorted_gates" = some (.ref (He.ga K "_law_sorted_gates"))
  d__law_sorted_gates : ∃ fd, FunD K "_law_sorted_gates" "_law_sorted_gates" (defArgs (top 59)) (defBody (top 59)) (defScope (top 59)) [] [] (He.ga K "_law_sorted_gates") fd
  g__law_settle : mg "_law_settle" = some (.ref (He.ga K "_law_settle"))
  d__law_settle : ∃ fd, FunD K "_law_settle" "_law_settle" (defArgs (top 60)) (defBody (top 60)) (defScope (top 60)) [] [] (He.ga K "_law_settle") fd
  g__law_vector : mg "_law_vector" = some (.ref (He.ga K "_law_vector"))
  d__law_vector : ∃ fd, FunD K "_law_vector" "_law_vector" (defArgs (top 61)) (defBody (top 61)) (defScope (top 61)) [] [] (He.ga K "_law_vector") fd
  g__law_delays : mg "_law_delays" = some (.ref (He.ga K "_law_delays"))
  d__law_delays : ∃ fd, FunD K "_law_delays" "_law_delays" (defArgs (top 65)) (defBody (top 65)) (defScope (top 65)) [] [] (He.ga K "_law_delays") fd
  g__law_clock : mg "_law_clock" = some (.ref (He.ga K "_law_clock"))
  d__law_clock : ∃ fd, FunD K "_law_clock" "_law_clock" (defArgs (top 71)) (defBody (top 71)) (defScope (top 71)) [] [] (He.ga K "_law_clock") fd
  g__law_windows : mg "_law_windows" = some (.ref (He.ga K "_law_windows"))
  d__law_windows : ∃ fd, FunD K "_law_windows" "_law_windows" (defArgs (top 72)) (defBody (top 72)) (defScope (top 72)) [] [] (He.ga K "_law_windows") fd
  g__law_bools : mg "_law_bools" = some (.ref (He.ga K "_law_bools"))
  d__law_bools : ∃ fd, FunD K "_law_bools" "_law_bools" (defArgs (top 75)) (defBody (top 75)) (defScope (top 75)) [] [] (He.ga K "_law_bools") fd
  g__law_choices : mg "_law_choices" = some (.ref (He.ga K "_law_choices"))
  d__law_choices : ∃ fd, FunD K "_law_choices" "_law_choices" (defArgs (top 76)) (defBody (top 76)) (defScope (top 76)) [] [] (He.ga K "_law_choices") fd
  g__law_trace : mg "_law_trace" = some (.ref (He.ga K "_law_trace"))
  d__law_trace : ∃ fd, FunD K "_law_trace" "_law_trace" (defArgs (top 77)) (defBody (top 77)) (defScope (top 77)) [] [] (He.ga K "_law_trace") fd
  g__law_sums : mg "_law_sums" = some (.ref (He.ga K "_law_sums"))
  d__law_sums : ∃ fd, FunD K "_law_sums" "_law_sums" (defArgs (top 78)) (defBody (top 78)) (defScope (top 78)) [] [] (He.ga K "_law_sums") fd
  g__law_constraints : mg "_law_constraints" = some (.ref (He.ga K "_law_constraints"))
  d__law_constraints : ∃ fd, FunD K "_law_constraints" "_law_constraints" (defArgs (top 79)) (defBody (top 79)) (defScope (top 79)) [] [] (He.ga K "_law_constraints") fd
  g__law_sides : mg "_law_sides" = some (.ref (He.ga K "_law_sides"))
  d__law_sides : ∃ fd, FunD K "_law_sides" "_law_sides" (defArgs (top 80)) (defBody (top 80)) (defScope (top 80)) [] [] (He.ga K "_law_sides") fd
  g__law_broken : mg "_law_broken" = some (.ref (He.ga K "_law_broken"))
  d__law_broken : ∃ fd, FunD K "_law_broken" "_law_broken" (defArgs (top 81)) (defBody (top 81)) (defScope (top 81)) [] [] (He.ga K "_law_broken") fd
  g__law_least_shifts : mg "_law_least_shifts" = some (.ref (He.ga K "_law_least_shifts"))
  d__law_least_shifts : ∃ fd, FunD K "_law_least_shifts" "_law_least_shifts" (defArgs (top 82)) (defBody (top 82)) (defScope (top 82)) [] [] (He.ga K "_law_least_shifts") fd
  g_law : mg "law" = some (.ref (He.ga K "law"))
  d_law : ∃ fd, FunD K "law" "law" (defArgs (top 84)) (defBody (top 84)) (defScope (top 84)) [] [] (He.ga K "law") fd
end Sg
/-! W1: the small defs of the tables and circuits. -/
namespace Sg
open PySem PySem.Spec PyProof.Rows L2 Dn
variable {P : Program} {w : World} {K : PySem.W.Frag} {mg : Str → Option Value} {base : Heap}
theorem shl1 (i : Nat) : (1 : Int) * 2 ^ ((i : Nat) : Int).toNat = ((2 ^ i : Nat) : Int) := by
  rw [Int.toNat_natCast, Int.one_mul, Int.natCast_pow]; rfl
theorem bit_py' (i k : Nat) : Builtin.bitAnd ((i : Int) / 2 ^ ((k : Nat) : Int).toNat) 1 = if bit i k then 1 else 0 := by
  have h := bit_py i k
  rw [Int.zero_add] at h
  have e : Builtin.bitAnd ((i : Int) / 2 ^ ((k : Nat) : Int).toNat) 1 = 0 ∨ Builtin.bitAnd ((i : Int) / 2 ^ ((k : Nat) : Int).toNat) 1 = 1 := by
    rw [PyProof.Rows.bitAnd_m1]; omega
  rw [← h]
  rcases e with e | e <;> rw [e] <;> rfl
/-! bits_at -/
abbrev A_bits := {x : Nat × Nat // x.2 ≤ 1000}
def p_bits_at (K : PySem.W.Frag) : Prm A_bits := .fn (fun x => [.dat (.int x.1.1), .dat (.int x.1.2)]) fun x => .dat (.tup ((bits x.1.1 x.1.2).map .bl))
theorem sc_bits_at : FnScope ["index", "many", "k"] ["index", "many"] (defScope (top 10)) := ⟨rfl, rfl, rfl, by decide +kernel, rfl, by decide +kernel, by decide +kernel⟩
theorem cal_bits_at (G : Gs K mg) : C8.Cal P w K mg base 1 "bits_at" (p_bits_at K).sp [] := by
  refine Prm.cal (p_bits_at K) G.d_bits_at G.g_bits_at sc_bits_at (fun _ _ _ _ _ _ us hl => match us, hl with | [_, _], _ => rfl) (fun _ => rfl) (fun cdv A' outer s H E hr => ⟨_, (PSs.nox (pss_one (ps_ret (pe_callTy (k_tuple (K := K)) (by rfl) G.f_tuple (by decide +kernel) (pa_cons (pe_lc (own := [("k", 2)]) (g := (gName 2)) (by rfl) sc_bits_at.nd (pi_range1 (by rfl) G.f_range (pa_cons (pvx 1) pa_nil)) (blkOk_by (by kernel_rfl)) (fun _ _ _ _ _ => (pgx 2 sc_bits_at.nd)) (fun _ _ _ _ _ => pts_nil) (fun _ _ _ _ _ => (pe_cmpR op_eq (pe_op op_and (pe_op op_shr (pvx 0) (pvx 2)) pe_int) pe_int (nomark _)))) pa_nil))))), ?_⟩)
  rintro ⟨⟨i, m⟩, hm⟩ F H
  have hm : m ≤ 1000 := hm
  show Ec _ _ [.dat (.int i), .dat (.int m), .no] _
  refine ec_ret (ev_tupL (ev_own_bor (ev_lcX (List.range m) (fun k => .int (0 + (k : Nat))) (fun k => .bl (bit i k)) (it_rng1 (ea_1 (ev_var rfl)) (by omega)) (by rw [List.length_range]; exact hm) fun j k hk => ⟨_, _, tg_name, fun _ h => h, ?_⟩))) ?_
  · exact (ev_eqI (ev_bi (ev_bc (ev_var rfl) (ev_var rfl) (by show (0 : Int) ≤ 0 + (k : Nat); omega)) ev_int) ev_int).to (congrArg (fun b => Sl.dat (.bl b)) (bit_py i k))
  · show Sl.dat (.tup ((List.range m).map fun k => .bl (bit i k))) = Sl.dat (.tup (((List.range m).map (bit i)).map .bl))
    rw [List.map_map]
    rfl
/-! look_up -/
abbrev A_look := {x : List Bool × List Bool × Bool // x.1[idx x.2.1]? = some x.2.2 ∧ x.2.1.length ≤ 1000}
def p_look_up (K : PySem.W.Frag) : Prm A_look := .fn (fun x => [.dat (.tup (x.1.1.map .bl)), .dat (.lst (x.1.2.1.map .bl))]) fun x => .dat (.bl x.1.2.2)
theorem sc_look_up : FnScope ["table", "bits", "index", "k", "bit"] ["table", "bits"] (defScope (top 11)) := ⟨rfl, rfl, rfl, by decide +kernel, rfl, by decide +kernel, by decide +kernel⟩
theorem cal_look_up (G : Gs K mg) : C8.Cal P w K mg base 1 "look_up" (p_look_up K).sp [] := by
  refine Prm.cal (p_look_up K) G.d_look_up G.g_look_up sc_look_up (fun _ _ _ _ _ _ us hl => match us, hl with | [_, _], _ => rfl) (fun _ => rfl) (fun cdv A' outer s H E hr => ⟨_, (PSs.nox (pss_cons (psx 2 sc_look_up.nd pe_int) (pss_cons (ps_for PassesOwn.never (by rfl) (k_enum (K := K) (by rfl) G.f_enumerate (pa_cons (pvx 1) pa_nil)) (k_tup (K := K) (n := 2) (pgs_cons (pgx 3 sc_look_up.nd) (pgs_cons (pgx 4 sc_look_up.nd) pgs_nil))) (pss_one (ps_if (pt_val (pvx 4)) (pss_one (ps_augx (i := 2) ip_add sc_look_up.nd (pe_op op_shl pe_int (pvx 3)))) pss_nil))) (pss_one (ps_ret (pe_ix (k_ix (K := K)) (pvx 0) (pvx 2) (fun _ _ => rfl))))))), ?_⟩)
  rintro ⟨⟨tb, bs, b⟩, h, hl⟩ F H
  have h : tb[idx bs]? = some b := h
  have hl : bs.length ≤ 1000 := hl
  show Ec _ _ [.dat (.tup (tb.map .bl)), .dat (.lst (bs.map .bl)), .no, .no, .no] _
  refine ec_set ev_int ?_
  refine ec_seq (M := fun Γ => ∃ s t, Γ = [.dat (.tup (tb.map .bl)), .dat (.lst (bs.map .bl)), .dat (.int (idx bs)), s, t]) ?_ ?_
  · refine ec_forX bs (fun i b => .tup [.int i, .bl b]) (it_enum (b := true) (ds := bs.map .bl) (ea_1 (ev_var rfl))) enum_at (by rw [enumD_len, List.length_map]) (fun i Γ => ∃ s t, Γ = [.dat (.tup (tb.map .bl)), .dat (.lst (bs.map .bl)), .dat (.int (idx (bs.take i))), s, t]) ⟨_, _, rfl⟩ ?_ ?_
    · rintro i b Γ1 hb ⟨s, t, rfl⟩
      refine ⟨_, _, tg_tup (tgs_cons tg_name (tgs_cons tg_name tgs_nil)) rfl, ?_⟩
      have e : idx (bs.take (i + 1)) = idx (bs.take i) + (if b then 2 ^ i else 0) := by
        have hi := (List.getElem?_eq_some_iff.mp hb).1
        rw [take_snoc hb, idx_snoc, List.length_take, Nat.min_eq_left (Nat.le_of_lt hi)]
      cases b with
      | true =>
        refine ec_if (et_B (ev_var rfl)) (fun _ => ?_) fun h => nomatch h
        refine ec_aug (a := idx (bs.take i)) rfl (ev_bc ev_int (ev_var rfl) ⟨by omega, by have := (List.getElem?_eq_some_iff.mp hb).1; omega, by decide⟩) ⟨.dat (.int i), .dat (.bl true), ?_⟩
        rw [e]
        show [_, _, Sl.dat (.int ((idx (bs.take i) : Nat) + 1 * 2 ^ ((i : Nat) : Int).toNat)), _, _] = _
        rw [shl1, if_pos rfl, Int.natCast_add]
      | false =>
        refine ec_if (et_B (ev_var rfl)) (fun h => nomatch h) fun _ => ec_next ?_
        rw [e]
        exact ⟨_, _, rfl⟩
    · rintro Γ1 ⟨s, t, rfl⟩
      rw [List.take_length]
      exact ⟨s, t, rfl⟩
  · rintro Γ1 ⟨s, t, rfl⟩
    exact ec_ret (ev_ixT (ev_var rfl) (ev_var rfl) (atI_map h)) rfl
/-! agrees -/
def bI (b : Bool) : D := .int (if b then 1 else 0)
abbrev A_agrees := {x : Nat × List Bool // x.1 < 2 ^ x.2.length ∧ x.2.length ≤ 1000}
def p_agrees (K : PySem.W.Frag) : Prm A_agrees := .fn (fun x => [.dat (.int x.1.1), .dat (.tup (x.1.2.map bI))]) fun x => .dat (.bl (decide (x.1.1 = idx x.1.2)))
theorem sc_agrees : FnScope ["index", "part\x69al", "k", "mark"] ["index", "part\x69al"] (defScope (top 12)) := ⟨rfl, rfl, rfl, by decide +kernel, rfl, by decide +kernel, by decide +kernel⟩
theorem cal_agrees (G : Gs K mg) : C8.Cal P w K mg base 1 "agrees" (p_agrees K).sp [] := by
  refine Prm.cal (p_agrees K) G.d_agrees G.g_agrees sc_agrees (fun _ _ _ _ _ _ us hl => match us, hl with | [_, _], _ => rfl) (fun _ => rfl) (fun cdv A' outer s H E hr => ⟨_, (PSs.nox (pss_cons (ps_for PassesOwn.never (by rfl) (k_enum (K := K) (by rfl) G.f_enumerate (pa_cons (pvx 1) pa_nil)) (k_tup (K := K) (n := 2) (pgs_cons (pgx 2 sc_agrees.nd) (pgs_cons (pgx 3 sc_agrees.nd) pgs_nil))) (pss_one (ps_if (PW.pt (pw_and (pt_cmpR op_ge (pvx 3) pe_int (nomark _)) (pw_and1 (pt_cmpR op_ne (pe_op op_and (pe_op op_shr (pvx 0) (pvx 2)) pe_int) (pvx 3) (nomark _))))) (pss_one (ps_ret pe_bl)) pss_nil))) (pss_one (ps_ret pe_bl)))), ?_⟩)
  rintro ⟨⟨n, bs⟩, hn, hl⟩ F H
  have hn : n < 2 ^ bs.length := hn
  have hl : bs.length ≤ 1000 := hl
  show Ec _ _ [.dat (.int n), .dat (.tup (bs.map bI)), .no, .no] _
  refine ec_seq (M := fun Γ => n = idx bs) ?_ ?_
  · refine ec_forX bs (fun i b => .tup [.int i, bI b]) (it_enum (b := false) (ds := bs.map bI) (ea_1 (ev_var rfl))) enum_at (by rw [enumD_len, List.length_map]) (fun i Γ => (∃ s t, Γ = [.dat (.int n), .dat (.tup (bs.map bI)), s, t]) ∧ ∀ k, k < i → ∀ b, bs[k]? = some b → bit n k = b) ⟨⟨_, _, rfl⟩, fun _ h => absurd h (Nat.not_lt_zero _)⟩ ?_ ?_
    · rintro i b Γ1 hb ⟨⟨s, t, rfl⟩, hI⟩
      refine ⟨_, _, tg_tup (tgs_cons tg_name (tgs_cons tg_name tgs_nil)) rfl, ?_⟩
      refine ec_if (b := !decide (bit n i = b)) ?_ (fun h => ?_) fun h => ec_next ⟨⟨_, _, rfl⟩, fun k hk b' hb' => ?_⟩
      · refine (et_and (b := true) ((et_bb (ev_var rfl) ev_int).to (decide_eq_true (by split <;> decide))) fun _ => et_test ((ev_neI (ev_bi (ev_bc (ev_var rfl) (ev_var rfl) (by show (0 : Int) ≤ (i : Nat); omega)) ev_int) (ev_var rfl)).to (congrArg (fun b => Sl.dat (.bl b)) ?_))).to (Bool.true_and _)
        rw [bit_py']
        cases bit n i <;> cases b <;> rfl
      · refine ec_ret ev_bl ?_
        have h : ¬ bit n i = b := by simpa using h
        have : n ≠ idx bs := fun e => h (by rw [e]; exact idx_bit bs i b hb)
        show Sl.dat (.bl false) = Sl.dat (.bl (decide (n = idx bs)))
        rw [decide_eq_false this]
      · by_cases q : k < i
        · exact hI k q b' hb'
        · have e : k = i := by omega
          subst e
          rw [hb] at hb'
          cases hb'
          simpa using h
    · rintro Γ1 ⟨_, hI⟩
      refine bit_ext bs.length n (idx bs) hn (idx_lt bs) fun k hk => ?_
      rw [hI k hk bs[k] (List.getElem?_eq_getElem hk), idx_bit bs k bs[k] (List.getElem?_eq_getElem hk)]
  · intro Γ' e
    exact ec_ret ev_bl (by show Sl.dat (.bl true) = Sl.dat (.bl (decide (n = idx bs))); rw [decide_eq_true e])
/-! forced -/
abbrev A_forced := {x : List Bool × List Bool × Bool // x.1[idx x.2.1]? = some x.2.2 ∧ x.1.length = 2 ^ x.2.1.length ∧ x.1.length ≤ 1000 ∧ x.2.1.length ≤ 1000}
def p_forced (K : PySem.W.Frag) : Prm A_forced := .fn (fun x => [.dat (.tup (x.1.1.map .bl)), .dat (.tup (x.1.2.1.map bI))]) fun x => .dat (.bl x.1.2.2)
theorem sc_forced : FnScope ["table", "part\x69al", "shown", "index", "row"] ["table", "part\x69al"] (defScope (top 13)) := ⟨rfl, rfl, rfl, by decide +kernel, rfl, by decide +kernel, by decide +kernel⟩
theorem cal_forced (G : Gs K mg) : C8.Cal P w K mg base 2 "forced" (p_forced K).sp [] := by
  have c_agrees := cal_agrees (P := P) (w := w) (base := base) G
  refine Prm.cal (p_forced K) G.d_forced G.g_forced sc_forced (fun _ _ _ _ _ _ us hl => match us, hl with | [_, _], _ => rfl) (fun _ => rfl) (fun cdv A' outer s H E hr => ⟨_, (PSs.nox (pss_cons (ps_setLc (i := 2) (own := [("index", 3), ("row", 4)]) (g := (gTup K 2 (gCons (gName 3) (gCons (gName 4) gNil)))) (by rfl) sc_forced.nd (by rfl) (by rfl) (by rfl) (k_enum (K := K) (by rfl) G.f_enumerate (pa_cons (pvx 0) pa_nil)) (blkOk_by (by kernel_rfl)) (fun _ _ _ _ _ => (k_tup (K := K) (n := 2) (pgs_cons (pgx 3 sc_forced.nd) (pgs_cons (pgx 4 sc_forced.nd) pgs_nil)))) (fun _ _ _ _ _ => (pts_one (pt_val (C8.pe_c c_agrees hr (by decide) (by rfl) (pa_cons (pvx 3) (pa_cons (pvx 1) pa_nil)))))) (fun _ _ _ _ _ => (pvx 4))) (pss_cons (ps_if (PW.pt (pw_and (pt_cmpR (k_in (K := K)) pe_bl (pvx 2) (by with_unfolding_all rfl)) (pw_and1 (pt_cmpR (k_in (K := K)) pe_bl (pvx 2) (by with_unfolding_all rfl))))) (pss_one (ps_ret pe_non)) pss_nil) (pss_one (ps_ret (pe_ix (k_ix (K := K)) (pvx 2) pe_int (fun _ _ => rfl))))))), ?_⟩)
  rintro ⟨⟨tb, bs, b⟩, h, hp, h1, h2⟩ F H
  have h : tb[idx bs]? = some b := h
  have hp : tb.length = 2 ^ bs.length := hp
  have h1 : tb.length ≤ 1000 := h1
  have h2 : bs.length ≤ 1000 := h2
  show Ec _ _ [.dat (.tup (tb.map .bl)), .dat (.tup (bs.map bI)), .no, .no, .no] _
  refine ec_setR (ev_lcR (it_enum (b := false) (ds := tb.map .bl) (ea_1 (ev_var rfl))) (fun ds e => by subst e; rw [enumD_len, List.length_map]; exact h1) (fun _ i out => out = if idx bs < i then [.bl b] else []) (fun _ _ => rfl) ?_) ?_
  · rintro ds i d out rfl hd hI _
    obtain ⟨y, hy, rfl⟩ := enum_at i d hd
    have hi : i < tb.length := (List.getElem?_eq_some_iff.mp hy).1
    refine ⟨_, _, fun c => c = decide (i = idx bs), tg_tup (tgs_cons tg_name (tgs_cons tg_name tgs_nil)) rfl, fun _ h => h, (et_B (evf_call (⟨(i, bs), by show i < _; rw [← hp]; exact hi, h2⟩ : A_agrees) (ea_cons (ev_var rfl) (ea_1 (ev_var rfl))) rfl)).ev rfl, fun hc => ⟨fun s => s = .dat (.bl y), (ev_var rfl).ev rfl, fun s es => ⟨_, es, ?_⟩⟩, fun hc => ?_⟩
    · have e : i = idx bs := of_decide_eq_true hc.symm
      subst e
      rw [h] at hy
      cases hy
      rw [hI, if_neg (Nat.lt_irrefl _), if_pos (Nat.lt_succ_self _)]
      rfl
    · have e : i ≠ idx bs := of_decide_eq_false hc.symm
      rw [hI]
      by_cases q : idx bs < i
      · rw [if_pos q, if_pos (Nat.lt_succ_of_lt q)]
      · rw [if_neg q, if_neg (by omega)]
  · rintro s ⟨ds, out, rfl, rfl, e⟩
    have hi : idx bs < tb.length := (List.getElem?_eq_some_iff.mp h).1
    rw [enumD_len, List.length_map, if_pos hi] at e
    subst e
    refine ⟨(fun o h => nomatch h), ?_⟩
    show Ec _ _ [.dat (.tup (tb.map .bl)), .dat (.tup (bs.map bI)), .own (.lst [.bl b]), .no, .no] _
    refine ec_noS ((et_and (b := decide (b = true)) (c := decide (b = false)) (et_test ((ev_inL ev_bl (ev_own rfl) rfl rfl).to ?_)) fun _ => et_test ((ev_inL ev_bl (ev_own rfl) rfl rfl).to ?_)).to ?_) ?_
    · cases b <;> rfl
    · cases b <;> rfl
    · cases b <;> rfl
    · exact ec_ret (ev_ixL (ev_own rfl) ev_int rfl) rfl
/-! sources, all_nets, check_net -/
structure Sz (c : Circ) : Prop where
  i : c.ins.length ≤ 100
  g : c.gates.length ≤ 100
  r : c.regs.length ≤ 100
abbrev A_sz := {c : Circ // Sz c}
def p_sources (K : PySem.W.Frag) : Prm A_sz := .fn (fun x => [.dat (cD x.1)]) fun x => .own (.lst ((src x.1).map .str))
theorem src_len {c : Circ} (h : Sz c) : (src c).length ≤ 200 := by
  have h1 := h.i
  have h2 := h.r
  unfold src
  rw [List.length_append, List.length_map]; omega
theorem nets_len {c : Circ} (h : Sz c) : (nets c).length ≤ 300 := by
  have h1 := h.g
  have h2 := src_len h
  unfold nets
  rw [List.length_append, List.length_map]; omega
theorem sc_sources : FnScope ["circuit", "row"] ["circuit"] (defScope (top 15)) := ⟨rfl, rfl, rfl, by decide +kernel, rfl, by decide +kernel, by decide +kernel⟩
theorem cal_sources (G : Gs K mg) : C8.Cal P w K mg base 1 "sources" (p_sources K).sp [] := by
  refine Prm.cal (p_sources K) G.d_sources G.g_sources sc_sources (fun _ _ _ _ _ _ us hl => match us, hl with | [_], _ => rfl) (fun _ => rfl) (fun cdv A' outer s H E hr => ⟨_, (PSs.nox (pss_one (ps_ret (pe_op (k_plus (K := K)) (pe_callTy (k_list (K := K)) (by rfl) G.f_list (by decide +kernel) (pa_cons (pe_ix (k_ix (K := K)) (pvx 0) pe_int (fun _ _ => rfl)) pa_nil)) (pe_lc (own := [("row", 1)]) (g := (gName 1)) (by rfl) sc_sources.nd (k_seq (K := K) (pe_ix (k_ix (K := K)) (pvx 0) pe_int (fun _ _ => rfl))) (blkOk_by (by kernel_rfl)) (fun _ _ _ _ _ => (pgx 1 sc_sources.nd)) (fun _ _ _ _ _ => pts_nil) (fun _ _ _ _ _ => (pe_ix (k_ix (K := K)) (pvx 1) pe_int (fun _ _ => rfl)))))))), ?_⟩)
  rintro ⟨c, hc⟩ F H
  show Ec _ _ [.dat (cD c), .no] _
  refine ec_ret (ev_addL (ev_own_bor (ev_listT (ev_ixT (ev_var rfl) ev_int rfl))) (ev_own_bor (ev_lcX c.regs rD (fun r => .str r.nm) (it_tup (ev_ixT (ev_var rfl) ev_int rfl)) (Nat.le_trans hc.r (by decide)) fun i r hr => ⟨_, _, tg_name, fun _ h => h, ev_ixT (ev_var rfl) ev_int rfl⟩)) ?_) ?_
  · have h1 := hc.i
    have h2 := hc.r
    rw [List.length_map, List.length_map]; omega
  · show Sl.own (.lst (c.ins.map .str ++ c.regs.map fun r => .str r.nm)) = Sl.own (.lst ((src c).map .str))
    unfold src
    rw [List.map_append, List.map_map]
    rfl
def p_all_nets (K : PySem.W.Frag) : Prm A_sz := .fn (fun x => [.dat (cD x.1)]) fun x => .own (.lst ((nets x.1).map .str))
theorem sc_all_nets : FnScope ["circuit", "gate"] ["circuit"] (defScope (top 16)) := ⟨rfl, rfl, rfl, by decide +kernel, rfl, by decide +kernel, by decide +kernel⟩
theorem cal_all_nets (G : Gs K mg) : C8.Cal P w K mg base 2 "all_nets" (p_all_nets K).sp [] := by
  have c_sources := cal_sources (P := P) (w := w) (base := base) G
  refine Prm.cal (p_all_nets K) G.d_all_nets G.g_all_nets sc_all_nets (fun _ _ _ _ _ _ us hl => match us, hl with | [_], _ => rfl) (fun _ => rfl) (fun cdv A' outer s H E hr => ⟨_, (PSs.nox (pss_one (ps_ret (pe_op (k_plus (K := K)) (C8.pe_c c_sources hr (by decide) (by rfl) (pa_cons (pvx 0) pa_nil)) (pe_lc (own := [("gate", 1)]) (g := (gName 1)) (by rfl) sc_all_nets.nd (k_seq (K := K) (pe_ix (k_ix (K := K)) (pvx 0) pe_int (fun _ _ => rfl))) (blkOk_by (by kernel_rfl)) (fun _ _ _ _ _ => (pgx 1 sc_all_nets.nd)) (fun _ _ _ _ _ => pts_nil) (fun _ _ _ _ _ => (pe_ix (k_ix (K := K)) (pvx 1) pe_int (fun _ _ => rfl)))))))), ?_⟩)
  rintro ⟨c, hc⟩ F H
  show Ec _ _ [.dat (cD c), .no] _
  refine ec_ret (ev_addL (xs := (src c).map .str) (ev_own_bor (evf_call (⟨c, hc⟩ : A_sz) (ea_1 (ev_var rfl)) rfl)) (ev_own_bor (ev_lcX c.gates gD (fun r => .str r.nm) (it_tup (ev_ixT (ev_var rfl) ev_int rfl)) (Nat.le_trans hc.g (by decide)) fun i r hr => ⟨_, _, tg_name, fun _ h => h, ev_ixT (ev_var rfl) ev_int rfl⟩)) ?_) ?_
  · have h1 := src_len hc
    have h2 := hc.g
    rw [List.length_map, List.length_map]; omega
  · show Sl.own (.lst ((src c).map .str ++ c.gates.map fun r => .str r.nm)) = Sl.own (.lst ((nets c).map .str))
    unfold nets
    rw [List.map_append, List.map_map]
    rfl
abbrev A_net := {x : Circ × Str // Sz x.1 ∧ x.2 ∈ nets x.1}
def p_check_net (K : PySem.W.Frag) : Prm A_net := .fn (fun x => [.dat (cD x.1.1), .dat (.str x.1.2)]) fun x => .dat .non
theorem sc_check_net : FnScope ["circuit", "net"] ["circuit", "net"] (defScope (top 17)) := ⟨rfl, rfl, rfl, by decide +kernel, rfl, by decide +kernel, by decide +kernel⟩
theorem cal_check_net (G : Gs K mg) : C8.Cal P w K mg base 3 "check_net" (p_check_net K).sp [] := by
  have c_all_nets := cal_all_nets (P := P) (w := w) (base := base) G
  refine Prm.cal (p_check_net K) G.d_check_net G.g_check_net sc_check_net (fun _ _ _ _ _ _ us hl => match us, hl with | [_, _], _ => rfl) (fun _ => rfl) (fun cdv A' outer s H E hr => ⟨_, (PSs.nox (pss_one (ps_if (pt_cmpR (k_notIn (K := K)) (pvx 1) (C8.pe_c c_all_nets hr (by decide) (by rfl) (pa_cons (pvx 0) pa_nil)) (by with_unfolding_all rfl)) (pss_one ps_never) pss_nil))), ?_⟩)
  rintro ⟨⟨c, n⟩, hc, hn⟩ F H
  have hn : n ∈ nets c := hn
  show Ec _ _ [.dat (cD c), .dat (.str n)] _
  refine ec_no ((et_test (ev_inL (ev_var rfl) (ev_own_bor (evf_call (⟨c, hc⟩ : A_sz) (ea_1 (ev_var rfl)) rfl)) rfl flat_str)).to ?_) rfl
  rw [inD_str, decide_eq_true hn]
  rfl
/-! drivers -/
/-- what drivers gives: every gate's name to its place -/
structure Drv (c : Circ) (kvs : List (Key × D)) : Prop where
  len : kvs.length ≤ 100
  at_ : ∀ n, lk kvs (.inr n) = (gix c n).map fun i => .int (i : Nat)
abbrev A_nd := {c : Circ // Sz c ∧ (nets c).Nodup}
def p_drivers (K : PySem.W.Frag) : Prm A_nd := .pu (fun x => [.dat (cD x.1)]) fun x s => ∃ kvs, s = .own (.dic kvs) ∧ Drv x.1 kvs
theorem sc_drivers : FnScope ["circuit", "index", "gate"] ["circuit"] (defScope (top 18)) := ⟨rfl, rfl, rfl, by decide +kernel, rfl, by decide +kernel, by decide +kernel⟩
theorem cal_drivers (G : Gs K mg) : C8.Cal P w K mg base 1 "drivers" (p_drivers K).sp [] := by
  refine Prm.cal (p_drivers K) G.d_drivers G.g_drivers sc_drivers (fun _ _ _ _ _ _ us hl => match us, hl with | [_], _ => rfl) (fun _ => rfl) (fun cdv A' outer s H E hr => ⟨_, (PSs.nox (pss_one (ps_ret (pe_dc (own := [("index", 1), ("gate", 2)]) (g := (gTup K 2 (gCons (gName 1) (gCons (gName 2) gNil)))) (by rfl) sc_drivers.nd (k_enum (K := K) (by rfl) G.f_enumerate (pa_cons (pe_ix (k_ix (K := K)) (pvx 0) pe_int (fun _ _ => rfl)) pa_nil)) (blkOk_by (by kernel_rfl)) (fun _ _ _ _ _ => (k_tup (K := K) (n := 2) (pgs_cons (pgx 1 sc_drivers.nd) (pgs_cons (pgx 2 sc_drivers.nd) pgs_nil)))) (fun _ _ _ _ _ => pts_nil) (fun _ _ _ _ _ => (pe_ix (k_ix (K := K)) (pvx 2) pe_int (fun _ _ => rfl))) (fun _ _ _ _ _ => (pvx 1)))))), ?_⟩)
  rintro ⟨c, hc, hn⟩ F H
  show Ec _ _ [.dat (cD c), .no, .no] _
  refine ec_retR (ev_dcX c.gates (fun i g => .tup [.int i, gD g]) (fun _ g => .inr g.nm) (fun i _ => .int i) (it_enum (b := false) (ds := c.gates.map gD) (ea_1 (ev_ixT (ev_var rfl) ev_int rfl))) enum_at (by rw [enumD_len, List.length_map]) (Nat.le_trans hc.g (by decide)) fun i g hg => ⟨_, _, tg_tup (tgs_cons tg_name (tgs_cons tg_name tgs_nil)) rfl, ?_, ev_ixT (ev_var rfl) ev_int rfl, ev_var rfl⟩) ?_
  · intro j hj; exact hj
  · rintro s ⟨out, rfl, hl, h1, h2⟩
    refine ⟨(fun o h => nomatch h), out, rfl, Nat.le_trans hl hc.g, fun n => ?_⟩
    cases e : gix c n with
    | some i =>
      obtain ⟨g, hg, en⟩ := gix_some e
      subst en
      refine h2 i g hg fun j y hij hy e2 => ?_
      have e2 : y.nm = g.nm := Sum.inr.inj e2
      have := gix_of hn hy
      rw [e2, e] at this
      cases this
      exact absurd hij (Nat.lt_irrefl _)
    | none =>
      cases e3 : lk out (.inr n) with
      | none => rfl
      | some d =>
        obtain ⟨i, g, hg, e4⟩ := h1 _ (by rw [e3]; exact fun z => nomatch z)
        exact absurd (Sum.inr.inj e4) (gix_none e g (List.mem_of_getElem? hg))
/-! start_state, in_window -/
def p_start_state (K : PySem.W.Frag) : Prm A_sz := .fn (fun x => [.dat (cD x.1)]) fun x => .dat (.tup ((x.1.regs.map (·.ini)).map .bl))
theorem sc_start_state : FnScope ["circuit", "row"] ["circuit"] (defScope (top 23)) := ⟨rfl, rfl, rfl, by decide +kernel, rfl, by decide +kernel, by decide +kernel⟩
theorem cal_start_state (G : Gs K mg) : C8.Cal P w K mg base 1 "start_state" (p_start_state K).sp [] := by
  refine Prm.cal (p_start_state K) G.d_start_state G.g_start_state sc_start_state (fun _ _ _ _ _ _ us hl => match us, hl with | [_], _ => rfl) (fun _ => rfl) (fun cdv A' outer s H E hr => ⟨_, (PSs.nox (pss_one (ps_ret (pe_callTy (k_tuple (K := K)) (by rfl) G.f_tuple (by decide +kernel) (pa_cons (pe_lc (own := [("row", 1)]) (g := (gName 1)) (by rfl) sc_start_state.nd (k_seq (K := K) (pe_ix (k_ix (K := K)) (pvx 0) pe_int (fun _ _ => rfl))) (blkOk_by (by kernel_rfl)) (fun _ _ _ _ _ => (pgx 1 sc_start_state.nd)) (fun _ _ _ _ _ => pts_nil) (fun _ _ _ _ _ => (pe_ix (k_ix (K := K)) (pvx 1) pe_int (fun _ _ => rfl)))) pa_nil))))), ?_⟩)
  rintro ⟨c, hc⟩ F H
  show Ec _ _ [.dat (cD c), .no] _
  refine ec_ret (ev_tupL (ev_own_bor (ev_lcX c.regs rD (fun r => .bl r.ini) (it_tup (ev_ixT (ev_var rfl) ev_int rfl)) (Nat.le_trans hc.r (by decide)) fun i r hr => ⟨_, _, tg_name, fun _ h => h, ev_ixT (ev_var rfl) ev_int rfl⟩))) ?_
  show _ = Sl.dat (.tup ((c.regs.map (·.ini)).map .bl))
  rw [List.map_map]
  rfl
def p_in_window (K : PySem.W.Frag) : Prm ((Int × Int) × Int) := .fn (fun x => [.dat (pD x.1), .dat (.int x.2)]) fun x => .dat (.bl (decide (x.1.1 ≤ x.2) && decide (x.2 < x.1.2)))
theorem sc_in_window : FnScope ["window", "time", "since", "until"] ["window", "time"] (defScope (top 25)) := ⟨rfl, rfl, rfl, by decide +kernel, rfl, by decide +kernel, by decide +kernel⟩
theorem cal_in_window (G : Gs K mg) : C8.Cal P w K mg base 1 "in_window" (p_in_window K).sp [] := by
  refine Prm.cal (p_in_window K) G.d_in_window G.g_in_window sc_in_window (fun _ _ _ _ _ _ us hl => match us, hl with | [_, _], _ => rfl) (fun _ => rfl) (fun cdv A' outer s H E hr => ⟨_, (PSs.nox (pss_cons (ps_asg (pvx 0) (k_tup (K := K) (n := 2) (pgs_cons (pgx 2 sc_in_window.nd) (pgs_cons (pgx 3 sc_in_window.nd) pgs_nil)))) (pss_one (ps_ret (pe_and (pe_or (pe_cmp (pc_isN (pvx 2))) (pe_one (pe_cmpR op_le (pvx 2) (pvx 1) (nomark _)))) (pe_one (pe_or (pe_cmp (pc_isN (pvx 3))) (pe_one (pe_cmpR op_lt (pvx 1) (pvx 3) (nomark _)))))))))), ?_⟩)
  rintro ⟨⟨a, b⟩, t⟩ F H
  show Ec _ _ [.dat (pD (a, b)), .dat (.int t), .no, .no] _
  refine ec_unpS (ev_var rfl) (tg_tup (tgs_cons tg_name (tgs_cons tg_name tgs_nil)) rfl) ?_
  exact ec_ret (ev_andV (ev_orV (ev_isN (ev_var rfl) rfl) fun _ => ev_bb (ev_var rfl) (ev_var rfl)) fun _ => ev_orV (ev_isN (ev_var rfl) rfl) fun _ => ev_bb (ev_var rfl) (ev_var rfl)) (by
    show Sl.dat (.bl ((false || decide (a ≤ t)) && (false || decide (t < b)))) = _
    rw [Bool.false_or, Bool.false_or])
end Sg
/-! W2: the gates' order, the settled values. -/
namespace Sg
open PySem PySem.Spec PyProof.Rows L2 Dn
variable {P : Program} {w : World} {K : PySem.W.Frag} {mg : Str → Option Value} {base : Heap}
theorem WF.sz {c : Circ} (w : WF c) : Sz c := ⟨Nat.le_trans w.i (by decide), Nat.le_trans w.g (by decide), Nat.le_trans w.r (by decide)⟩
abbrev A_wf := {c : Circ // WF c}
def wts (c : Circ) (g : Gate) : List Nat := (g.nets.filter fun n => (gix c n).isSome).map fun n => (gix c n).getD 0
def wtsD (c : Circ) : D := .lst (c.gates.map fun g => .lst ((wts c g).map fun i => .int (i : Nat)))
/-- a part of an order of the gates -/
structure Ord (c : Circ) (ord : List Nat) : Prop where
  nd : ord.Nodup
  lt : ∀ i ∈ ord, i < c.gates.length
  tp : ∀ pre i post g, ord = pre ++ i :: post → c.gates[i]? = some g → ∀ j ∈ wts c g, j ∈ pre
theorem Ord.snoc {c : Circ} {ord : List Nat} (h : Ord c ord) {i : Nat} {g : Gate} (hg : c.gates[i]? = some g) (hi : i ∉ ord) (hw : ∀ j ∈ wts c g, j ∈ ord) : Ord c (ord ++ [i]) := by
  refine ⟨?_, fun j hj => ?_, fun pre j post g' e hg' k hk => ?_⟩
  · rw [List.nodup_append]
    exact ⟨h.nd, List.pairwise_singleton .., fun a ha b hb e => hi (by rw [List.mem_singleton.mp hb] at e; rw [← e]; exact ha)⟩
  · rcases List.mem_append.mp hj with q | q
    · exact h.lt j q
    · rw [List.mem_singleton.mp q]; exact (List.getElem?_eq_some_iff.mp hg).1
  · rcases List.eq_nil_or_concat post with q | ⟨post', z, q⟩
    · subst q
      obtain ⟨e1, e2⟩ := List.append_inj' e rfl
      cases e2
      rw [hg] at hg'
      cases hg'
      rw [← e1]; exact hw k hk
    · subst q
      have e' : ord ++ [i] = (pre ++ j :: post') ++ [z] := by rw [e]; simp
      obtain ⟨e1, _⟩ := List.append_inj' e' rfl
      exact h.tp pre j post' g' e1 hg' k hk
theorem WF.next_ix {c : Circ} (w : WF c) {ord : List Nat} (hl : ord.length < c.gates.length) : ∃ i g, c.gates[i]? = some g ∧ i ∉ ord ∧ ∀ j ∈ wts c g, j ∈ ord := by
  have ex : ∃ g ∈ c.gates, ¬ (∀ i, c.gates[i]? = some g → i ∈ ord) := by
    refine Classical.byContradiction fun h => ?_
    have all : ∀ i, i < c.gates.length → i ∈ ord := fun i hi => Classical.byContradiction fun q => h ⟨c.gates[i], List.getElem_mem hi, fun z => q (z i (List.getElem?_eq_getElem hi))⟩
    have : (List.range c.gates.length).length ≤ ord.length := List.Nodup.length_le_of_subset List.nodup_range fun i hi => all i (List.mem_range.mp hi)
    rw [List.length_range] at this
    omega
  obtain ⟨g, hg, np, hn⟩ := w.next (fun g => ∀ i, c.gates[i]? = some g → i ∈ ord) ex
  have : ∃ i, c.gates[i]? = some g ∧ i ∉ ord := Classical.byContradiction fun h => np fun i hi => Classical.byContradiction fun q => h ⟨i, hi, q⟩
  obtain ⟨i, hi, hni⟩ := this
  refine ⟨i, g, hi, hni, fun j hj => ?_⟩
  obtain ⟨n, hm, e⟩ := List.mem_map.mp hj
  obtain ⟨hm, hs⟩ := List.mem_filter.mp hm
  obtain ⟨j', e'⟩ := Option.isSome_iff_exists.mp hs
  rw [e'] at e
  cases e
  rcases hn n hm with q | ⟨g', hg', h1, h2⟩
  · rw [gix_src w.nd q] at e'; cases e'
  · obtain ⟨g2, a, b⟩ := gix_some e'
    have := gate_inj w.nd (List.mem_of_getElem? a) hg' (b.trans h2.symm)
    subst this
    exact h1 _ a
def natsD (l : List Nat) : List D := l.map fun i => .int (i : Nat)
def p_gate_order (K : PySem.W.Frag) : Prm A_wf := .pu (fun x => [.dat (cD x.1)]) fun x s => ∃ ord, s = .own (.lst (natsD ord)) ∧ Ord x.1 ord ∧ ord.length = x.1.gates.length
theorem sc_gate_order : FnScope ["circuit", "driven", "waits", "order", "placed", "ready", "gate", "index", "before", "net", "k"] ["circuit"] (defScope (top 19)) := ⟨rfl, rfl, rfl, by decide +kernel, rfl, by decide +kernel, by decide +kernel⟩
theorem cal_gate_order (G : Gs K mg) : C8.Cal P w K mg base 2 "gate_order" (p_gate_order K).sp [] := by
  have c_drivers := cal_drivers (P := P) (w := w) (base := base) G
  refine Prm.cal (p_gate_order K) G.d_gate_order G.g_gate_order sc_gate_order (fun _ _ _ _ _ _ us hl => match us, hl with | [_], _ => rfl) (fun _ => rfl) (fun cdv A' outer s H E hr => ⟨_, (PSs.nox (pss_cons (psx 1 sc_gate_order.nd (C8.pe_c c_drivers hr (by decide) (by rfl) (pa_cons (pvx 0) pa_nil))) (pss_cons (ps_setLc (i := 2) (own := [("gate", 6)]) (g := (gName 6)) (by rfl) sc_gate_order.nd (by rfl) (by rfl) (by rfl) (k_seq (K := K) (pe_ix (k_ix (K := K)) (pvx 0) pe_int (fun _ _ => rfl))) (blkOk_by (by kernel_rfl)) (fun _ _ _ _ _ => (pgx 6 sc_gate_order.nd)) (fun _ _ _ _ _ => pts_nil) (fun _ _ _ _ _ => (pe_lc (own := [("net", 9)]) (g := (gName 9)) (by rfl) sc_gate_order.nd (k_seq (K := K) (pe_ix (k_ix (K := K)) (pvx 6) pe_int (fun _ _ => rfl))) (blkOk_by (by kernel_rfl)) (fun _ _ _ _ _ => (pgx 9 sc_gate_order.nd)) (fun _ _ _ _ _ => (pts_one (pt_cmp (pc_din (hu_of hr) (pvx 9) (pvx 1))))) (fun _ _ _ _ _ => (pe_dget (hu_of hr) (pvx 1) (pvx 9) (fun _ _ => rfl)))))) (pss_cons (psx 3 sc_gate_order.nd (pe_lst pa_nil)) (pss_cons (psx 4 sc_gate_order.nd pe_dnewK) (pss_cons (ps_while PassesOwn.never (pt_cmpR op_lt (pe_callB (k_len (K := K)) (by rfl) G.f_len (by decide +kernel) (pa_cons (pvx 3) pa_nil)) (pe_callB (k_len (K := K)) (by rfl) G.f_len (by decide +kernel) (pa_cons (pe_ix (k_ix (K := K)) (pvx 0) pe_int (fun _ _ => rfl)) pa_nil)) (nomark _)) (pss_cons (psx 5 sc_gate_order.nd (pe_un un_neg pe_int)) (pss_cons (ps_for PassesOwn.never (by rfl) (k_enum (K := K) (by rfl) G.f_enumerate (pa_cons (pvx 2) pa_nil)) (k_tup (K := K) (n := 2) (pgs_cons (pgx 7 sc_gate_order.nd) (pgs_cons (pgx 8 sc_gate_order.nd) pgs_nil))) (pss_one (ps_if (PW.pt (pw_and (pt_cmpR op_lt (pvx 5) pe_int (nomark _)) (pw_and (pt_cmp (pc_dnotin (hu_of hr) (pvx 7) (pvx 4))) (pw_and1 (pt_val (pe_callB (k_all (K := K)) (by rfl) G.f_all (by decide +kernel) (pa_cons (pe_lc (own := [("k", 10)]) (g := (gName 10)) (by rfl) sc_gate_order.nd (k_seq (K := K) (pvx 8)) (blkOk_by (by kernel_rfl)) (fun _ _ _ _ _ => (pgx 10 sc_gate_order.nd)) (fun _ _ _ _ _ => pts_nil) (fun _ _ _ _ _ => (pe_cmp (pc_din (hu_of hr) (pvx 10) (pvx 4))))) pa_nil))))))) (pss_one (psx 5 sc_gate_order.nd (pvx 7))) pss_nil))) (pss_cons (ps_if (pt_cmpR op_lt (pvx 5) pe_int (nomark _)) (pss_one ps_never) pss_nil) (pss_cons (ps_dput (hu_of hr) (pvx 4) (pvx 5) pe_bl (by rfl)) (pss_one (ps_expr (k_app (K := K) (pvx 3) (pa_cons (pvx 5) pa_nil))))))))) (pss_one (ps_ret (pvx 3))))))))), ?_⟩)
  rintro ⟨c, hc⟩ F H
  have hg5 := hc.g
  show Ec _ _ [.dat (cD c), .no, .no, .no, .no, .no, .no, .no, .no, .no, .no] _
  refine ec_setR (ev_call (⟨c, hc.sz, hc.nd⟩ : A_nd) (ea_1 (ev_var rfl)) fits_pure rfl) ?_
  rintro s ⟨⟨dkv, rfl, hD⟩, _⟩
  refine ⟨(fun o h => nomatch h), ?_⟩
  refine ec_set (ev_fL (ev_lcX c.gates gD (fun g => .lst ((wts c g).map fun i => .int (i : Nat))) (it_tup (ev_ixT (ev_var rfl) ev_int rfl)) (by omega) fun i g hg => ⟨_, _, tg_name, fun _ h => h, ev_fL ((ev_lcF g.nets .str (fun n => .int (((gix c n).getD 0 : Nat) : Int)) (fun n => (gix c n).isSome) (it_tup (ev_ixT (ev_var rfl) ev_int rfl)) (Nat.le_trans (hc.gate g (List.mem_of_getElem? hg)).pins (by decide)) fun j n hn => ⟨_, _, tg_name, fun _ h => h, (et_B (ev_din (k := .inr n) (ev_var rfl) (ev_own rfl))).to (by rw [hD.at_]; cases gix c n <;> rfl), fun hs => ev_dget (k := .inr n) (ev_own rfl) (ev_var rfl) (by rw [hD.at_]; revert hs; cases gix c n <;> intro hs <;> first | rfl | cases hs)⟩).to (by unfold wts; rw [List.map_map]; rfl))⟩)) ?_
  refine ec_set (ev_lst (ds := []) ea_nil (by decide)) ?_
  refine ec_set ev_dnew ?_
  refine ec_seq (M := fun Γ => ∃ ord s4 s5 s6 s7 s8 s9 s10, Γ = [.dat (cD c), .own (.dic dkv), .dat (wtsD c), .own (.lst (natsD ord)), s4, s5, s6, s7, s8, s9, s10] ∧ Ord c ord ∧ ord.length = c.gates.length) ?_ ?_
  · refine ec_while (fun m Γ => ∃ ord pk s5 s6 s7 s8 s9 s10, Γ = [.dat (cD c), .own (.dic dkv), .dat (wtsD c), .own (.lst (natsD ord)), .own (.dic pk), s5, s6, s7, s8, s9, s10] ∧ Ord c ord ∧ pk.length ≤ ord.length ∧ (∀ i : Nat, (lk pk (.inl (i : Int))).isSome = decide (i ∈ ord)) ∧ ord.length + m = c.gates.length) c.gates.length ⟨[], [], _, _, _, _, _, _, rfl, ⟨List.Pairwise.nil, (fun _ h => nomatch h), fun pre i post g e => by simp at e⟩, Nat.le_refl _, fun _ => rfl, by simp⟩ ?_
    rintro m _ ⟨ord, pk, s5, s6, s7, s8, s9, s10, rfl, hO, hpl, hpk, hm⟩
    refine ⟨decide (ord.length < c.gates.length), ?_, fun hb => ?_, fun hb => ?_⟩
    · refine (et_bb (ev_lenL (ev_own rfl)) (ev_lenT (ev_ixT (ev_var rfl) ev_int rfl))).to ?_
      unfold natsD
      rw [List.length_map, List.length_map]
      exact decide_eq_decide.mpr (by omega)
    · have hb : ord.length < c.gates.length := of_decide_eq_true hb
      refine ec_set (ev_neg ev_int) ?_
      let El : Nat → Prop := fun r => ∃ g, c.gates[r]? = some g ∧ r ∉ ord ∧ ∀ j ∈ wts c g, j ∈ ord
      refine ec_seq (M := fun Γ => ∃ (r : Nat) (s6 s7 s8 s9 s10 : Sl), Γ = [.dat (cD c), .own (.dic dkv), .dat (wtsD c), .own (.lst (natsD ord)), .own (.dic pk), .dat (.int (r : Int)), s6, s7, s8, s9, s10] ∧ El r) ?_ ?_
      · refine ec_forX c.gates (fun i g => .tup [.int i, .lst (natsD (wts c g))]) (it_enum (b := true) (ds := c.gates.map fun g => .lst (natsD (wts c g))) (ea_1 (ev_var rfl))) enum_at (by rw [enumD_len, List.length_map])
          (fun i Γ => ∃ (rd : Int) (s6 s7 s8 s9 s10 : Sl), Γ = [.dat (cD c), .own (.dic dkv), .dat (wtsD c), .own (.lst (natsD ord)), .own (.dic pk), .dat (.int rd), s6, s7, s8, s9, s10] ∧ ((rd = -1 ∧ ∀ k, k < i → ¬ El k) ∨ ∃ r : Nat, rd = r ∧ El r)) ⟨_, _, _, _, _, _, rfl, .inl ⟨rfl, fun k h => absurd h (Nat.not_lt_zero _)⟩⟩ ?_ ?_
        · rintro i g _ hgi ⟨rd, s6, s7, s8, s9, s10, rfl, hrd⟩
          refine ⟨_, _, tg_tup (tgs_cons tg_name (tgs_cons tg_name tgs_nil)) rfl, ?_⟩
          refine ec_if (b := decide (rd < 0) && (decide (i ∉ ord) && ((wts c g).map fun j => decide (j ∈ ord)).all id)) ?_ (fun h => ?_) fun h => ec_next ?_
          · refine et_and (et_bb (ev_var rfl) ev_int) fun _ => et_and ((et_B (ev_dnotin (k := .inl i) (ev_var rfl) (ev_own rfl))).to ?_) fun _ => et_B (ev_all (ev_own_bor ((ev_lcX (wts c g) (fun i => .int (i : Nat)) (fun j => .bl (decide (j ∈ ord))) (it_list (ev_var rfl)) ?_ fun k j hj => ⟨_, _, tg_name, fun _ h => h, (ev_din (k := .inl (j : Int)) (ev_var rfl) (ev_own rfl)).to ?_⟩).to ?_)))
            · rw [hpk]; by_cases q : i ∈ ord <;> simp [q]
            · unfold wts
              rw [List.length_map]
              exact Nat.le_trans (List.length_filter_le _ _) (Nat.le_trans (hc.gate g (List.mem_of_getElem? hgi)).pins (by decide))
            · rw [hpk]
            · rw [List.map_map]; rfl
          · rw [Bool.and_eq_true, Bool.and_eq_true] at h
            obtain ⟨_, h2, h3⟩ := h
            refine ec_asg (ev_var rfl) (fun o h => nomatch h) ⟨i, _, _, _, _, _, rfl, .inr ⟨i, rfl, g, hgi, of_decide_eq_true h2, fun j hj => ?_⟩⟩
            have := List.all_eq_true.mp h3 _ (List.mem_map.mpr ⟨j, hj, rfl⟩)
            exact of_decide_eq_true this
          · refine ⟨rd, _, _, _, _, _, rfl, ?_⟩
            rcases hrd with ⟨e, hn⟩ | q
            · subst e
              refine .inl ⟨rfl, fun k hk => ?_⟩
              by_cases q : k < i
              · exact hn k q
              · have e : k = i := by omega
                subst e
                rintro ⟨g', hg', h1, h2⟩
                rw [hgi] at hg'
                cases hg'
                have h3 : ((wts c g).map fun j => decide (j ∈ ord)).all id = true := by
                  rw [List.all_map]
                  exact List.all_eq_true.mpr fun j hj => decide_eq_true (h2 j hj)
                rw [h3, decide_eq_true h1] at h
                cases h
            · exact .inr q
        · rintro _ ⟨rd, s6, s7, s8, s9, s10, rfl, hrd⟩
          rcases hrd with ⟨e, hn⟩ | ⟨r, e, hr⟩
          · obtain ⟨i, g, h1, h2, h3⟩ := hc.next_ix hb
            exact absurd ⟨g, h1, h2, h3⟩ (hn i (List.getElem?_eq_some_iff.mp h1).1)
          · subst e
            exact ⟨r, _, _, _, _, _, rfl, hr⟩
      · rintro _ ⟨r, s6, s7, s8, s9, s10, rfl, g, hg, h1, h2⟩
        refine ec_noS ((et_bb (ev_var rfl) ev_int).to (decide_eq_false (by omega))) ?_
        refine ec_seq (M := fun Γ => Γ = [.dat (cD c), .own (.dic dkv), .dat (wtsD c), .own (.lst (natsD ord)), .own (.dic (pt pk (.inl (r : Int)) (.bl true))), .dat (.int (r : Int)), s6, s7, s8, s9, s10]) (ec_putD (ky := .inl (r : Int)) rfl ev_bl (ev_var rfl) (by omega) rfl) ?_
        rintro _ rfl
        refine ec_app rfl (ev_var rfl) (by unfold natsD; rw [List.length_map]; omega) ⟨m - 1, by omega, ord ++ [r], pt pk (.inl (r : Int)) (.bl true), .dat (.int (r : Int)), s6, s7, s8, s9, s10, ?_, hO.snoc hg h1 h2, Nat.le_trans (pt_len _ _ _) ?_, fun i => ?_, ?_⟩
        · show [_, _, _, Sl.own (.lst (natsD ord ++ [.int (r : Int)])), _, _, _, _, _, _, _] = _
          unfold natsD
          rw [List.map_append]
          rfl
        · rw [List.length_append]; exact Nat.succ_le_succ hpl
        · rw [lk_pt]
          by_cases q : r = i
          · subst q; simp
          · rw [if_neg (fun e => q (by have := Sum.inl.inj e; omega)), hpk]
            simp [Ne.symm q]
        · rw [List.length_append]
          show ord.length + 1 + (m - 1) = _
          omega
    · exact ⟨ord, _, _, _, _, _, _, _, rfl, hO, by have := of_decide_eq_false hb; omega⟩
  · rintro _ ⟨ord, s4, s5, s6, s7, s8, s9, s10, rfl, hO, hl⟩
    exact ec_retO rfl ⟨ord, rfl, hO, hl⟩
/-! settle -/
theorem Ord.all {c : Circ} {ord : List Nat} (h : Ord c ord) (hl : ord.length = c.gates.length) {j : Nat} (hj : j < c.gates.length) : j ∈ ord := Classical.byContradiction fun q => by
  have : (j :: ord).length ≤ (List.range c.gates.length).length := List.Nodup.length_le_of_subset (List.nodup_cons.mpr ⟨q, h.nd⟩) fun i hi => by
    rcases List.mem_cons.mp hi with e | hi
    · subst e; exact List.mem_range.mpr hj
    · exact List.mem_range.mpr (h.lt i hi)
  rw [List.length_range, List.length_cons, hl] at this
  omega
theorem natsD_get {ord : List Nat} {i : Nat} {d : D} (h : (natsD ord)[i]? = some d) : ∃ j, ord[i]? = some j ∧ d = .int (j : Int) := map_get h
theorem gate_at {c : Circ} {j : Nat} {g : Gate} (h : c.gates[j]? = some g) : atI (c.gates.map gD) (j : Int) = some (gD g) := atI_map h
abbrev A_sol := {x : Circ × List Bool × (Str → Bool) // WF x.1 ∧ Sol x.1 x.2.1 x.2.2 ∧ x.2.1.length = (src x.1).length}
def p_settle (K : PySem.W.Frag) : Prm A_sol := .pu (fun x => [.dat (cD x.1.1), .dat (.tup (x.1.2.1.map .bl))]) fun x s => ∃ kvs, s = .own (.dic kvs) ∧ ∀ n ∈ nets x.1.1, lk kvs (.inr n) = some (.bl (x.1.2.2 n))
theorem sc_settle : FnScope ["circuit", "vector", "known", "index", "name", "table", "nets", "_", "net", "bit"] ["circuit", "vector"] (defScope (top 22)) := ⟨rfl, rfl, rfl, by decide +kernel, rfl, by decide +kernel, by decide +kernel⟩
theorem cal_settle (G : Gs K mg) : C8.Cal P w K mg base 3 "settle" (p_settle K).sp [] := by
  have c_gate_order := cal_gate_order (P := P) (w := w) (base := base) G
  have c_look_up := cal_look_up (P := P) (w := w) (base := base) G
  have c_sources := cal_sources (P := P) (w := w) (base := base) G
  refine Prm.cal (p_settle K) G.d_settle G.g_settle sc_settle (fun _ _ _ _ _ _ us hl => match us, hl with | [_, _], _ => rfl) (fun _ => rfl) (fun cdv A' outer s H E hr => ⟨_, (PSs.nox (pss_cons (psx 2 sc_settle.nd (pe_dc (own := [("net", 8), ("bit", 9)]) (g := (gTup K 2 (gCons (gName 8) (gCons (gName 9) gNil)))) (by rfl) sc_settle.nd (k_zip (K := K) (by rfl) G.f_zip (pa_cons (C8.pe_c c_sources hr (by decide) (by rfl) (pa_cons (pvx 0) pa_nil)) (pa_cons (pvx 1) pa_nil))) (blkOk_by (by kernel_rfl)) (fun _ _ _ _ _ => (k_tup (K := K) (n := 2) (pgs_cons (pgx 8 sc_settle.nd) (pgs_cons (pgx 9 sc_settle.nd) pgs_nil)))) (fun _ _ _ _ _ => pts_nil) (fun _ _ _ _ _ => (pvx 8)) (fun _ _ _ _ _ => (pvx 9)))) (pss_cons (ps_for PassesOwn.never (by rfl) (k_seq (K := K) (C8.pe_c c_gate_order hr (by decide) (by rfl) (pa_cons (pvx 0) pa_nil))) (pgx 3 sc_settle.nd) (pss_cons (ps_asg (pe_ix (k_ix (K := K)) (pe_ix (k_ix (K := K)) (pvx 0) pe_int (fun _ _ => rfl)) (pvx 3) (fun _ _ => rfl)) (k_tup (K := K) (n := 4) (pgs_cons (pgx 4 sc_settle.nd) (pgs_cons (pgx 5 sc_settle.nd) (pgs_cons (pgx 6 sc_settle.nd) (pgs_cons (pgx 7 sc_settle.nd) pgs_nil)))))) (pss_one (ps_dput (hu_of hr) (pvx 2) (pvx 4) (C8.pe_c c_look_up hr (by decide) (by rfl) (pa_cons (pvx 5) (pa_cons (pe_lc (own := [("net", 8)]) (g := (gName 8)) (by rfl) sc_settle.nd (k_seq (K := K) (pvx 6)) (blkOk_by (by kernel_rfl)) (fun _ _ _ _ _ => (pgx 8 sc_settle.nd)) (fun _ _ _ _ _ => pts_nil) (fun _ _ _ _ _ => (pe_dget (hu_of hr) (pvx 2) (pvx 8) (fun _ _ => rfl)))) pa_nil))) (by rfl))))) (pss_one (ps_ret (pvx 2)))))), ?_⟩)
  rintro ⟨⟨c, vec, v⟩, hc, hv, hl⟩ F H
  have hc : WF c := hc
  have hv : Sol c vec v := hv
  have hl : vec.length = (src c).length := hl
  have h200 := src_len hc.sz
  have hg5 := hc.g
  show Ec _ _ [.dat (cD c), .dat (.tup (vec.map .bl)), .no, .no, .no, .no, .no, .no, .no, .no] _
  refine ec_setR (ev_dcX ((src c).zip vec) (fun _ p => .tup [.str p.1, .bl p.2]) (fun _ p => .inr p.1) (fun _ p => .bl p.2) (it_zip (b := true) (c := false) (ds := (src c).map .str) (es := vec.map .bl) (ea_cons (ev_fL (evf_call (⟨c, hc.sz⟩ : A_sz) (ea_1 (ev_var rfl)) rfl)) (ea_1 (ev_var rfl)))) zip_at ?_ ?_ fun i p hp => ⟨_, _, tg_tup (tgs_cons tg_name (tgs_cons tg_name tgs_nil)) rfl, ?_, ev_var rfl, ev_var rfl⟩) ?_
  · rw [zipD_len, List.length_map, List.length_map, List.length_zip]
  · rw [List.length_zip]; omega
  · intro j hj; exact hj
  rintro s ⟨kv0, rfl, hk0, _, hk2⟩
  refine ⟨(fun o h => nomatch h), ?_⟩
  have hsrc : ∀ n ∈ src c, lk kv0 (.inr n) = some (.bl (v n)) := fun n hn => by
    obtain ⟨i, hi⟩ := List.mem_iff_getElem?.mp hn
    refine hk2 i (n, v n) (List.getElem?_zip_eq_some.mpr ⟨hi, hv.s i n hi⟩) fun j y hij hy e => ?_
    have h1 := (List.getElem?_zip_eq_some.mp hy).1
    rw [Sum.inr.inj e] at h1
    have := (List.getElem?_inj (List.getElem?_eq_some_iff.mp hi).1 (nd_src hc.nd)).mp (hi.trans h1.symm)
    omega
  rw [List.length_zip] at hk0
  refine ec_seq (M := fun Γ => ∃ kvs s3 s4 s5 s6 s7 s8 s9, Γ = [.dat (cD c), .dat (.tup (vec.map .bl)), .own (.dic kvs), s3, s4, s5, s6, s7, s8, s9] ∧ ∀ n ∈ nets c, lk kvs (.inr n) = some (.bl (v n))) ?_ ?_
  · refine ec_forR (S := fun ds => ∃ ord, ds = natsD ord ∧ Ord c ord ∧ ord.length = c.gates.length) (itR_seq ((ev_call (⟨c, hc⟩ : A_wf) (ea_1 (ev_var rfl)) fits_pure rfl).fz (R' := fun s => ∃ ord, s = .dat (.lst (natsD ord)) ∧ Ord c ord ∧ ord.length = c.gates.length) ?_) ?_)
      (fun ds i Γ => ∃ kvs s3 s4 s5 s6 s7 s8 s9, Γ = [.dat (cD c), .dat (.tup (vec.map .bl)), .own (.dic kvs), s3, s4, s5, s6, s7, s8, s9] ∧ kvs.length ≤ 200 + i ∧ (∀ n ∈ src c, lk kvs (.inr n) = some (.bl (v n))) ∧ ∀ n j, gix c n = some j → (∃ k, k < i ∧ ds[k]? = some (.int (j : Int))) → lk kvs (.inr n) = some (.bl (v n))) ?_ ?_ ?_
    · rintro s ⟨⟨ord, rfl, h1, h2⟩, _⟩
      exact .inr ⟨_, rfl, ord, rfl, h1, h2⟩
    · rintro s ⟨ord, rfl, h1, h2⟩
      exact ⟨_, natsD ord, ⟨ord, rfl, h1, h2⟩, rfl, .inl ⟨true, rfl⟩⟩
    · rintro ds _
      exact ⟨kv0, _, _, _, _, _, _, _, rfl, by omega, hsrc, fun n j _ ⟨k, h, _⟩ => absurd h (Nat.not_lt_zero _)⟩
    · rintro ds i d _ ⟨ord, rfl, hO, hol⟩ hd ⟨kvs, s3, s4, s5, s6, s7, s8, s9, rfl, hkl, hs, hg⟩
      obtain ⟨j, hj, rfl⟩ := natsD_get hd
      have hi5 : i < ord.length := (List.getElem?_eq_some_iff.mp hj).1
      have hjl := hO.lt j (List.mem_of_getElem? hj)
      obtain ⟨g, hgj⟩ : ∃ g, c.gates[j]? = some g := ⟨_, List.getElem?_eq_getElem hjl⟩
      have hgm := List.mem_of_getElem? hgj
      have ok := hc.gate g hgm
      refine ⟨_, _, tg_name, ?_⟩
      refine ec_unpS (d := gD g) (ev_ixT (ev_ixT (ev_var rfl) ev_int rfl) (ev_var rfl) (gate_at hgj)) (tg_tup (tgs_cons tg_name (tgs_cons tg_name (tgs_cons tg_name (tgs_cons tg_name tgs_nil)))) rfl) ?_
      refine ec_putD (ky := .inr g.nm) rfl (evf_call (⟨(g.tab, g.nets.map v, v g.nm), hv.g g hgm, ?_⟩ : A_look) (ea_cons (ev_var rfl) (ea_1 (ev_fL ((ev_lcX g.nets .str (fun n => .bl (v n)) (it_tup (ev_var rfl)) (Nat.le_trans ok.pins (by decide)) fun k n hn => ⟨_, _, tg_name, fun _ h => h, ev_dget (k := .inr n) (ev_own rfl) (ev_var rfl) ?_⟩).to ?_)))) rfl) (ev_var rfl) (by omega) ⟨pt kvs (.inr g.nm) (.bl (v g.nm)), _, _, _, _, _, _, _, rfl, ?_, fun n hn => ?_, fun n j' hn' ⟨k, hk, hk'⟩ => ?_⟩
      · rw [List.length_map]; exact Nat.le_trans ok.pins (by decide)
      · have hn := List.mem_of_getElem? hn
        cases e : gix c n with
        | none => exact hs n (gix_net (hc.net hgm hn) e)
        | some j' =>
          have hw : j' ∈ wts c g := List.mem_map.mpr ⟨n, List.mem_filter.mpr ⟨hn, by rw [e]; rfl⟩, by rw [e]; rfl⟩
          have hp := hO.tp (ord.take i) j (ord.drop (i + 1)) g (split_at hj) hgj j' hw
          obtain ⟨k, hk⟩ := List.mem_iff_getElem?.mp hp
          have hki : k < i := by
            have := (List.getElem?_eq_some_iff.mp hk).1
            rw [List.length_take] at this; omega
          refine hg n j' e ⟨k, hki, ?_⟩
          rw [List.getElem?_take_of_lt hki] at hk
          unfold natsD
          rw [List.getElem?_map, hk]
          rfl
      · show _ = Sl.own (.lst ((g.nets.map v).map .bl))
        rw [List.map_map]
        rfl
      · exact Nat.le_trans (pt_len _ _ _) (by omega)
      · rw [lk_pt, if_neg (fun e => src_gate hc.nd hn g hgm (Sum.inr.inj e))]
        exact hs n hn
      · rw [lk_pt]
        by_cases q : g.nm = n
        · subst q; rw [if_pos rfl]
        · rw [if_neg (fun e => q (Sum.inr.inj e))]
          refine hg n j' hn' ⟨k, ?_, hk'⟩
          have hne : k ≠ i := fun e => by
            subst e
            rw [hd] at hk'
            have : j = j' := by injection hk' with h; injection h with h; omega
            subst this
            obtain ⟨g', h1, h2⟩ := gix_some hn'
            rw [hgj] at h1
            cases h1
            exact q h2
          omega
    · rintro ds _ ⟨ord, rfl, hO, hol⟩ ⟨kvs, s3, s4, s5, s6, s7, s8, s9, rfl, hkl, hs, hg⟩
      refine ⟨kvs, _, _, _, _, _, _, _, rfl, fun n hn => ?_⟩
      cases e : gix c n with
      | none => exact hs n (gix_net hn e)
      | some j =>
        obtain ⟨g', h1, h2⟩ := gix_some e
        obtain ⟨k, hk⟩ := List.mem_iff_getElem?.mp (hO.all hol (List.getElem?_eq_some_iff.mp h1).1)
        have hkl := (List.getElem?_eq_some_iff.mp hk).1
        refine hg n j e ⟨k, by unfold natsD; rw [List.length_map]; exact hkl, ?_⟩
        unfold natsD
        rw [List.getElem?_map, hk]
        rfl
  · rintro _ ⟨kvs, s3, s4, s5, s6, s7, s8, s9, rfl, h⟩
    exact ec_retO rfl ⟨kvs, rfl, h⟩
end Sg
/-! W3: the class Clocked, its plain parts. -/
namespace Sg
open PySem PySem.Spec PyProof.Rows L2 Dn
variable {P : Program} {w : World} {K : PySem.W.Frag} {mg : Str → Option Value} {base : Heap}
abbrev Hs := List (Int × Int)
def hD (hs : Hs) : D := .lst (hs.map pD)
abbrev A_ch := {x : Circ × Hs // x.2.length = x.1.ins.length}
def p_check_holds (K : PySem.W.Frag) : Prm A_ch := .fn (fun x => [.dat (cD x.1.1), .dat (hD x.1.2)]) fun x => .dat .non
theorem sc_check_holds : FnScope ["circuit", "holds"] ["circuit", "holds"] (defScope (top 32)) := ⟨rfl, rfl, rfl, by decide +kernel, rfl, by decide +kernel, by decide +kernel⟩
theorem cal_check_holds (G : Gs K mg) : C8.Cal P w K mg base 1 "check_holds" (p_check_holds K).sp [] := by
  refine Prm.cal (p_check_holds K) G.d_check_holds G.g_check_holds sc_check_holds (fun _ _ _ _ _ _ us hl => match us, hl with | [_, _], _ => rfl) (fun _ => rfl) (fun cdv A' outer s H E hr => ⟨_, (PSs.nox (pss_one (ps_if (pt_cmpR op_ne (pe_callB (k_len (K := K)) (by rfl) G.f_len (by decide +kernel) (pa_cons (pvx 1) pa_nil)) (pe_callB (k_len (K := K)) (by rfl) G.f_len (by decide +kernel) (pa_cons (pe_ix (k_ix (K := K)) (pvx 0) pe_int (fun _ _ => rfl)) pa_nil)) (nomark _)) (pss_one ps_never) pss_nil))), ?_⟩)
  rintro ⟨⟨c, hs⟩, h⟩ F H
  have h : hs.length = c.ins.length := h
  show Ec _ _ [.dat (cD c), .dat (hD hs)] _
  refine ec_no ((et_test (ev_neI (ev_lenL (ev_bL (ev_var rfl))) (ev_lenT (ev_ixT (ev_var rfl) ev_int rfl)))).to ?_) rfl
  rw [List.length_map, List.length_map, h]
  simp
structure Pairs (c : Circ) (hs : Hs) (T : Int) : Prop where
  h : ∀ p ∈ hs, p.2 ≤ p.1
  r : ∀ r ∈ c.regs, r.e1 - r.e0 < T
abbrev A_cp := {x : Circ × Hs × Int // Pairs x.1 x.2.1 x.2.2}
def p_check_pairs (K : PySem.W.Frag) : Prm A_cp := .fn (fun x => [.dat (cD x.1.1), .dat (hD x.1.2.1), .dat (.int x.1.2.2)]) fun x => .dat .non
theorem sc_check_pairs : FnScope ["circuit", "holds", "period", "row", "since", "until"] ["circuit", "holds", "period"] (defScope (top 33)) := ⟨rfl, rfl, rfl, by decide +kernel, rfl, by decide +kernel, by decide +kernel⟩
theorem cal_check_pairs (G : Gs K mg) : C8.Cal P w K mg base 1 "check_pairs" (p_check_pairs K).sp [] := by
  refine Prm.cal (p_check_pairs K) G.d_check_pairs G.g_check_pairs sc_check_pairs (fun _ _ _ _ _ _ us hl => match us, hl with | [_, _, _], _ => rfl) (fun _ => rfl) (fun cdv A' outer s H E hr => ⟨_, (PSs.nox (pss_cons (ps_for PassesOwn.never (by rfl) (k_seq (K := K) (pvx 1)) (k_tup (K := K) (n := 2) (pgs_cons (pgx 4 sc_check_pairs.nd) (pgs_cons (pgx 5 sc_check_pairs.nd) pgs_nil))) (pss_one (ps_if (pt_cmpR op_gt (pvx 5) (pvx 4) (nomark _)) (pss_one ps_never) pss_nil))) (pss_one (ps_for PassesOwn.never (by rfl) (k_seq (K := K) (pe_ix (k_ix (K := K)) (pvx 0) pe_int (fun _ _ => rfl))) (pgx 3 sc_check_pairs.nd) (pss_one (ps_if (pt_cmpR op_ge (pe_op op_sub (pe_ix (k_ix (K := K)) (pe_ix (k_ix (K := K)) (pvx 3) pe_int (fun _ _ => rfl)) pe_int (fun _ _ => rfl)) (pe_ix (k_ix (K := K)) (pe_ix (k_ix (K := K)) (pvx 3) pe_int (fun _ _ => rfl)) pe_int (fun _ _ => rfl))) (pvx 2) (nomark _)) (pss_one ps_never) pss_nil)))))), ?_⟩)
  rintro ⟨⟨c, hs, T⟩, h⟩ F H
  have h : Pairs c hs T := h
  show Ec _ _ [.dat (cD c), .dat (hD hs), .dat (.int T), .no, .no, .no] _
  refine ec_seq (M := fun Γ => ∃ s3 s4 s5, Γ = [.dat (cD c), .dat (hD hs), .dat (.int T), s3, s4, s5]) ?_ ?_
  · refine ec_forP hs pD (it_list (ev_var rfl)) (fun _ Γ => ∃ s3 s4 s5, Γ = [.dat (cD c), .dat (hD hs), .dat (.int T), s3, s4, s5]) ⟨_, _, _, rfl⟩ ?_ fun _ h => h
    rintro pre ⟨a, b⟩ post _ e ⟨s3, s4, s5, rfl⟩
    refine ⟨_, _, tg_tup (tgs_cons tg_name (tgs_cons tg_name tgs_nil)) rfl, ec_no ((et_bb (ev_var rfl) (ev_var rfl)).to (decide_eq_false ?_)) ⟨_, _, _, rfl⟩⟩
    have := h.h (a, b) (by rw [e]; exact List.mem_append_right _ (List.mem_cons_self ..))
    simpa using this
  · rintro _ ⟨s3, s4, s5, rfl⟩
    refine ec_forP c.regs rD (it_tup (ev_ixT (ev_var rfl) ev_int rfl)) (fun _ Γ => ∃ s3 s4 s5, Γ = [.dat (cD c), .dat (hD hs), .dat (.int T), s3, s4, s5]) ⟨_, _, _, rfl⟩ ?_ fun _ _ => rfl
    rintro pre r post _ e ⟨s3, s4, s5, rfl⟩
    refine ⟨_, _, tg_name, ec_no ((et_bb (ev_bi (ev_ixT (ev_ixT (ev_var rfl) ev_int rfl) ev_int rfl) (ev_ixT (ev_ixT (ev_var rfl) ev_int rfl) ev_int rfl)) (ev_var rfl)).to (decide_eq_false ?_)) ⟨_, _, _, rfl⟩⟩
    have := h.r r (by rw [e]; exact List.mem_append_right _ (List.mem_cons_self ..))
    omega
/-! the class -/
structure Ck where
  c : Circ
  T : Int
  hs : Hs
structure CkOk (k : Ck) : Prop where
  wf : WF k.c
  len : k.hs.length = k.c.ins.length
  T : 1 ≤ k.T
  T2 : k.T ≤ 4000
  pr : Pairs k.c k.hs k.T
def kFs (k : Ck) : List (Str × D) := [("_circuit", cD k.c), ("_period", .int k.T), ("_holds", hD k.hs)]
def kD' (K : PySem.W.Frag) (k : Ck) : D := .ins (He.ga K "Clocked") (kFs k)
abbrev A_ck := {k : Ck // CkOk k}
def p_Clocked_init (K : PySem.W.Frag) : IPrm A_ck := .one (He.ga K "Clocked") (fun x => [.dat (cD x.1.c), .dat (.int x.1.T), .dat (hD x.1.hs)]) fun x => kFs x.1
theorem sc_Clocked_init : FnScope ["self", "circuit", "period", "holds"] ["self", "circuit", "period", "holds"] (defScope (inClass (top 34) 0)) := ⟨rfl, rfl, rfl, by decide +kernel, rfl, by decide +kernel, by decide +kernel⟩
theorem mak_Clocked (G : Gs K mg) : C8.Mak P w K mg base 2 "Clocked" (He.ga K "Clocked") ((p_Clocked_init K).sp (He.ga K "Clocked")) [] := by
  have c_check_holds := cal_check_holds (P := P) (w := w) (base := base) G
  have c_check_pairs := cal_check_pairs (P := P) (w := w) (base := base) G
  refine IPrm.mak (p_Clocked_init K) G.mk_Clocked G.g_Clocked G.d_Clocked_init sc_Clocked_init (fun _ _ _ _ _ _ us hl => match us, hl with | [_, _, _, _], _ => rfl) (fun _ => rfl) (fun cdv A' outer s H E hr => ⟨_, (PSs.nox (pss_cons (ps_expr (C8.pe_c c_check_holds hr (by decide) (by rfl) (pa_cons (pvx 1) (pa_cons (pvx 3) pa_nil)))) (pss_cons (ps_if (pt_cmpR op_lt (pvx 2) pe_int (nomark _)) (pss_one ps_never) pss_nil) (pss_cons (ps_expr (C8.pe_c c_check_pairs hr (by decide) (by rfl) (pa_cons (pvx 1) (pa_cons (pvx 3) (pa_cons (pvx 2) pa_nil))))) (pss_cons (k_sfld (K := K) (pvx 0) (pvx 1)) (pss_cons (k_sfld (K := K) (pvx 0) (pvx 2)) (pss_one (k_sfld (K := K) (pvx 0) (pe_callTy (k_list (K := K)) (by rfl) G.f_list (by decide +kernel) (pa_cons (pvx 3) pa_nil)))))))))), ?_⟩)
  rintro ⟨k, hk⟩ F H1 a H σ ko Z q
  refine ec_init ko q ?_
  show Ec _ _ [.slf a (.ins (He.ga K "Clocked") []), .dat (cD k.c), .dat (.int k.T), .dat (hD k.hs)] _
  refine ec_seq (M := fun G => G = [.slf a (.ins (He.ga K "Clocked") []), .dat (cD k.c), .dat (.int k.T), .dat (hD k.hs)]) (ec_drop (ev_call (⟨(k.c, k.hs), hk.len⟩ : A_ch) (ea_cons (ev_var rfl) (ea_1 (ev_var rfl))) fits_pure rfl) rfl) ?_
  rintro _ rfl
  refine ec_noS ((et_bb (ev_var rfl) ev_int).to (decide_eq_false (by have := hk.T; omega))) ?_
  refine ec_seq (M := fun G => G = [.slf a (.ins (He.ga K "Clocked") []), .dat (cD k.c), .dat (.int k.T), .dat (hD k.hs)]) (ec_drop (ev_call (⟨(k.c, k.hs, k.T), hk.pr⟩ : A_cp) (ea_cons (ev_var rfl) (ea_cons (ev_var rfl) (ea_1 (ev_var rfl)))) fits_pure rfl) rfl) ?_
  rintro _ rfl
  refine ec_fldS G.cls_Clocked G.na_Clocked__circuit rfl (ev_var rfl) (by decide) ?_
  refine ec_fldS G.cls_Clocked G.na_Clocked__period rfl (ev_var rfl) (lt_ptF (by decide)) ?_
  exact ec_fld G.cls_Clocked G.na_Clocked__holds rfl (ev_fL (ev_listL (ev_bL (ev_var rfl)))) (lt_ptF (lt_ptF (by decide))) rfl
def p_Clocked_circuit (K : PySem.W.Frag) : Prm Ck := .fn (fun x => [.dat (kD' K x)]) fun x => .dat (cD x.c)
theorem sc_Clocked_circuit : FnScope ["self"] ["self"] (defScope (inClass (top 34) 3)) := ⟨rfl, rfl, rfl, by decide +kernel, rfl, by decide +kernel, by decide +kernel⟩
theorem met_Clocked_circuit (G : Gs K mg) : C8.Met P w K mg base 1 (He.ga K "Clocked") "circuit" (p_Clocked_circuit K).sp [] := by
  refine Prm.met (p_Clocked_circuit K) G.cls_Clocked G.me_Clocked_circuit G.d_Clocked_circuit sc_Clocked_circuit (fun _ _ _ _ _ _ us hl => match us, hl with | [_], _ => rfl) (fun _ => rfl) (fun cdv A' outer s H E hr => ⟨_, (PSs.nox (pss_one (ps_ret (k_fld (K := K) (pvx 0))))), ?_⟩)
  rintro k F H
  show Ec _ _ [.dat (kD' K k)] _
  exact ec_ret (ev_fld G.cls_Clocked G.na_Clocked__circuit (ev_var rfl) rfl) rfl
def p_Clocked_holds (K : PySem.W.Frag) : Prm Ck := .fn (fun x => [.dat (kD' K x)]) fun x => .own (.lst (x.hs.map pD))
theorem sc_Clocked_holds : FnScope ["self"] ["self"] (defScope (inClass (top 34) 4)) := ⟨rfl, rfl, rfl, by decide +kernel, rfl, by decide +kernel, by decide +kernel⟩
theorem met_Clocked_holds (G : Gs K mg) : C8.Met P w K mg base 1 (He.ga K "Clocked") "holds" (p_Clocked_holds K).sp [] := by
  refine Prm.met (p_Clocked_holds K) G.cls_Clocked G.me_Clocked_holds G.d_Clocked_holds sc_Clocked_holds (fun _ _ _ _ _ _ us hl => match us, hl with | [_], _ => rfl) (fun _ => rfl) (fun cdv A' outer s H E hr => ⟨_, (PSs.nox (pss_one (ps_ret (pe_callTy (k_list (K := K)) (by rfl) G.f_list (by decide +kernel) (pa_cons (k_fld (K := K) (pvx 0)) pa_nil))))), ?_⟩)
  rintro k F H
  show Ec _ _ [.dat (kD' K k)] _
  exact ec_ret (ev_listL (ev_bL (ev_fld G.cls_Clocked G.na_Clocked__holds (ev_var rfl) rfl))) rfl
/-! windows(0) -/
def wins (k : Ck) : List (Int × Int) := k.hs.map (fun p => (p.1, k.T + p.2)) ++ k.c.regs.map fun r => (r.e1 + r.o1, k.T + r.e0 + r.o0)
def p_Clocked_windows (K : PySem.W.Frag) : Prm A_ck := .fn (fun x => [.dat (kD' K x.1), .dat (.int 0)]) fun x => .own (.lst ((wins x.1).map pD))
theorem sc_Clocked_windows : FnScope ["self", "cycle", "begin", "end", "found", "_", "edge", "out", "since", "until"] ["self", "cycle"] (defScope (inClass (top 34) 5)) := ⟨rfl, rfl, rfl, by decide +kernel, rfl, by decide +kernel, by decide +kernel⟩
theorem met_Clocked_windows (G : Gs K mg) : C8.Met P w K mg base 1 (He.ga K "Clocked") "windows" (p_Clocked_windows K).sp [] := by
  refine Prm.met (p_Clocked_windows K) G.cls_Clocked G.me_Clocked_windows G.d_Clocked_windows sc_Clocked_windows (fun _ _ _ _ _ _ us hl => match us, hl with | [_, _], _ => rfl) (fun _ => rfl) (fun cdv A' outer s H E hr => ⟨_, (PSs.nox (pss_cons (ps_if (pt_cmpR op_lt (pvx 1) pe_int (nomark _)) (pss_one ps_never) pss_nil) (pss_cons (psx 2 sc_Clocked_windows.nd (pe_op op_times (pvx 1) (k_fld (K := K) (pvx 0)))) (pss_cons (psx 3 sc_Clocked_windows.nd (pe_op (k_plus (K := K)) (pvx 2) (k_fld (K := K) (pvx 0)))) (pss_cons (ps_setLc (i := 4) (own := [("since", 8), ("until", 9)]) (g := (gTup K 2 (gCons (gName 8) (gCons (gName 9) gNil)))) (by rfl) sc_Clocked_windows.nd (by rfl) (by rfl) (by rfl) (k_seq (K := K) (k_fld (K := K) (pvx 0))) (blkOk_by (by kernel_rfl)) (fun _ _ _ _ _ => (k_tup (K := K) (n := 2) (pgs_cons (pgx 8 sc_Clocked_windows.nd) (pgs_cons (pgx 9 sc_Clocked_windows.nd) pgs_nil)))) (fun _ _ _ _ _ => pts_nil) (fun _ _ _ _ _ => (pe_tup (pa_cons (pe_op (k_plus (K := K)) (pvx 2) (pvx 8)) (pa_cons (pe_op (k_plus (K := K)) (pvx 3) (pvx 9)) pa_nil))))) (pss_cons (ps_for PassesOwn.never (by rfl) (k_seq (K := K) (pe_ix (k_ix (K := K)) (k_fld (K := K) (pvx 0)) pe_int (fun _ _ => rfl))) (k_tup (K := K) (n := 7) (pgs_cons (pgx 5 sc_Clocked_windows.nd) (pgs_cons (pgx 5 sc_Clocked_windows.nd) (pgs_cons (pgx 6 sc_Clocked_windows.nd) (pgs_cons (pgx 7 sc_Clocked_windows.nd) (pgs_cons (pgx 5 sc_Clocked_windows.nd) (pgs_cons (pgx 5 sc_Clocked_windows.nd) (pgs_cons (pgx 5 sc_Clocked_windows.nd) pgs_nil)))))))) (pss_one (ps_expr (k_app (K := K) (pvx 4) (pa_cons (pe_tup (pa_cons (pe_op (k_plus (K := K)) (pe_op (k_plus (K := K)) (pvx 2) (pe_ix (k_ix (K := K)) (pvx 6) pe_int (fun _ _ => rfl))) (pe_ix (k_ix (K := K)) (pvx 7) pe_int (fun _ _ => rfl))) (pa_cons (pe_op (k_plus (K := K)) (pe_op (k_plus (K := K)) (pvx 3) (pe_ix (k_ix (K := K)) (pvx 6) pe_int (fun _ _ => rfl))) (pe_ix (k_ix (K := K)) (pvx 7) pe_int (fun _ _ => rfl))) pa_nil))) pa_nil))))) (pss_one (ps_ret (pvx 4))))))))), ?_⟩)
  rintro ⟨k, hk⟩ F H
  have hl := hk.len
  have hi := hk.wf.i
  have h3 := hk.wf.r
  show Ec _ _ [.dat (kD' K k), .dat (.int 0), .no, .no, .no, .no, .no, .no, .no, .no] _
  refine ec_noS ((et_bb (ev_var rfl) ev_int).to rfl) ?_
  refine ec_set ((ev_mul (ev_var rfl) (ev_fld G.cls_Clocked G.na_Clocked__period (ev_var rfl) rfl) (.inl ⟨by decide, by decide⟩)).to (congrArg (fun i => Sl.dat (.int i)) (Int.zero_mul k.T))) ?_
  refine ec_set ((ev_add (ev_var rfl) (ev_fld G.cls_Clocked G.na_Clocked__period (ev_var rfl) rfl)).to (congrArg (fun i => Sl.dat (.int i)) (Int.zero_add k.T))) ?_
  refine ec_set (ev_lcX k.hs pD (fun p => pD (p.1, k.T + p.2)) (it_list (ev_fld G.cls_Clocked G.na_Clocked__holds (ev_var rfl) rfl)) (by omega) fun i p hp => ⟨_, _, tg_tup (tgs_cons tg_name (tgs_cons tg_name tgs_nil)) rfl, ?_, ?_⟩) ?_
  · intro j hj; exact hj
  · exact (ev_tup (ds := [.int (0 + p.1), .int (k.T + p.2)]) (ea_cons (ev_add (ev_var rfl) (ev_var rfl)) (ea_1 (ev_add (ev_var rfl) (ev_var rfl)))) (by simp)).to (by rw [Int.zero_add]; rfl)
  have hA : ∀ i, i ≤ k.c.regs.length → (k.hs.map fun p => pD (p.1, k.T + p.2)) ++ ((k.c.regs.take i).map fun r => pD (r.e1 + r.o1, k.T + r.e0 + r.o0)) = ((k.hs.map (fun p => (p.1, k.T + p.2)) ++ (k.c.regs.take i).map fun r => (r.e1 + r.o1, k.T + r.e0 + r.o0)).map pD) := fun i _ => by
    rw [List.map_append, List.map_map, List.map_map]; rfl
  refine ec_seq (M := fun Γ => ∃ s5 s6 s7 s8 s9, Γ = [.dat (kD' K k), .dat (.int 0), .dat (.int 0), .dat (.int k.T), .own (.lst ((wins k).map pD)), s5, s6, s7, s8, s9]) ?_ ?_
  · refine ec_forX k.c.regs (fun _ r => rD r) (ds := k.c.regs.map rD) (it_tup (ev_ixT (ev_fld G.cls_Clocked G.na_Clocked__circuit (ev_var rfl) rfl) ev_int rfl)) (fun i d h => map_get h) (by rw [List.length_map]) (fun i Γ => ∃ s5 s6 s7 s8 s9, Γ = [.dat (kD' K k), .dat (.int 0), .dat (.int 0), .dat (.int k.T), .own (.lst ((k.hs.map fun p => pD (p.1, k.T + p.2)) ++ ((k.c.regs.take i).map fun r => pD (r.e1 + r.o1, k.T + r.e0 + r.o0)))), s5, s6, s7, s8, s9]) ⟨_, _, _, _, _, by rw [List.take_zero, List.map_nil, List.append_nil]; rfl⟩ ?_ ?_
    · rintro i r _ hr ⟨s5, s6, s7, s8, s9, rfl⟩
      have hi := (List.getElem?_eq_some_iff.mp hr).1
      refine ⟨_, _, tg_tup (tgs_cons tg_name (tgs_cons tg_name (tgs_cons tg_name (tgs_cons tg_name (tgs_cons tg_name (tgs_cons tg_name (tgs_cons tg_name tgs_nil))))))) rfl, ?_⟩
      refine ec_app (d := pD (r.e1 + r.o1, k.T + r.e0 + r.o0)) rfl ((ev_tup (ds := [.int (0 + r.e1 + r.o1), .int (k.T + r.e0 + r.o0)]) (ea_cons (ev_add (ev_add (ev_var rfl) (ev_ixT (ev_var rfl) ev_int rfl)) (ev_ixT (ev_var rfl) ev_int rfl)) (ea_1 (ev_add (ev_add (ev_var rfl) (ev_ixT (ev_var rfl) ev_int rfl)) (ev_ixT (ev_var rfl) ev_int rfl)))) (by simp)).to (by rw [Int.zero_add]; rfl)) ?_ ⟨_, _, _, _, _, by rw [take_snoc hr, List.map_append, ← List.append_assoc]; rfl⟩
      rw [List.length_append, List.length_map, List.length_map, List.length_take]
      omega
    · rintro _ ⟨s5, s6, s7, s8, s9, rfl⟩
      refine ⟨s5, s6, s7, s8, s9, ?_⟩
      rw [hA _ (Nat.le_refl _), List.take_length]
      rfl
  · rintro _ ⟨s5, s6, s7, s8, s9, rfl⟩
    exact ec_retO rfl rfl
/-! _row, needed -/
abbrev A_row := {x : Ck × Nat × Reg // x.1.c.regs[x.2.1]? = some x.2.2}
def p_Clocked__row (K : PySem.W.Frag) : Prm A_row := .fn (fun x => [.dat (kD' K x.1.1), .dat (.int x.1.2.1)]) fun x => .dat (rD x.1.2.2)
theorem sc_Clocked__row : FnScope ["self", "r"] ["self", "r"] (defScope (inClass (top 34) 7)) := ⟨rfl, rfl, rfl, by decide +kernel, rfl, by decide +kernel, by decide +kernel⟩
theorem met_Clocked__row (G : Gs K mg) : C8.Met P w K mg base 1 (He.ga K "Clocked") "_row" (p_Clocked__row K).sp [] := by
  refine Prm.met (p_Clocked__row K) G.cls_Clocked G.me_Clocked__row G.d_Clocked__row sc_Clocked__row (fun _ _ _ _ _ _ us hl => match us, hl with | [_, _], _ => rfl) (fun _ => rfl) (fun cdv A' outer s H E hr => ⟨_, (PSs.nox (pss_cons (ps_if (PW.pt (pw_or (pt_cmpR op_lt (pvx 1) pe_int (nomark _)) (pw_or1 (pt_cmpR op_ge (pvx 1) (pe_callB (k_len (K := K)) (by rfl) G.f_len (by decide +kernel) (pa_cons (pe_ix (k_ix (K := K)) (k_fld (K := K) (pvx 0)) pe_int (fun _ _ => rfl)) pa_nil)) (nomark _))))) (pss_one ps_never) pss_nil) (pss_one (ps_ret (pe_ix (k_ix (K := K)) (pe_ix (k_ix (K := K)) (k_fld (K := K) (pvx 0)) pe_int (fun _ _ => rfl)) (pvx 1) (fun _ _ => rfl)))))), ?_⟩)
  rintro ⟨⟨k, n, r⟩, h⟩ F H
  have h : k.c.regs[n]? = some r := h
  have hi := (List.getElem?_eq_some_iff.mp h).1
  show Ec _ _ [.dat (kD' K k), .dat (.int n)] _
  refine ec_noS ((et_or (et_bb (ev_var rfl) ev_int) fun _ => et_bb (ev_var rfl) (ev_lenT (ev_ixT (ev_fld G.cls_Clocked G.na_Clocked__circuit (ev_var rfl) rfl) ev_int rfl))).to ?_) ?_
  · rw [List.length_map]
    rw [decide_eq_false (by omega : ¬ ((n : Int) < 0)), decide_eq_false (by omega : ¬ ((k.c.regs.length : Int) ≤ n))]
    rfl
  · exact ec_ret (ev_ixT (ev_ixT (ev_fld G.cls_Clocked G.na_Clocked__circuit (ev_var rfl) rfl) ev_int rfl) (ev_var rfl) (atI_map h)) rfl
def p_Clocked_needed (K : PySem.W.Frag) : Prm A_row := .fn (fun x => [.dat (kD' K x.1.1), .dat (.int x.1.2.1)]) fun x => .dat (pD (x.1.1.T + x.1.2.2.e0 - x.1.2.2.su, x.1.1.T + x.1.2.2.e1 + x.1.2.2.ho))
theorem sc_Clocked_needed : FnScope ["self", "r", "_", "edge", "setup", "hold"] ["self", "r"] (defScope (inClass (top 34) 8)) := ⟨rfl, rfl, rfl, by decide +kernel, rfl, by decide +kernel, by decide +kernel⟩
theorem met_Clocked_needed (G : Gs K mg) : C8.Met P w K mg base 2 (He.ga K "Clocked") "needed" (p_Clocked_needed K).sp [] := by
  have m_Clocked__row := met_Clocked__row (P := P) (w := w) (base := base) G
  refine Prm.met (p_Clocked_needed K) G.cls_Clocked G.me_Clocked_needed G.d_Clocked_needed sc_Clocked_needed (fun _ _ _ _ _ _ us hl => match us, hl with | [_, _], _ => rfl) (fun _ => rfl) (fun cdv A' outer s H E hr => ⟨_, (PSs.nox (pss_cons (ps_asg (C8.pe_mt m_Clocked__row hr (by decide) (pvx 0) (pa_cons (pvx 1) pa_nil)) (k_tup (K := K) (n := 7) (pgs_cons (pgx 2 sc_Clocked_needed.nd) (pgs_cons (pgx 2 sc_Clocked_needed.nd) (pgs_cons (pgx 3 sc_Clocked_needed.nd) (pgs_cons (pgx 2 sc_Clocked_needed.nd) (pgs_cons (pgx 4 sc_Clocked_needed.nd) (pgs_cons (pgx 5 sc_Clocked_needed.nd) (pgs_cons (pgx 2 sc_Clocked_needed.nd) pgs_nil))))))))) (pss_one (ps_ret (pe_tup (pa_cons (pe_op op_sub (pe_op (k_plus (K := K)) (k_fld (K := K) (pvx 0)) (pe_ix (k_ix (K := K)) (pvx 3) pe_int (fun _ _ => rfl))) (pvx 4)) (pa_cons (pe_op (k_plus (K := K)) (pe_op (k_plus (K := K)) (k_fld (K := K) (pvx 0)) (pe_ix (k_ix (K := K)) (pvx 3) pe_int (fun _ _ => rfl))) (pvx 5)) pa_nil))))))), ?_⟩)
  rintro ⟨⟨k, n, r⟩, h⟩ F H
  show Ec _ _ [.dat (kD' K k), .dat (.int n), .no, .no, .no, .no] _
  refine ec_unpS (d := rD r) (evf_meth (⟨(k, n, r), h⟩ : A_row) (ev_var rfl) rfl (ea_1 (ev_var rfl)) rfl rfl) (tg_tup (tgs_cons tg_name (tgs_cons tg_name (tgs_cons tg_name (tgs_cons tg_name (tgs_cons tg_name (tgs_cons tg_name (tgs_cons tg_name tgs_nil))))))) rfl) ?_
  have fT : ∀ {Γ : List Sl}, Γ[0]? = some (.dat (kD' K k)) → EvE ((p_Clocked_needed K).wd ⟨(k, n, r), h⟩ F H) (tFld K (tVar 0) "_period") Γ (.dat (.int k.T)) := fun e => ev_fld G.cls_Clocked G.na_Clocked__period (ev_var e) rfl
  exact ec_ret (ev_tup (ds := [.int (k.T + r.e0 - r.su), .int (k.T + r.e1 + r.ho)]) (ea_cons (ev_bi (ev_add (fT rfl) (ev_ixT (ev_var rfl) ev_int rfl)) (ev_var rfl)) (ea_1 (ev_add (ev_add (fT rfl) (ev_ixT (ev_var rfl) ev_int rfl)) (ev_var rfl)))) (by simp)) rfl
/-! period -/
def p_Clocked_period (K : PySem.W.Frag) : Prm Ck := .fn (fun x => [.dat (kD' K x)]) fun x => .dat (.int x.T)
end Sg
/-! W4: the class Settled. -/
namespace Sg
open PySem PySem.Spec PyProof.Rows L2 Dn
variable {P : Program} {w : World} {K : PySem.W.Frag} {mg : Str → Option Value} {base : Heap}
structure Sx where
  c : Circ
  ws : List (Int × Int)
  kn : Addr
  vl : Addr
  wk : List (Key × D)
  dk : List (Key × D)
  rk : Str → Nat
structure SxOk (x : Sx) : Prop where
  wf : WF x.c
  wl : x.ws.length = (src x.c).length
  wk : ∀ (i : Nat) (n : Str) (v : Int × Int), (src x.c)[i]? = some n → x.ws[i]? = some v → lk x.wk (.inr n) = some (pD v)
  wkl : x.wk.length = (src x.c).length
  dk : Drv x.c x.dk
  ne : x.kn ≠ x.vl
  rk : RkOk x.c x.rk
def sFs (x : Sx) : List (Str × D) := [("_circuit", cD x.c), ("_windows", .dic x.wk), ("_driven", .dic x.dk), ("_known", .adr x.kn), ("_values", .adr x.vl)]
def sD (K : PySem.W.Frag) (x : Sx) : D := .ins (He.ga K "Settled") (sFs x)
def sM (x : Sx) (a : Addr) : Prop := a = x.kn ∨ a = x.vl
structure KnOk (x : Sx) (F : Hp) (kk : List NKV) : Prop where
  nd : (kk.map (·.1)).Nodup
  all : ∀ p ∈ kk, ∃ n t vec, Rep F (.ref p.2.1) (k3D n t vec) ∧ p.1 = k3N n t vec ∧ n ∈ nets x.c ∧ -1000 ≤ t ∧ t < 40000 ∧ vec.length = (src x.c).length
  tr : ∀ k v, lkN kk k = some v → v = .bl true
def SolD (c : Circ) (vec : List Bool) (d : D) : Prop := ∃ kvs u, d = .dic kvs ∧ Sol c vec u ∧ ∀ n ∈ nets c, lk kvs (.inr n) = some (.bl (u n))
structure VlOk (x : Sx) (F : Hp) (kk : List NKV) : Prop where
  nd : (kk.map (·.1)).Nodup
  all : ∀ p ∈ kk, ∃ vec : List Bool, Rep F (.ref p.2.1) (.tup (vec.map .bl)) ∧ p.1 = kvN vec ∧ vec.length = (src x.c).length
  tr : ∀ vec v, lkN kk (kvN vec) = some v → ∃ d, Rep F v d ∧ SolD x.c vec d
def sJ (P : Program) (w : World) (x : Sx) (F H : Hp) : Prop := (∃ kk, H x.kn = some (NDo P w x.kn kk) ∧ KnOk x F kk) ∧ ∃ kk, H x.vl = some (NDo P w x.vl kk) ∧ VlOk x F kk
theorem KnOk.le {x : Sx} {F F' : Hp} {kk : List NKV} (h : KnOk x F kk) (l : Le F F') : KnOk x F' kk := ⟨h.nd, fun p hp => by
  obtain ⟨n, t, vec, r, q⟩ := h.all p hp
  exact ⟨n, t, vec, r.mono l, q⟩, h.tr⟩
theorem VlOk.le {x : Sx} {F F' : Hp} {kk : List NKV} (h : VlOk x F kk) (l : Le F F') : VlOk x F' kk := ⟨h.nd, fun p hp => by
  obtain ⟨vec, r, q⟩ := h.all p hp
  exact ⟨vec, r.mono l, q⟩, fun vec v e => by
  obtain ⟨d, r, q⟩ := h.tr vec v e
  exact ⟨d, r.mono l, q⟩⟩
theorem sJ_st {x : Sx} {F H F' H' : Hp} (h : sJ P w x F H) (l : Le F F') (e : ∀ a, sM x a → H' a = H a) : sJ P w x F' H' := by
  obtain ⟨⟨kk, h1, h2⟩, kv, h3, h4⟩ := h
  exact ⟨⟨kk, (e _ (.inl rfl)).trans h1, h2.le l⟩, kv, (e _ (.inr rfl)).trans h3, h4.le l⟩
/-- a promise of one of its methods -/
def sP {A : Type} (P : Program) (w : World) (x : A → Sx) (args : A → List Sl) (res : A → Sl → Prop) : Prm A := ⟨fun a => sM (x a), fun a => sJ P w (x a), fun a {_ _ _ _} h l e => sJ_st h l e, args, res⟩
theorem fits_same {A B : Type} {p : Prm A} {q : Prm B} {a : A} {b : B} {F H : Hp} (hM : q.M b = p.M a) (hJ : q.J b = p.J a) : Fits (p.wd a F H) q b :=
  ⟨fun c h => by rw [hM] at h; exact h, fun F H s => by rw [hJ]; exact s.j, fun F H F' H' s g => by
    have := g.ok.j
    rw [show (q.wd b F H).J = q.J b from rfl, hJ] at this
    exact this⟩
section
variable {x : Sx} {F H : Hp}
theorem SxOk.m5 (h : SxOk x) : (src x.c).length ≤ 5 := by
  have h1 := h.wf.i
  have h2 := h.wf.r
  unfold src
  rw [List.length_append, List.length_map]; omega
theorem SxOk.n10 (h : SxOk x) : (nets x.c).length ≤ 10 := by
  have h1 := h.m5
  have h2 := h.wf.g
  unfold nets
  rw [List.length_append, List.length_map]; omega
theorem SxOk.m1 (h : SxOk x) : 1 ≤ (src x.c).length := by
  have := List.length_pos_iff.mpr h.wf.r1
  unfold src
  rw [List.length_append, List.length_map]; omega
theorem KnOk.keys {kk : List NKV} (h : KnOk x F kk) : KeysOk F kk := fun p hp => by
  obtain ⟨n, t, vec, r, e, _⟩ := h.all p hp
  rw [e]
  exact ⟨k3_key r, k3N_depth ..⟩
theorem VlOk.keys {kk : List NKV} (h : VlOk x F kk) : KeysOk F kk := fun p hp => by
  obtain ⟨vec, r, e, _⟩ := h.all p hp
  rw [e]
  exact ⟨vec_key r, kvN_depth ..⟩
theorem pow5 {m : Nat} (h : m ≤ 5) : 2 ^ m ≤ 32 := Nat.pow_le_pow_right (by decide) h
theorem KnOk.len {kk : List NKV} (hx : SxOk x) (h : KnOk x F kk) : kk.length < 16000000 := by
  have := k3_count (ns := nets x.c) (lo := -1000) (W := 41000) (m := (src x.c).length) h.nd fun k hk => by
    obtain ⟨p, hp, e⟩ := List.mem_map.mp hk
    obtain ⟨n, t, vec, _, e2, h1, h2, h3, h4⟩ := h.all p hp
    exact ⟨n, t, vec, e.symm.trans e2, h1, h2, by omega, h4⟩
  rw [List.length_map] at this
  have p5 := pow5 hx.m5
  have q : 41000 * 2 ^ (src x.c).length ≤ 41000 * 32 := Nat.mul_le_mul_left _ p5
  have q2 : (nets x.c).length * (41000 * 2 ^ (src x.c).length) ≤ 10 * (41000 * 32) := Nat.mul_le_mul hx.n10 q
  omega
theorem VlOk.len {kk : List NKV} (hx : SxOk x) (h : VlOk x F kk) : kk.length < 16000000 := by
  have := kv_count (m := (src x.c).length) h.nd fun k hk => by
    obtain ⟨p, hp, e⟩ := List.mem_map.mp hk
    obtain ⟨vec, _, e2, h4⟩ := h.all p hp
    exact ⟨vec, e.symm.trans e2, h4⟩
  rw [List.length_map] at this
  have p5 := pow5 hx.m5
  omega
end
/-! settled_value -/
structure VA where
  x : Sx
  net : Str
  vec : List Bool
  v : Str → Bool
abbrev A_sv := {y : VA // SxOk y.x ∧ y.net ∈ nets y.x.c ∧ Sol y.x.c y.vec y.v ∧ y.vec.length = (src y.x.c).length}
def p_settled_value (P : Program) (w : World) (K : PySem.W.Frag) : Prm A_sv := sP P w (fun y => y.1.x) (fun y => [.dat (sD K y.1.x), .dat (.str y.1.net), .dat (.tup (y.1.vec.map .bl))]) fun y s => s = .dat (.bl (y.1.v y.1.net))
theorem sc_Settled_settled_value : FnScope ["self", "net", "vector"] ["self", "net", "vector"] (defScope (inClass (top 30) 3)) := ⟨rfl, rfl, rfl, by decide +kernel, rfl, by decide +kernel, by decide +kernel⟩
theorem met_settled_value (G : Gs K mg) : C8.Met P w K mg base 4 (He.ga K "Settled") "settled_value" (p_settled_value P w K).sp [] := by
  have c_settle := cal_settle (P := P) (w := w) (base := base) G
  refine Prm.met (p_settled_value P w K) G.cls_Settled G.me_Settled_settled_value G.d_Settled_settled_value sc_Settled_settled_value (fun _ _ _ _ _ _ us hl => match us, hl with | [_, _, _], _ => rfl) (fun _ => rfl) (fun cdv A' outer s H E hr => ⟨_, (PSs.nox (pss_cons (ps_if (pt_cmp (pc_nnotin (P := P) (w := w) hr.units (pvx 2) (k_fld (K := K) (pvx 0)))) (pss_one (ps_nput (P := P) (w := w) hr.units (k_fld (K := K) (pvx 0)) (pvx 2) (C8.pe_c c_settle hr (by decide) (by rfl) (pa_cons (k_fld (K := K) (pvx 0)) (pa_cons (pvx 2) pa_nil))))) pss_nil) (pss_one (ps_ret (pe_dget (hu_of hr) (pe_nget (P := P) (w := w) hr.units (k_fld (K := K) (pvx 0)) (pvx 2) (fun _ _ => rfl)) (pvx 1) (fun _ _ => rfl)))))), ?_⟩)
  rintro ⟨⟨x, net, vec, v⟩, hx, hn, hv, hl⟩ F H
  have hx : SxOk x := hx
  have hn : net ∈ nets x.c := hn
  have hv : Sol x.c vec v := hv
  have hl : vec.length = (src x.c).length := hl
  show Ec _ _ [.dat (sD K x), .dat (.str net), .dat (.tup (vec.map .bl))] _
  have fV : EvP ((p_settled_value P w K).wd ⟨⟨x, net, vec, v⟩, hx, hn, hv, hl⟩ F H) (tFld K (tVar 0) "_values") [.dat (sD K x), .dat (.str net), .dat (.tup (vec.map .bl))] (.adr x.vl) := evp_fld G.cls_Settled G.na_Settled__values (evp_var rfl) rfl
  have fK : EvP ((p_settled_value P w K).wd ⟨⟨x, net, vec, v⟩, hx, hn, hv, hl⟩ F H) (tVar 2) [.dat (sD K x), .dat (.str net), .dat (.tup (vec.map .bl))] (.tup (vec.map .bl)) := evp_var rfl
  have ik : IsKey (.tup (vec.map .bl)) (kvN vec) := ⟨fun F v r => by
    have := vec_key r
    cases r
    exact ⟨_, rfl, this⟩, kvN_depth vec⟩
  refine ec_memo (R := SolD x.c vec) (G := fun Γ => Γ = [.dat (sD K x), .dat (.str net), .dat (.tup (vec.map .bl))]) fV fK ik ?_ (ech_put fV fK ik ?_ (.inr rfl) ?_) rfl ?_
  · rintro F H s
    obtain ⟨_, kv, h3, h4⟩ := (show sJ P w x F H from s.j)
    exact ⟨kv, h3, h4.keys, fun v e => h4.tr vec v e⟩
  · refine (ev_call (⟨(x.c, vec, v), hx.wf, hv, hl⟩ : A_sol) (ea_cons (ev_fld G.cls_Settled G.na_Settled__circuit (ev_var rfl) rfl) (ea_1 (ev_var rfl))) fits_pure rfl).fz ?_
    rintro s ⟨⟨kvs, rfl, h⟩, _⟩
    exact .inr ⟨_, rfl, _, rfl, kvs, v, rfl, hv, h⟩
  · rintro F H s
    obtain ⟨⟨kk, h1, h2⟩, kv, h3, h4⟩ := (show sJ P w x F H from s.j)
    refine ⟨kv, h3, h4.keys, h4.len hx, fun b v' d rb rv hR => ?_⟩
    refine ⟨⟨kk, ?_, h2⟩, _, upd_same, ptN_nodup h4.nd, fun p hp => ?_, fun vec' v2 hl2 => ?_⟩
    · rw [upd_ne hx.ne]; exact h1
    · rcases ptN_mem hp with ⟨q, hq, e1, e2, _⟩ | e1
      · obtain ⟨vec', r, e3, l3⟩ := h4.all q hq
        exact ⟨vec', by rw [e2]; exact r, e1.trans e3, l3⟩
      · subst e1; exact ⟨vec, rb, rfl, hl⟩
    · rw [lkN_pt] at hl2
      by_cases q : kvN vec = kvN vec'
      · rw [if_pos q] at hl2
        cases hl2
        rw [← kvN_inj q]
        exact ⟨d, rv, hR⟩
      · rw [if_neg q] at hl2
        exact h4.tr vec' v2 hl2
  · rintro _ rfl
    refine ret_getD fV fK ik (ky := .inr net) (evp_var rfl) ?_
    rintro d ⟨kvs, u, rfl, hu, hk⟩
    exact ⟨kvs, _, rfl, hk net hn, by rw [hu.uniq hx.wf hv net hn]; rfl⟩
/-! fits, marks -/
structure FA where
  x : Sx
  net : Str
  t : Int
  vec : List Bool
structure FOk (y : FA) : Prop where
  x : SxOk y.x
  net : y.net ∈ nets y.x.c
  win : InWin y.x.c y.x.ws y.net y.t
  lo : -1000 + 100 * (y.x.rk y.net : Int) ≤ y.t
  hi : y.t < 40000
  vec : y.vec.length = (src y.x.c).length
abbrev A_fits (r : Nat) := {y : FA // FOk y ∧ y.x.rk y.net < r}
def p_fits (P : Program) (w : World) (K : PySem.W.Frag) (r : Nat) : Prm (A_fits r) := sP P w (fun y => y.1.x) (fun y => [.dat (sD K y.1.x), .dat (.str y.1.net), .dat (.int y.1.t), .dat (.tup (y.1.vec.map .bl))]) fun _ s => s = .dat (.bl true)
structure MA where
  y : FA
  g : Gate
  v : Str → Bool
abbrev A_marks (r : Nat) := {z : MA // FOk z.y ∧ z.y.x.rk z.y.net < r ∧ z.g ∈ z.y.x.c.gates ∧ z.g.nm = z.y.net ∧ Sol z.y.x.c z.y.vec z.v}
def p_marks (P : Program) (w : World) (K : PySem.W.Frag) (r : Nat) : Prm (A_marks r) := sP P w (fun z => z.1.y.x) (fun z => [.dat (sD K z.1.y.x), .dat (.str z.1.y.net), .dat (.int z.1.y.t), .dat (.tup (z.1.y.vec.map .bl))]) fun z s => s = .dat (.tup ((z.1.g.nets.map z.1.v).map bI))
theorem atI_gate {c : Circ} {j : Nat} {g : Gate} (h : c.gates[j]? = some g) : atI (c.gates.map gD) (j : Int) = some (gD g) := atI_map h
theorem b62 {i j : Int} (h : -1000000000 ≤ i ∧ i ≤ 1000000000) (h' : -1000000000 ≤ j ∧ j ≤ 1000000000) : -(2 ^ 62) ≤ i ∧ i < 2 ^ 62 ∧ -(2 ^ 62) ≤ j ∧ j < 2 ^ 62 := by
  have e : (2 : Int) ^ 62 = 4611686018427387904 := by decide
  rw [e]
  omega
theorem sc_Settled_marks : FnScope ["self", "net", "time", "vector", "gate", "marks", "name", "known", "moment", "low", "high"] ["self", "net", "time", "vector"] (defScope (inClass (top 30) 5)) := ⟨rfl, rfl, rfl, by decide +kernel, rfl, by decide +kernel, by decide +kernel⟩
theorem sc_Settled_fits : FnScope ["self", "net", "time", "vector", "key"] ["self", "net", "time", "vector"] (defScope (inClass (top 30) 4)) := ⟨rfl, rfl, rfl, by decide +kernel, rfl, by decide +kernel, by decide +kernel⟩
theorem met_marks (G : Gs K mg) (r : Nat) (m_Settled_fits : C8.Met P w K mg base (2 * r + 5) (He.ga K "Settled") "fits" (p_fits P w K r).sp []) : C8.Met P w K mg base (2 * r + 6) (He.ga K "Settled") "marks" (p_marks P w K (r + 1)).sp [] := by
  have m_Settled_settled_value := met_settled_value (P := P) (w := w) (base := base) G
  refine Prm.met (k := 2 * r + 5) (p_marks P w K (r + 1)) G.cls_Settled G.me_Settled_marks G.d_Settled_marks sc_Settled_marks (fun _ _ _ _ _ _ us hl => match us, hl with | [_, _, _, _], _ => rfl) (fun _ => rfl) (fun cdv A' outer s H E hr => ⟨_, (PSs.nox (pss_cons (psx 4 sc_Settled_marks.nd (pe_ix (k_ix (K := K)) (pe_ix (k_ix (K := K)) (k_fld (K := K) (pvx 0)) pe_int (fun _ _ => rfl)) (pe_dget (hu_of hr) (k_fld (K := K) (pvx 0)) (pvx 1) (fun _ _ => rfl)) (fun _ _ => rfl))) (pss_cons (psx 5 sc_Settled_marks.nd (pe_lst pa_nil)) (pss_cons (ps_for PassesOwn.never (by rfl) (k_zip (K := K) (by rfl) G.f_zip (pa_cons (pe_ix (k_ix (K := K)) (pvx 4) pe_int (fun _ _ => rfl)) (pa_cons (pe_ix (k_ix (K := K)) (pvx 4) pe_int (fun _ _ => rfl)) pa_nil))) (k_tup (K := K) (n := 2) (pgs_cons (pgx 6 sc_Settled_marks.nd) (pgs_cons (k_tup (K := K) (n := 2) (pgs_cons (pgx 9 sc_Settled_marks.nd) (pgs_cons (pgx 10 sc_Settled_marks.nd) pgs_nil))) pgs_nil))) (pss_cons (psx 7 sc_Settled_marks.nd pe_bl) (pss_cons (ps_for PassesOwn.never (by rfl) (pi_range2 (by rfl) G.f_range (pa_cons (pe_op op_sub (pvx 2) (pvx 10)) (pa_cons (pe_op (k_plus (K := K)) (pe_op op_sub (pvx 2) (pvx 9)) pe_int) pa_nil))) (pgx 8 sc_Settled_marks.nd) (pss_one (psx 7 sc_Settled_marks.nd (pe_and (pvx 7) (pe_one (C8.pe_mt m_Settled_fits hr (by omega) (pvx 0) (pa_cons (pvx 6) (pa_cons (pvx 8) (pa_cons (pvx 3) pa_nil))))))))) (pss_one (ps_expr (k_app (K := K) (pvx 5) (pa_cons (pe_ifExp (pt_val (pvx 7)) (pe_callTy cr_int (by rfl) G.f_int (by decide +kernel) (pa_cons (C8.pe_mt m_Settled_settled_value hr (by omega) (pvx 0) (pa_cons (pvx 6) (pa_cons (pvx 3) pa_nil))) pa_nil)) (pe_un un_neg pe_int)) pa_nil))))))) (pss_one (ps_ret (pe_callTy (k_tuple (K := K)) (by rfl) G.f_tuple (by decide +kernel) (pa_cons (pvx 5) pa_nil)))))))), ?_⟩)
  rintro ⟨⟨⟨x, net, t, vec⟩, g, v⟩, hy, hr, hg, hnm, hv⟩ F H
  have hx : SxOk x := hy.x
  have hnet : net ∈ nets x.c := hy.net
  have hwin : InWin x.c x.ws net t := hy.win
  have hlo : -1000 + 100 * (x.rk net : Int) ≤ t := hy.lo
  have hhi : t < 40000 := hy.hi
  have hvec : vec.length = (src x.c).length := hy.vec
  have hr : x.rk net < r + 1 := hr
  have hg : g ∈ x.c.gates := hg
  have hnm : g.nm = net := hnm
  have hv : Sol x.c vec v := hv
  subst hnm
  have ok := hx.wf.gate g hg
  have hp3 := ok.pins
  obtain ⟨j, hj⟩ := List.mem_iff_getElem?.mp hg
  have hdr : lk x.dk (.inr g.nm) = some (.int (j : Nat)) := by rw [hx.dk.at_, gix_of hx.wf.nd hj]; rfl
  have fC : ∀ {W : Wd} {Γ : List Sl}, Γ[0]? = some (.dat (sD K x)) → EvE W (tFld K (tVar 0) "_circuit") Γ (.dat (cD x.c)) := fun e => ev_fld G.cls_Settled G.na_Settled__circuit (ev_var e) rfl
  have fD : ∀ {W : Wd} {Γ : List Sl}, Γ[0]? = some (.dat (sD K x)) → EvE W (tFld K (tVar 0) "_driven") Γ (.dat (.dic x.dk)) := fun e => ev_fld G.cls_Settled G.na_Settled__driven (ev_var e) rfl
  show Ec _ _ [.dat (sD K x), .dat (.str g.nm), .dat (.int t), .dat (.tup (vec.map .bl)), .no, .no, .no, .no, .no, .no, .no] _
  refine ec_set (ev_ixT (ev_ixT (fC rfl) ev_int rfl) (ev_dget (k := .inr g.nm) (ev_bD (fD rfl)) (ev_var rfl) hdr) (atI_gate hj)) ?_
  refine ec_set (ev_lst (ds := []) ea_nil (by decide)) ?_
  refine ec_seq (M := fun Γ => ∃ s6 s7 s8 s9 s10, Γ = [.dat (sD K x), .dat (.str g.nm), .dat (.int t), .dat (.tup (vec.map .bl)), .dat (gD g), .own (.lst ((g.nets.map v).map bI)), s6, s7, s8, s9, s10]) ?_ ?_
  · refine ec_forX (g.nets.zip g.rng) (fun _ p => .tup [.str p.1, pD p.2]) (it_zip (b := false) (c := false) (ds := g.nets.map .str) (es := g.rng.map pD) (ea_cons (ev_ixT (ev_var rfl) ev_int rfl) (ea_1 (ev_ixT (ev_var rfl) ev_int rfl)))) zip_at ?_
      (fun i Γ => ∃ s6 s7 s8 s9 s10, Γ = [.dat (sD K x), .dat (.str g.nm), .dat (.int t), .dat (.tup (vec.map .bl)), .dat (gD g), .own (.lst (((g.nets.take i).map v).map bI)), s6, s7, s8, s9, s10]) ⟨_, _, _, _, _, rfl⟩ ?_ ?_
    · rw [zipD_len, List.length_map, List.length_map, List.length_zip]
    · rintro i ⟨n, lo, hi⟩ _ hz ⟨s6, s7, s8, s9, s10, rfl⟩
      obtain ⟨h1, h2⟩ := List.getElem?_zip_eq_some.mp hz
      have h1 : g.nets[i]? = some n := h1
      have h2 : g.rng[i]? = some (lo, hi) := h2
      have hil := (List.getElem?_eq_some_iff.mp h1).1
      have hn : n ∈ g.nets := List.mem_of_getElem? h1
      have hrg := ok.lo (lo, hi) (List.mem_of_getElem? h2)
      have hlh : 0 ≤ lo ∧ lo ≤ hi ∧ hi ≤ 100 := hrg
      have hrk := hx.rk.lt g hg n hn
      have hnn := hx.wf.net hg hn
      refine ⟨_, _, tg_tup (tgs_cons tg_name (tgs_cons (tg_tup (tgs_cons tg_name (tgs_cons tg_name tgs_nil)) rfl) tgs_nil)) rfl, ?_⟩
      refine ec_set ev_bl ?_
      refine ec_seq (M := fun Γ => ∃ s8, Γ = [.dat (sD K x), .dat (.str g.nm), .dat (.int t), .dat (.tup (vec.map .bl)), .dat (gD g), .own (.lst (((g.nets.take i).map v).map bI)), .dat (.str n), .dat (.bl true), s8, .dat (.int lo), .dat (.int hi)]) ?_ ?_
      · refine ec_for (it_rng2 (ea_cons (ev_bi (ev_var rfl) (ev_var rfl)) (ea_1 (ev_add (ev_bi (ev_var rfl) (ev_var rfl)) ev_int))) (b62 ⟨by dsimp only; omega, by dsimp only; omega⟩ ⟨by dsimp only; omega, by dsimp only; omega⟩)) (fun _ Γ => ∃ s8, Γ = [.dat (sD K x), .dat (.str g.nm), .dat (.int t), .dat (.tup (vec.map .bl)), .dat (gD g), .own (.lst (((g.nets.take i).map v).map bI)), .dat (.str n), .dat (.bl true), s8, .dat (.int lo), .dat (.int hi)]) ⟨_, rfl⟩ ?_ fun _ h => h
        rintro k d _ hd ⟨s8, rfl⟩
        obtain ⟨hk, rfl⟩ := rngD_get hd
        have hk : k < (t - lo + 1 - (t - hi)).toNat := hk
        have fo : FOk ⟨x, n, t - hi + (k : Int), vec⟩ := ⟨hx, hnn, hwin.pin hg h1 h2 (by dsimp only; omega) (by dsimp only; omega), by show -1000 + 100 * (x.rk n : Int) ≤ t - hi + (k : Int); omega, by show t - hi + (k : Int) < 40000; omega, hvec⟩
        refine ⟨_, _, tg_name, ec_asg (s := .dat (.bl true)) (ev_andV (b := true) (c := true) (ev_var rfl) fun _ => ev_one (ev_meth (p := p_fits P w K r) (⟨⟨x, n, t - hi + (k : Int), vec⟩, fo, by show x.rk n < r; omega⟩ : A_fits r) (ev_var rfl) rfl (ea_cons (ev_var rfl) (ea_cons (ev_var rfl) (ea_1 (ev_var rfl)))) rfl (fits_same rfl rfl) rfl) fun s h => h.1) (fun o h => nomatch h) ⟨_, rfl⟩⟩
      · rintro _ ⟨s8, rfl⟩
        refine ec_app (d := bI (v n)) rfl (ev_if (b := true) (et_B (ev_var rfl)) (fun _ => ev_intB (b := v n) (ev_one (ev_meth (p := p_settled_value P w K) (⟨⟨x, n, vec, v⟩, hx, hnn, hv, hvec⟩ : A_sv) (ev_var rfl) rfl (ea_cons (ev_var rfl) (ea_1 (ev_var rfl))) rfl (fits_same rfl rfl) rfl) fun s h => h.1)) fun h => nomatch h) ?_ ⟨.dat (.str n), .dat (.bl true), s8, .dat (.int lo), .dat (.int hi), ?_⟩
        · rw [List.length_map, List.length_map, List.length_take]; omega
        · rw [take_snoc h1, List.map_append, List.map_append]; rfl
    · rintro _ ⟨s6, s7, s8, s9, s10, rfl⟩
      refine ⟨s6, s7, s8, s9, s10, ?_⟩
      rw [List.length_zip, ok.rng, Nat.min_self, List.take_length]
  · rintro _ ⟨s6, s7, s8, s9, s10, rfl⟩
    exact ec_ret (ev_tupL (ev_own rfl)) rfl
theorem met_fits (G : Gs K mg) : ∀ r : Nat, C8.Met P w K mg base (2 * r + 5) (He.ga K "Settled") "fits" (p_fits P w K r).sp []
  | 0 => Prm.met (k := 4) (p_fits P w K 0) G.cls_Settled G.me_Settled_fits G.d_Settled_fits sc_Settled_fits (fun _ _ _ _ _ _ us hl => match us, hl with | [_, _, _, _], _ => rfl) (fun _ => rfl) (fun cdv A' outer s H E hr => ⟨_, pss_never, fun y => absurd y.2.2 (Nat.not_lt_zero _)⟩)
  | r + 1 => by
    have m_Settled_marks := met_marks (P := P) (w := w) (base := base) G r (met_fits G r)
    have c_forced := cal_forced (P := P) (w := w) (base := base) G
    have c_in_window := cal_in_window (P := P) (w := w) (base := base) G
    refine Prm.met (k := 2 * r + 6) (p_fits P w K (r + 1)) G.cls_Settled G.me_Settled_fits G.d_Settled_fits sc_Settled_fits (fun _ _ _ _ _ _ us hl => match us, hl with | [_, _, _, _], _ => rfl) (fun _ => rfl) (fun cdv A' outer s H E hr => ⟨_, (PSs.nox (pss_cons (ps_if (pt_cmp (pc_dnotin (hu_of hr) (pvx 1) (k_fld (K := K) (pvx 0)))) (pss_one (ps_ret (C8.pe_c c_in_window hr (by omega) (by rfl) (pa_cons (pe_dget (hu_of hr) (k_fld (K := K) (pvx 0)) (pvx 1) (fun _ _ => rfl)) (pa_cons (pvx 2) pa_nil))))) pss_nil) (pss_cons (psx 4 sc_Settled_fits.nd (pe_tup (pa_cons (pvx 1) (pa_cons (pvx 2) (pa_cons (pvx 3) pa_nil))))) (pss_cons (ps_if (pt_cmp (pc_nnotin (P := P) (w := w) hr.units (pvx 4) (k_fld (K := K) (pvx 0)))) (pss_one (ps_nput (P := P) (w := w) hr.units (k_fld (K := K) (pvx 0)) (pvx 4) (pe_cmp (pc_notN (C8.pe_c c_forced hr (by omega) (by rfl) (pa_cons (pe_ix (k_ix (K := K)) (pe_ix (k_ix (K := K)) (pe_ix (k_ix (K := K)) (k_fld (K := K) (pvx 0)) pe_int (fun _ _ => rfl)) (pe_dget (hu_of hr) (k_fld (K := K) (pvx 0)) (pvx 1) (fun _ _ => rfl)) (fun _ _ => rfl)) pe_int (fun _ _ => rfl)) (pa_cons (C8.pe_mt m_Settled_marks hr (by omega) (pvx 0) (pa_cons (pvx 1) (pa_cons (pvx 2) (pa_cons (pvx 3) pa_nil)))) pa_nil))))))) pss_nil) (pss_one (ps_ret (pe_nget (P := P) (w := w) hr.units (k_fld (K := K) (pvx 0)) (pvx 4) (fun _ _ => rfl)))))))), ?_⟩)
    rintro ⟨⟨x, net, t, vec⟩, hy, hr⟩ F H
    have hx : SxOk x := hy.x
    have hnet : net ∈ nets x.c := hy.net
    have hwin : InWin x.c x.ws net t := hy.win
    have hlo : -1000 + 100 * (x.rk net : Int) ≤ t := hy.lo
    have hhi : t < 40000 := hy.hi
    have hvec : vec.length = (src x.c).length := hy.vec
    have hr : x.rk net < r + 1 := hr
    have fD : ∀ {W : Wd} {Γ : List Sl}, Γ[0]? = some (.dat (sD K x)) → EvE W (tFld K (tVar 0) "_driven") Γ (.dat (.dic x.dk)) := fun e => ev_fld G.cls_Settled G.na_Settled__driven (ev_var e) rfl
    show Ec _ _ [.dat (sD K x), .dat (.str net), .dat (.int t), .dat (.tup (vec.map .bl)), .no] _
    have tst : EvTE ((p_fits P w K (r + 1)).wd ⟨⟨x, net, t, vec⟩, hy, hr⟩ F H) (tB (tDNotIn (tVar 1) (tFld K (tVar 0) "_driven"))) [.dat (sD K x), .dat (.str net), .dat (.int t), .dat (.tup (vec.map .bl)), .no] (gix x.c net).isNone := (et_B (ev_dnotin (k := .inr net) (ev_var rfl) (ev_bD (fD rfl)))).to (by rw [hx.dk.at_]; cases gix x.c net <;> rfl)
    cases e : gix x.c net with
    | none =>
      rw [e] at tst
      obtain ⟨i, hi⟩ := List.mem_iff_getElem?.mp (gix_net hnet e)
      have hil := (List.getElem?_eq_some_iff.mp hi).1
      obtain ⟨v, hv⟩ : ∃ v, x.ws[i]? = some v := ⟨_, List.getElem?_eq_getElem (by rw [hx.wl]; exact hil)⟩
      obtain ⟨a, b⟩ := v
      have hw := hwin.src hi hv
      refine ec_seq (M := fun _ => False) (ec_if tst (fun _ => ec_ret (evf_call (res := fun y : (Int × Int) × Int => .dat (.bl (decide (y.1.1 ≤ y.2) && decide (y.2 < y.1.2)))) (args := fun y => [.dat (pD y.1), .dat (.int y.2)]) ((a, b), t) (ea_cons (ev_dget (k := .inr net) (ev_bD (ev_fld G.cls_Settled G.na_Settled__windows (ev_var rfl) rfl)) (ev_var rfl) (hx.wk i net (a, b) hi hv)) (ea_1 (ev_var rfl))) rfl) ?_) fun h => nomatch h) fun _ h => h.elim
      show Sl.dat (.bl (decide (a ≤ t) && decide (t < b))) = Sl.dat (.bl true)
      rw [decide_eq_true hw.1, decide_eq_true hw.2]
      rfl
    | some j =>
      rw [e] at tst
      obtain ⟨g, hj, hnm⟩ := gix_some e
      subst hnm
      have hg := List.mem_of_getElem? hj
      have ok := hx.wf.gate g hg
      have hp3 := ok.pins
      have hdr : lk x.dk (.inr g.nm) = some (.int (j : Nat)) := by rw [hx.dk.at_, e]; rfl
      obtain ⟨v, hv⟩ := hx.wf.sol hvec
      refine ec_noS tst ?_
      refine ec_set (ev_tup (ds := [.str g.nm, .int t, .tup (vec.map .bl)]) (ea_cons (ev_var rfl) (ea_cons (ev_var rfl) (ea_1 (ev_var rfl)))) (by simp)) ?_
      show Ec _ _ [.dat (sD K x), .dat (.str g.nm), .dat (.int t), .dat (.tup (vec.map .bl)), .dat (k3D g.nm t vec)] _
      have fK : EvP ((p_fits P w K (r + 1)).wd ⟨⟨x, g.nm, t, vec⟩, hy, hr⟩ F H) (tFld K (tVar 0) "_known") [.dat (sD K x), .dat (.str g.nm), .dat (.int t), .dat (.tup (vec.map .bl)), .dat (k3D g.nm t vec)] (.adr x.kn) := evp_fld G.cls_Settled G.na_Settled__known (evp_var rfl) rfl
      have fk : EvP ((p_fits P w K (r + 1)).wd ⟨⟨x, g.nm, t, vec⟩, hy, hr⟩ F H) (tVar 4) [.dat (sD K x), .dat (.str g.nm), .dat (.int t), .dat (.tup (vec.map .bl)), .dat (k3D g.nm t vec)] (k3D g.nm t vec) := evp_var rfl
      have ik : IsKey (k3D g.nm t vec) (k3N g.nm t vec) := ⟨fun F v r => by
        have := k3_key r
        cases r
        exact ⟨_, rfl, this⟩, k3N_depth ..⟩
      refine ec_memo (R := fun d => d = .bl true) (G := fun Γ => Γ = [.dat (sD K x), .dat (.str g.nm), .dat (.int t), .dat (.tup (vec.map .bl)), .dat (k3D g.nm t vec)]) fK fk ik ?_ (ech_put fK fk ik (EvE.ev (s := .dat (.bl true)) (ev_notN (d := .bl (v g.nm)) (evf_call (⟨(g.tab, g.nets.map v, v g.nm), hv.g g hg, ?_, ?_, ?_⟩ : A_forced) (ea_cons (ev_ixT (ev_ixT (ev_ixT (ev_fld G.cls_Settled G.na_Settled__circuit (ev_var rfl) rfl) ev_int rfl) (ev_dget (k := .inr g.nm) (ev_bD (fD rfl)) (ev_var rfl) hdr) (atI_gate hj)) ev_int rfl) (ea_1 (ev_one (ev_meth (p := p_marks P w K (r + 1)) (⟨⟨⟨x, g.nm, t, vec⟩, g, v⟩, hy, hr, hg, rfl, hv⟩ : A_marks (r + 1)) (ev_var rfl) rfl (ea_cons (ev_var rfl) (ea_cons (ev_var rfl) (ea_1 (ev_var rfl)))) rfl (fits_same rfl rfl) rfl) fun s h => h.1))) rfl) rfl) ⟨_, rfl, rfl⟩) (.inl rfl) ?_) rfl ?_
      · rintro F H s
        obtain ⟨⟨kk, h1, h2⟩, _⟩ := (show sJ P w x F H from s.j)
        exact ⟨kk, h1, h2.keys, fun v e => ⟨.bl true, by rw [h2.tr _ v e]; exact .bl true, rfl⟩⟩
      · show g.tab.length = 2 ^ (g.nets.map v).length
        rw [List.length_map]; exact ok.tab
      · show g.tab.length ≤ 1000
        rw [ok.tab]; exact Nat.le_trans (Nat.pow_le_pow_right (by decide) hp3) (by decide)
      · show (g.nets.map v).length ≤ 1000
        rw [List.length_map]; omega
      · rintro F H s
        obtain ⟨⟨kk, h1, h2⟩, kv, h3, h4⟩ := (show sJ P w x F H from s.j)
        refine ⟨kk, h1, h2.keys, h2.len hx, fun b v' d rb rv hR => ⟨⟨_, upd_same, ptN_nodup h2.nd, fun p hp => ?_, fun k' v2 hl2 => ?_⟩, kv, by rw [upd_ne (Ne.symm hx.ne)]; exact h3, h4⟩⟩
        · rcases ptN_mem hp with ⟨q, hq, e1, e2, _⟩ | e1
          · obtain ⟨n, t', vec', r, e3, q'⟩ := h2.all q hq
            exact ⟨n, t', vec', by rw [e2]; exact r, e1.trans e3, q'⟩
          · subst e1; exact ⟨g.nm, t, vec, rb, rfl, hnet, by omega, hhi, hvec⟩
        · rw [lkN_pt] at hl2
          by_cases q : k3N g.nm t vec = k'
          · rw [if_pos q] at hl2
            cases hl2
            subst hR
            cases rv
            rfl
          · rw [if_neg q] at hl2
            exact h2.tr k' v2 hl2
      · rintro _ rfl
        exact ret_get fK fk ik fun d hd => by rw [hd]; rfl
end Sg
/-! W5: Settled made; is_clean. -/
namespace Sg
open PySem PySem.Spec PyProof.Rows L2 Dn
variable {P : Program} {w : World} {K : PySem.W.Frag} {mg : Str → Option Value} {base : Heap}
theorem lk_mem {κ α : Type} [DecidableEq κ] {kvs : List (κ × α)} {k : κ} {v : α} (h : lk kvs k = some v) : k ∈ kvs.map (·.1) := by
  unfold lk at h
  obtain ⟨p, hp, _⟩ := Option.map_eq_some_iff.mp h
  have e : p.1 = k := of_decide_eq_true (List.find?_some (p := fun kv : κ × α => decide (kv.1 = k)) hp)
  exact List.mem_map.mpr ⟨p, List.mem_of_find?_eq_some hp, e⟩
/-- a new Settled at a -/
def SNew (P : Program) (w : World) (K : PySem.W.Frag) (c : Circ) (ws : List (Int × Int)) (a : Addr) (H0 F' H' : Hp) : Prop := ∃ x : Sx, x.c = c ∧ x.ws = ws ∧ SxOk x ∧ F' a = none ∧ OwRep F' H' a (.ins (He.ga K "Settled") (sFs x)) ∧ x.kn ≠ a ∧ x.vl ≠ a ∧
  (H0 a = none ∧ H0 x.kn = none ∧ H0 x.vl = none) ∧ (F' x.kn = none ∧ H' x.kn = some (NDo P w x.kn [])) ∧ F' x.vl = none ∧ H' x.vl = some (NDo P w x.vl [])
abbrev A_si := {y : Circ × List (Int × Int) // WF y.1 ∧ y.2.length = (src y.1).length}
def p_Settled_init (P : Program) (w : World) (K : PySem.W.Frag) : IPrm A_si := ⟨fun y => [.dat (cD y.1.1), .dat (.lst (y.1.2.map pD))], fun y a H1 F' H' => SNew P w K y.1.1 y.1.2 a H1 F' H'⟩
theorem sc_Settled_init : FnScope ["self", "circuit", "windows", "net", "window"] ["self", "circuit", "windows"] (defScope (inClass (top 30) 0)) := ⟨rfl, rfl, rfl, by decide +kernel, rfl, by decide +kernel, by decide +kernel⟩
theorem mak_Settled (G : Gs K mg) : C8.Mak P w K mg base 2 "Settled" (He.ga K "Settled") ((p_Settled_init P w K).sp (He.ga K "Settled")) [] := by
  have c_sources := cal_sources (P := P) (w := w) (base := base) G
  have c_drivers := cal_drivers (P := P) (w := w) (base := base) G
  refine IPrm.mak (p_Settled_init P w K) G.mk_Settled G.g_Settled G.d_Settled_init sc_Settled_init (fun _ _ _ _ _ _ us hl => match us, hl with | [_, _, _], _ => rfl) (fun _ => rfl) (fun cdv A' outer s H E hr => ⟨_, (PSs.nox (pss_cons (ps_if (pt_cmpR op_ne (pe_callB (k_len (K := K)) (by rfl) G.f_len (by decide +kernel) (pa_cons (pvx 2) pa_nil)) (pe_callB (k_len (K := K)) (by rfl) G.f_len (by decide +kernel) (pa_cons (C8.pe_c c_sources hr (by decide) (by rfl) (pa_cons (pvx 1) pa_nil)) pa_nil)) (nomark _)) (pss_one ps_never) pss_nil) (pss_cons (k_sfld (K := K) (pvx 0) (pvx 1)) (pss_cons (k_sfld (K := K) (pvx 0) (pe_dc (own := [("net", 3), ("window", 4)]) (g := (gTup K 2 (gCons (gName 3) (gCons (gName 4) gNil)))) (by rfl) sc_Settled_init.nd (k_zip (K := K) (by rfl) G.f_zip (pa_cons (C8.pe_c c_sources hr (by decide) (by rfl) (pa_cons (pvx 1) pa_nil)) (pa_cons (pvx 2) pa_nil))) (blkOk_by (by kernel_rfl)) (fun _ _ _ _ _ => (k_tup (K := K) (n := 2) (pgs_cons (pgx 3 sc_Settled_init.nd) (pgs_cons (pgx 4 sc_Settled_init.nd) pgs_nil)))) (fun _ _ _ _ _ => pts_nil) (fun _ _ _ _ _ => (pvx 3)) (fun _ _ _ _ _ => (pvx 4)))) (pss_cons (k_sfld (K := K) (pvx 0) (C8.pe_c c_drivers hr (by decide) (by rfl) (pa_cons (pvx 1) pa_nil))) (pss_cons (k_sfld (K := K) (pvx 0) (pe_nnew (P := P) (w := w))) (pss_one (k_sfld (K := K) (pvx 0) (pe_nnew (P := P) (w := w)))))))))), ?_⟩)
  rintro ⟨⟨c, ws⟩, hc, hl⟩ F H1 a H σ ko Z q
  have hc : WF c := hc
  have hl : ws.length = (src c).length := hl
  have h200 := src_len hc.sz
  refine (ech_seq (N := fun _ F' H' => SNew P w K c ws a H1 F' H') (M := fun G => G = [.slf a (.ins (He.ga K "Settled") []), .dat (cD c), .dat (.lst (ws.map pD)), .no, .no]) (ec_no ?_ rfl) ?_) σ F H ko Z fun Γ' σ' F' H' k' l n => q σ' F' H' k'.g n
  · refine (et_test (ev_neI (ev_lenL (ev_bL (ev_var rfl))) (ev_lenL (ev_own_bor (evf_call (⟨c, hc.sz⟩ : A_sz) (ea_1 (ev_var rfl)) rfl))))).to ?_
    rw [List.length_map, List.length_map, hl]
    simp
  rintro _ rfl
  refine ech_seq (M := fun G => G = [.slf a (.ins (He.ga K "Settled") [("_circuit", cD c)]), .dat (cD c), .dat (.lst (ws.map pD)), .no, .no]) (ec_fld G.cls_Settled G.na_Settled__circuit rfl (ev_var rfl) (by decide) rfl) ?_
  rintro _ rfl
  refine ech_seq (M := fun G => ∃ wk, G = [.slf a (.ins (He.ga K "Settled") [("_circuit", cD c), ("_windows", .dic wk)]), .dat (cD c), .dat (.lst (ws.map pD)), .no, .no] ∧ (∀ (i : Nat) (n : Str) (v : Int × Int), (src c)[i]? = some n → ws[i]? = some v → lk wk (.inr n) = some (pD v)) ∧ wk.length = (src c).length)
    (ec_fldR (R := fun d => ∃ wk, d = .dic wk ∧ (∀ (i : Nat) (n : Str) (v : Int × Int), (src c)[i]? = some n → ws[i]? = some v → lk wk (.inr n) = some (pD v)) ∧ wk.length = (src c).length) G.cls_Settled G.na_Settled__windows rfl ((ev_dcX ((src c).zip ws) (fun _ p => .tup [.str p.1, pD p.2]) (fun _ p => .inr p.1) (fun _ p => pD p.2) (it_zip (b := true) (c := true) (ds := (src c).map .str) (es := ws.map pD) (ea_cons (ev_fL (evf_call (⟨c, hc.sz⟩ : A_sz) (ea_1 (ev_var rfl)) rfl)) (ea_1 (ev_var rfl)))) zip_at (by rw [zipD_len, List.length_map, List.length_map, List.length_zip]) (by rw [List.length_zip]; omega) fun i p hp => ⟨_, _, tg_tup (tgs_cons tg_name (tgs_cons tg_name tgs_nil)) rfl, fun _ h => h, ev_var rfl, ev_var rfl⟩).fz ?_) (by show 1 < 1000; decide) ?_) ?_
  · rintro s ⟨out, rfl, ho, _, h2⟩
    have hk : ∀ (i : Nat) (n : Str) (v : Int × Int), (src c)[i]? = some n → ws[i]? = some v → lk out (.inr n) = some (pD v) := fun i n v hi hv => by
      refine h2 i (n, v) (List.getElem?_zip_eq_some.mpr ⟨hi, hv⟩) fun j y hij hy e => ?_
      have h1 := (List.getElem?_zip_eq_some.mp hy).1
      rw [Sum.inr.inj e] at h1
      have := (List.getElem?_inj (List.getElem?_eq_some_iff.mp hi).1 (nd_src hc.nd)).mp (hi.trans h1.symm)
      omega
    refine .inr ⟨_, rfl, _, rfl, out, rfl, hk, Nat.le_antisymm ?_ ?_⟩
    · rw [List.length_zip] at ho; omega
    · have : ((src c).map (Sum.inr (α := Int))).length ≤ (out.map (·.1)).length := List.Nodup.length_le_of_subset (List.Pairwise.map _ (fun a b h e => h (Sum.inr.inj e)) (nd_src hc.nd)) fun k hk' => by
        obtain ⟨n, hn, rfl⟩ := List.mem_map.mp hk'
        obtain ⟨i, hi⟩ := List.mem_iff_getElem?.mp hn
        have hil := (List.getElem?_eq_some_iff.mp hi).1
        exact lk_mem (hk i n ws[i] hi (List.getElem?_eq_getElem (by omega)))
      rw [List.length_map, List.length_map] at this
      exact this
  · rintro d ⟨wk, rfl, h⟩
    exact ⟨wk, rfl, h⟩
  rintro _ ⟨wk, rfl, hk, hkl⟩
  refine ech_seq (M := fun G => ∃ dk, G = [.slf a (.ins (He.ga K "Settled") [("_circuit", cD c), ("_windows", .dic wk), ("_driven", .dic dk)]), .dat (cD c), .dat (.lst (ws.map pD)), .no, .no] ∧ Drv c dk)
    (ec_fldR (R := fun d => ∃ dk, d = .dic dk ∧ Drv c dk) G.cls_Settled G.na_Settled__driven rfl ((ev_call (⟨c, hc.sz, hc.nd⟩ : A_nd) (ea_1 (ev_var rfl)) fits_pure rfl).fz ?_) (by show 2 < 1000; decide) ?_) ?_
  · rintro s ⟨⟨dk, rfl, h⟩, _⟩
    exact .inr ⟨_, rfl, _, rfl, dk, rfl, h⟩
  · rintro d ⟨dk, rfl, h⟩
    exact ⟨dk, rfl, h⟩
  rintro _ ⟨dk, rfl, hd⟩
  intro σ F H ko Z n
  refine ech_new2 G.cls_Settled G.na_Settled__known G.na_Settled__values rfl (by show 3 < 900; decide) (by show 0 < 5; decide) σ F H ko Z fun Γ' σ' F' H' k' l ⟨p, q, eG, hpa, hqa, hpq, np, nq⟩ => ?_
  subst eG
  obtain ⟨rk, hrk⟩ := hc.rank
  obtain ⟨_, h0, f0, r⟩ := k'.sl 0 _ rfl
  refine n _ σ' F' H' k' l ⟨⟨c, ws, p, q, wk, dk, rk⟩, rfl, rfl, ⟨hc, hl, hk, hkl, hd, hpq, hrk⟩, f0, r, hpa, hqa, ⟨h0, np.h0, nq.h0⟩, ⟨np.f0, np.at_⟩, nq.f0, nq.at_⟩
/-! all vectors -/
abbrev A_sx := {x : Sx // SxOk x}
def p_Settled__vectors (K : PySem.W.Frag) : Prm A_sx := .pu (fun x => [.dat (sD K x.1)]) fun x s => ∃ es : List (List Bool), s = .own (.lst (es.map fun b => .tup (b.map .bl))) ∧ es.length ≤ 1000 ∧ ∀ e ∈ es, e.length = (src x.1.c).length
theorem sc_Settled__vectors : FnScope ["self", "many", "index"] ["self"] (defScope (inClass (top 30) 2)) := ⟨rfl, rfl, rfl, by decide +kernel, rfl, by decide +kernel, by decide +kernel⟩
theorem met_Settled__vectors (G : Gs K mg) : C8.Met P w K mg base 2 (He.ga K "Settled") "_vectors" (p_Settled__vectors K).sp [] := by
  have c_bits_at := cal_bits_at (P := P) (w := w) (base := base) G
  refine Prm.met (p_Settled__vectors K) G.cls_Settled G.me_Settled__vectors G.d_Settled__vectors sc_Settled__vectors (fun _ _ _ _ _ _ us hl => match us, hl with | [_], _ => rfl) (fun _ => rfl) (fun cdv A' outer s H E hr => ⟨_, (PSs.nox (pss_cons (psx 1 sc_Settled__vectors.nd (pe_callB (k_len (K := K)) (by rfl) G.f_len (by decide +kernel) (pa_cons (k_fld (K := K) (pvx 0)) pa_nil))) (pss_one (ps_ret (pe_callB (k_sortB (K := K) hr.units) (by rfl) G.f_sorted (by decide +kernel) (pa_cons (pe_lc (own := [("index", 2)]) (g := (gName 2)) (by rfl) sc_Settled__vectors.nd (pi_range1 (by rfl) G.f_range (pa_cons (pe_op op_shl pe_int (pvx 1)) pa_nil)) (blkOk_by (by kernel_rfl)) (fun _ _ _ _ _ => (pgx 2 sc_Settled__vectors.nd)) (fun _ _ _ _ _ => pts_nil) (fun _ _ _ _ _ => (C8.pe_c c_bits_at hr (by decide) (by rfl) (pa_cons (pvx 2) (pa_cons (pvx 1) pa_nil))))) pa_nil)))))), ?_⟩)
  rintro ⟨x, hx⟩ F H
  have h5 := hx.m5
  have h1 := hx.m1
  have p5 := pow5 h5
  have hw := hx.wkl
  show Ec _ _ [.dat (sD K x), .no, .no] _
  refine ec_set (ev_lenD (ev_bD (ev_fld G.cls_Settled G.na_Settled__windows (ev_var rfl) rfl))) ?_
  rw [hw]
  have sh : EvE ((p_Settled__vectors K).wd ⟨x, hx⟩ F H) (tOp (rI CPow fun i j => .int (i * 2 ^ j.toNat)) (tC (.int 1)) (tVar 1)) [.dat (sD K x), .dat (.int ((src x.c).length : Nat)), .no] (.dat (.int ((2 ^ (src x.c).length : Nat) : Int))) := (ev_bc (g := fun i j => i * 2 ^ j.toNat) ev_int (ev_var rfl) ⟨by omega, by omega, by decide⟩).to (congrArg (fun i => Sl.dat (.int i)) (shl1 _))
  refine ec_retR (ev_sortB (bs := (List.range (2 ^ (src x.c).length)).map fun i => bits i (src x.c).length) (ev_own_bor ((ev_lcX (List.range (2 ^ (src x.c).length)) (fun k => .int (0 + (k : Nat))) (fun k => .tup ((bits k (src x.c).length).map .bl)) (it_rng1 (ea_1 sh) (by omega)) (by rw [List.length_range]; omega) fun j k hk => ⟨_, _, tg_name, fun _ h => h, evf_call (⟨(k, (src x.c).length), by show (src x.c).length ≤ 1000; omega⟩ : A_bits) (ea_cons ((ev_var rfl).to (by rw [Int.zero_add])) (ea_1 (ev_var rfl))) rfl⟩).to ?_)) ?_) ?_
  · rw [List.map_map]; rfl
  · rintro b hb e
    obtain ⟨i, _, rfl⟩ := List.mem_map.mp hb
    have := congrArg List.length e
    unfold bits at this
    rw [List.length_map, List.length_range, List.length_nil] at this
    omega
  · rintro s ⟨es, rfl, hl, hm⟩
    refine ⟨(fun o h => nomatch h), es, rfl, ?_, fun e he => ?_⟩
    · rw [hl, List.length_map, List.length_range]; omega
    · obtain ⟨i, _, rfl⟩ := List.mem_map.mp (hm e he)
      unfold bits
      rw [List.length_map, List.length_range]
/-! no loose vector -/
structure LA where
  x : Sx
  net : Str
  t : Int
structure LOk (y : LA) : Prop where
  x : SxOk y.x
  net : y.net ∈ nets y.x.c
  win : InWin y.x.c y.x.ws y.net y.t
  lo : -500 ≤ y.t
  hi : y.t < 40000
abbrev A_loose := {y : LA // LOk y}
def p_loose_vectors (P : Program) (w : World) (K : PySem.W.Frag) : Prm A_loose := sP P w (fun y => y.1.x) (fun y => [.dat (sD K y.1.x), .dat (.str y.1.net), .dat (.int y.1.t)]) fun _ s => s = .own (.lst [])
theorem sc_Settled__loose_vectors : FnScope ["self", "net", "time", "vector"] ["self", "net", "time"] (defScope (inClass (top 30) 7)) := ⟨rfl, rfl, rfl, by decide +kernel, rfl, by decide +kernel, by decide +kernel⟩
theorem met_loose_vectors (G : Gs K mg) : C8.Met P w K mg base 18 (He.ga K "Settled") "_loose_vectors" (p_loose_vectors P w K).sp [] := by
  have c_check_net := cal_check_net (P := P) (w := w) (base := base) G
  have m_Settled__vectors := met_Settled__vectors (P := P) (w := w) (base := base) G
  have m_Settled_fits : C8.Met P w K mg base 17 (He.ga K "Settled") "fits" (p_fits P w K 6).sp [] := met_fits (P := P) (w := w) (base := base) G 6
  refine Prm.met (p_loose_vectors P w K) G.cls_Settled G.me_Settled__loose_vectors G.d_Settled__loose_vectors sc_Settled__loose_vectors (fun _ _ _ _ _ _ us hl => match us, hl with | [_, _, _], _ => rfl) (fun _ => rfl) (fun cdv A' outer s H E hr => ⟨_, (PSs.nox (pss_cons (ps_expr (C8.pe_c c_check_net hr (by decide) (by rfl) (pa_cons (k_fld (K := K) (pvx 0)) (pa_cons (pvx 1) pa_nil)))) (pss_one (ps_ret (pe_lc (own := [("vector", 3)]) (g := (gName 3)) (by rfl) sc_Settled__loose_vectors.nd (k_seq (K := K) (C8.pe_mt0 m_Settled__vectors hr (by decide) (pvx 0))) (blkOk_by (by kernel_rfl)) (fun _ _ _ _ _ => (pgx 3 sc_Settled__loose_vectors.nd)) (fun _ _ _ _ _ => (pts_one (pt_not (pt_val (C8.pe_mt m_Settled_fits hr (by decide) (pvx 0) (pa_cons (pvx 1) (pa_cons (pvx 2) (pa_cons (pvx 3) pa_nil)))))))) (fun _ _ _ _ _ => (pvx 3))))))), ?_⟩)
  rintro ⟨⟨x, net, t⟩, hy⟩ F H
  have hx : SxOk x := hy.x
  have hnet : net ∈ nets x.c := hy.net
  have hwin : InWin x.c x.ws net t := hy.win
  have hlo : -500 ≤ t := hy.lo
  have hhi : t < 40000 := hy.hi
  have h5 := hx.rk.le net
  show Ec _ _ [.dat (sD K x), .dat (.str net), .dat (.int t), .no] _
  refine ec_seq (M := fun G => G = [.dat (sD K x), .dat (.str net), .dat (.int t), .no]) (ec_drop (ev_call (⟨(x.c, net), hx.wf.sz, hnet⟩ : A_net) (ea_cons (ev_fld G.cls_Settled G.na_Settled__circuit (ev_var rfl) rfl) (ea_1 (ev_var rfl))) fits_pure rfl) rfl) ?_
  rintro _ rfl
  refine ec_retR (ev_lcR (S := fun ds => ∃ es : List (List Bool), ds = es.map (fun b => .tup (b.map .bl)) ∧ es.length ≤ 1000 ∧ ∀ e ∈ es, e.length = (src x.c).length) (itR_seq ((ev_meth (p := p_Settled__vectors K) (⟨x, hx⟩ : A_sx) (ev_var rfl) rfl ea_nil rfl fits_pure rfl).fz (R' := fun s => ∃ es : List (List Bool), s = .dat (.lst (es.map fun b => .tup (b.map .bl))) ∧ es.length ≤ 1000 ∧ ∀ e ∈ es, e.length = (src x.c).length) ?_) ?_) ?_ (fun _ _ out => out = []) (fun _ _ => rfl) ?_) ?_
  · rintro s ⟨⟨es, rfl, h⟩, _⟩
    exact .inr ⟨_, rfl, es, rfl, h⟩
  · rintro s ⟨es, rfl, h⟩
    exact ⟨_, _, ⟨es, rfl, h⟩, rfl, .inl ⟨true, rfl⟩⟩
  · rintro ds ⟨es, rfl, h, _⟩
    rw [List.length_map]; exact h
  · rintro ds i d out ⟨es, rfl, h1, h2⟩ hd hI _
    obtain ⟨vec, hv, rfl⟩ := map_get hd
    have fo : FOk ⟨x, net, t, vec⟩ := ⟨hx, hnet, hwin, by show -1000 + 100 * (x.rk net : Int) ≤ t; omega, hhi, h2 vec (List.mem_of_getElem? hv)⟩
    exact ⟨_, _, fun b => b = false, tg_name, fun _ h => h, (et_not (b := true) (et_B (ev_one (ev_meth (p := p_fits P w K 6) (⟨⟨x, net, t, vec⟩, fo, Nat.lt_succ_of_le h5⟩ : A_fits 6) (ev_var rfl) rfl (ea_cons (ev_var rfl) (ea_cons (ev_var rfl) (ea_1 (ev_var rfl)))) rfl (fits_same rfl rfl) rfl) fun s h => h.1))).ev rfl, fun hb => (nomatch hb), fun _ => hI⟩
  · rintro s ⟨ds, out, _, rfl, rfl⟩
    exact ⟨(fun o h => nomatch h), rfl⟩
def p_loose_vector (P : Program) (w : World) (K : PySem.W.Frag) : Prm A_loose := sP P w (fun y => y.1.x) (fun y => [.dat (sD K y.1.x), .dat (.str y.1.net), .dat (.int y.1.t)]) fun _ s => s = .dat .non
theorem sc_Settled_loose_vector : FnScope ["self", "net", "time"] ["self", "net", "time"] (defScope (inClass (top 30) 9)) := ⟨rfl, rfl, rfl, by decide +kernel, rfl, by decide +kernel, by decide +kernel⟩
theorem met_loose_vector (G : Gs K mg) : C8.Met P w K mg base 19 (He.ga K "Settled") "loose_vector" (p_loose_vector P w K).sp [] := by
  have m_Settled__loose_vectors := met_loose_vectors (P := P) (w := w) (base := base) G
  refine Prm.met (p_loose_vector P w K) G.cls_Settled G.me_Settled_loose_vector G.d_Settled_loose_vector sc_Settled_loose_vector (fun _ _ _ _ _ _ us hl => match us, hl with | [_, _, _], _ => rfl) (fun _ => rfl) (fun cdv A' outer s H E hr => ⟨_, (PSs.nox (pss_one (ps_ret (pe_callBK (k_minKw (K := K) hr.units) (by rfl) G.f_min (by decide +kernel) (pa_cons (C8.pe_mt m_Settled__loose_vectors hr (by decide) (pvx 0) (pa_cons (pvx 1) (pa_cons (pvx 2) pa_nil))) pa_nil) (pk_cons pe_non pk_nil))))), ?_⟩)
  rintro ⟨y, hy⟩ F H
  show Ec _ _ [.dat (sD K y.x), .dat (.str y.net), .dat (.int y.t)] _
  exact ec_ret (ev_minKw (ev_own_bor (ev_one (ev_meth (p := p_loose_vectors P w K) (⟨y, hy⟩ : A_loose) (ev_var rfl) rfl (ea_cons (ev_var rfl) (ea_1 (ev_var rfl))) rfl (fits_same rfl rfl) rfl) fun s h => h.1)) (ea_1 ev_non)) rfl
/-! settled() -/
def spSettled (P : Program) (w : World) (K : PySem.W.Frag) : Sp := fun vs H Q _ => ∃ (k : Ck) (F : Hp) (v : V), CkOk k ∧ Sok (wd0 F H) F H ∧ vs = [v] ∧ Rep F v (kD' K k) ∧ ∀ a F' H', Gr0 F H F' H' → SNew P w K k.c (wins k) a H F' H' → Q (.ref a) H'
theorem sc_Clocked_settled : FnScope ["self"] ["self"] (defScope (inClass (top 34) 6)) := ⟨rfl, rfl, rfl, by decide +kernel, rfl, by decide +kernel, by decide +kernel⟩
theorem SNew.back {c : Circ} {ws : List (Int × Int)} {a : Addr} {H0 H1 F' H' : Hp} (h : SNew P w K c ws a H1 F' H') (g : ∀ b, H1 b = none → H0 b = none) : SNew P w K c ws a H0 F' H' := by
  obtain ⟨x, h1, h2, h3, h4, h5, h6, h7, ⟨a1, a2, a3⟩, h9⟩ := h
  exact ⟨x, h1, h2, h3, h4, h5, h6, h7, ⟨g _ a1, g _ a2, g _ a3⟩, h9⟩
theorem wins_len {k : Ck} (h : CkOk k) : (wins k).length = (src k.c).length := by
  unfold wins src
  rw [List.length_append, List.length_append, List.length_map, List.length_map, List.length_map, h.len]
theorem met_settled (G : Gs K mg) : C8.Met P w K mg base 4 (He.ga K "Clocked") "settled" (spSettled P w K) [] := by
  have m_Clocked_windows := met_Clocked_windows (P := P) (w := w) (base := base) G
  have k_Settled := mak_Settled (P := P) (w := w) (base := base) G
  obtain ⟨fd, FD⟩ := G.d_Clocked_settled
  refine ⟨_, fd, ["self"], [], G.cls_Clocked, G.me_Clocked_settled, FD.ok sc_Clocked_settled (fun vs H Q E ⟨k, F, v, _, _, e, _⟩ => by rw [e]; rfl) (fun cdv A' outer s H vs Q E hr h => ⟨_, (PSs.nox (pss_one (ps_ret (C8.pe_mk k_Settled hr (by decide) (by rfl) (pa_cons (k_fld (K := K) (pvx 0)) (pa_cons (C8.pe_mt m_Clocked_windows hr (by decide) (pvx 0) (pa_cons pe_int pa_nil)) pa_nil)))))), ?_⟩), FD.bindsN (fun _ _ _ _ _ _ us hl => match us, hl with | [_], _ => rfl), .nil⟩
  obtain ⟨k, F, v, hk, s0, rfl, rv, q⟩ := h
  have k0 : Ok (wd0 F H) [.dat (kD' K k)] [some v] F H := ok_start (W := wd0 F H) (N := ["self"]) (vs := [v]) (ss := [.dat (kD' K k)]) s0 (.cons rv .nil)
  refine make_run (p := p_Settled_init P w K) (W := wd0 F H) (Γ := [.dat (kD' K k)]) (⟨(k.c, wins k), hk.wf, wins_len hk⟩ : A_si) (ea_cons (ev_fld G.cls_Clocked G.na_Clocked__circuit (ev_var rfl) rfl) (ea_1 (ev_fL (evf_meth (⟨k, hk⟩ : A_ck) (ev_var rfl) rfl (ea_1 ev_int) rfl rfl)))) rfl _ F H k0 _ fun a F1 H1 F' H' g1 g0 ha o => ?_
  exact q a F' H' (g1.trans (gr0_of g1.ok g0)) (o.back fun b => g1.no)
end Sg
/-! W6: violations, is_clean; the period. -/
namespace Sg
open PySem PySem.Spec PyProof.Rows L2 Dn
variable {P : Program} {w : World} {K : PySem.W.Frag} {mg : Str → Option Value} {base : Heap}
structure ViA where
  k : Ck
  x : Sx
  n : Nat
  r : Reg
structure ViOk (y : ViA) : Prop where
  k : CkOk y.k
  x : SxOk y.x
  c : y.x.c = y.k.c
  r : y.k.c.regs[y.n]? = some y.r
  win : ∀ t, y.k.T + y.r.e0 - y.r.su ≤ t → t ≤ y.k.T + y.r.e1 + y.r.ho → InWin y.x.c y.x.ws y.r.net t ∧ -500 ≤ t ∧ t < 40000
abbrev A_vi := {y : ViA // ViOk y}
def p_violation (P : Program) (w : World) (K : PySem.W.Frag) : Prm A_vi := sP P w (fun y => y.1.x) (fun y => [.dat (kD' K y.1.k), .dat (.int y.1.n), .dat (sD K y.1.x)]) fun _ s => s = .dat .non
theorem sc_Clocked_violation : FnScope ["self", "r", "settled", "time", "first", "last", "vector"] ["self", "r", "settled"] (defScope (inClass (top 34) 9)) := ⟨rfl, rfl, rfl, by decide +kernel, rfl, by decide +kernel, by decide +kernel⟩
theorem met_violation (G : Gs K mg) : C8.Met P w K mg base 20 (He.ga K "Clocked") "violation" (p_violation P w K).sp [] := by
  have m_Clocked_needed := met_Clocked_needed (P := P) (w := w) (base := base) G
  have m_Settled_loose_vector := met_loose_vector (P := P) (w := w) (base := base) G
  refine Prm.met (p_violation P w K) G.cls_Clocked G.me_Clocked_violation G.d_Clocked_violation sc_Clocked_violation (fun _ _ _ _ _ _ us hl => match us, hl with | [_, _, _], _ => rfl) (fun _ => rfl) (fun cdv A' outer s H E hr => ⟨_, (PSs.nox (pss_cons (ps_asg (C8.pe_mt m_Clocked_needed hr (by decide) (pvx 0) (pa_cons (pvx 1) pa_nil)) (k_tup (K := K) (n := 2) (pgs_cons (pgx 4 sc_Clocked_violation.nd) (pgs_cons (pgx 5 sc_Clocked_violation.nd) pgs_nil)))) (pss_cons (ps_for PassesOwn.never (by rfl) (pi_range2 (by rfl) G.f_range (pa_cons (pvx 4) (pa_cons (pe_op (k_plus (K := K)) (pvx 5) pe_int) pa_nil))) (pgx 3 sc_Clocked_violation.nd) (pss_cons (psx 6 sc_Clocked_violation.nd (C8.pe_mt m_Settled_loose_vector hr (by decide) (pvx 2) (pa_cons (pe_ix (k_ix (K := K)) (pe_ix (k_ix (K := K)) (pe_ix (k_ix (K := K)) (k_fld (K := K) (pvx 0)) pe_int (fun _ _ => rfl)) (pvx 1) (fun _ _ => rfl)) pe_int (fun _ _ => rfl)) (pa_cons (pvx 3) pa_nil)))) (pss_one (ps_if (pt_cmp (pc_notN (pvx 6))) (pss_one (ps_ret (pe_tup (pa_cons (pvx 1) (pa_cons (pvx 3) (pa_cons (pvx 6) pa_nil)))))) pss_nil)))) (pss_one (ps_ret pe_non))))), ?_⟩)
  rintro ⟨⟨k, x, n, r⟩, hy⟩ F H
  have hk : CkOk k := hy.k
  have hx : SxOk x := hy.x
  have hc : x.c = k.c := hy.c
  have hr : k.c.regs[n]? = some r := hy.r
  have hw : ∀ t, k.T + r.e0 - r.su ≤ t → t ≤ k.T + r.e1 + r.ho → InWin x.c x.ws r.net t ∧ -500 ≤ t ∧ t < 40000 := hy.win
  have rok := hk.wf.reg r (List.mem_of_getElem? hr)
  have hT := hk.T
  have hT2 := hk.T2
  obtain ⟨_, re0, re1, re2, _, _, _, ⟨rs0, rs1⟩, ⟨rh0, rh1⟩, _⟩ := rok
  have hnet := (hk.wf.reg r (List.mem_of_getElem? hr)).net
  show Ec _ _ [.dat (kD' K k), .dat (.int n), .dat (sD K x), .no, .no, .no, .no] _
  refine ec_unpS (d := pD (k.T + r.e0 - r.su, k.T + r.e1 + r.ho)) (evf_meth (⟨(k, n, r), hr⟩ : A_row) (ev_var rfl) rfl (ea_1 (ev_var rfl)) rfl rfl) (tg_tup (tgs_cons tg_name (tgs_cons tg_name tgs_nil)) rfl) ?_
  refine ec_seq (M := fun _ => True) ?_ fun _ _ => ec_retN rfl
  refine ec_for (it_rng2 (ea_cons (ev_var rfl) (ea_1 (ev_add (ev_var rfl) ev_int))) (b62 ⟨by dsimp only; omega, by dsimp only; omega⟩ ⟨by dsimp only; omega, by dsimp only; omega⟩)) (fun _ Γ => ∃ s3 s6, Γ = [.dat (kD' K k), .dat (.int n), .dat (sD K x), s3, .dat (.int (k.T + r.e0 - r.su)), .dat (.int (k.T + r.e1 + r.ho)), s6]) ⟨_, _, rfl⟩ ?_ fun _ _ => trivial
  rintro i d _ hd ⟨s5, s6, rfl⟩
  obtain ⟨hi, rfl⟩ := rngD_get hd
  have hi : i < (k.T + r.e1 + r.ho + 1 - (k.T + r.e0 - r.su)).toNat := hi
  obtain ⟨h1, h2, h3⟩ := hw (k.T + r.e0 - r.su + (i : Int)) (by omega) (by omega)
  refine ⟨_, _, tg_name, ?_⟩
  refine ec_set (s := .dat .non) (ev_one (ev_meth (p := p_loose_vector P w K) (⟨⟨x, r.net, k.T + r.e0 - r.su + (i : Int)⟩, ⟨hx, by show r.net ∈ nets x.c; rw [hc]; exact hnet, h1, h2, h3⟩⟩ : A_loose) (ev_var rfl) rfl (ea_cons (ev_ixT (ev_ixT (ev_ixT (ev_fld G.cls_Clocked G.na_Clocked__circuit (ev_var rfl) rfl) ev_int rfl) (ev_var rfl) (atI_map hr)) ev_int rfl) (ea_1 (ev_var rfl))) rfl (fits_same rfl rfl) rfl) fun s h => h.1) ?_
  exact ec_no (et_B (ev_notN (ev_var rfl) rfl)) ⟨_, _, rfl⟩
/-- no time of the edge at which a vector is loose -/
def Clean (k : Ck) : Prop := ∀ r ∈ k.c.regs, ∀ t, k.T + r.e0 - r.su ≤ t → t ≤ k.T + r.e1 + r.ho → InWin k.c (wins k) r.net t ∧ -500 ≤ t ∧ t < 40000
abbrev A_cl := {k : Ck // CkOk k ∧ Clean k}
def p_Clocked_violations (K : PySem.W.Frag) : Prm A_cl := .fn (fun x => [.dat (kD' K x.1)]) fun _ => .own (.lst [])
theorem sc_Clocked_violations : FnScope ["self", "settled", "found", "r", "row"] ["self"] (defScope (inClass (top 34) 10)) := ⟨rfl, rfl, rfl, by decide +kernel, rfl, by decide +kernel, by decide +kernel⟩
theorem met_violations (G : Gs K mg) : C8.Met P w K mg base 21 (He.ga K "Clocked") "violations" (p_Clocked_violations K).sp [] := by
  have m_Clocked_violation := met_violation (P := P) (w := w) (base := base) G
  have m_Clocked_settled := met_settled (P := P) (w := w) (base := base) G
  refine Prm.met (p_Clocked_violations K) G.cls_Clocked G.me_Clocked_violations G.d_Clocked_violations sc_Clocked_violations (fun _ _ _ _ _ _ us hl => match us, hl with | [_], _ => rfl) (fun _ => rfl) (fun cdv A' outer s H E hr => ⟨_, (PSs.nox (pss_cons (psx 1 sc_Clocked_violations.nd (C8.pe_mt0 m_Clocked_settled hr (by decide) (pvx 0))) (pss_cons (ps_setLc (i := 2) (own := [("r", 3)]) (g := (gName 3)) (by rfl) sc_Clocked_violations.nd (by rfl) (by rfl) (by rfl) (pi_range1 (by rfl) G.f_range (pa_cons (pe_callB (k_len (K := K)) (by rfl) G.f_len (by decide +kernel) (pa_cons (pe_ix (k_ix (K := K)) (k_fld (K := K) (pvx 0)) pe_int (fun _ _ => rfl)) pa_nil)) pa_nil)) (blkOk_by (by kernel_rfl)) (fun _ _ _ _ _ => (pgx 3 sc_Clocked_violations.nd)) (fun _ _ _ _ _ => pts_nil) (fun _ _ _ _ _ => (C8.pe_mt m_Clocked_violation hr (by decide) (pvx 0) (pa_cons (pvx 3) (pa_cons (pvx 1) pa_nil))))) (pss_one (ps_ret (pe_lc (own := [("row", 4)]) (g := (gName 4)) (by rfl) sc_Clocked_violations.nd (k_seq (K := K) (pvx 2)) (blkOk_by (by kernel_rfl)) (fun _ _ _ _ _ => (pgx 4 sc_Clocked_violations.nd)) (fun _ _ _ _ _ => (pts_one (pt_cmp (pc_notN (pvx 4))))) (fun _ _ _ _ _ => (pvx 4)))))))), ?_⟩)
  rintro ⟨k, hk, hcl⟩ F H
  show Ec _ _ [.dat (kD' K k), .no, .no, .no, .no] _
  intro σ F1 H1 ko Z n r b c
  obtain ⟨v, ev, rv⟩ := ko.sl 0 _ rfl
  have rv0 := rv
  cases rv with
  | @ins a0 _ dx fs _ e1 r1 =>
  refine ⟨_, ev, _, dx, fs, rfl, ko.ok.le _ _ e1, r1.lookN rfl, ?_⟩
  refine ⟨k, F1, _, hk, sok0 ko.ok, rfl, rv0, fun a F' H' g new => ?_⟩
  obtain ⟨x, hxc, hxw, hx, fa, ⟨dx', xs, ea, ra⟩, na1, na2, ⟨h1a, h1n, h1v⟩, ⟨fn, hn⟩, fv, hv⟩ := new
  have g1 := gr0_of ko.ok g
  have gz : Gr ((p_Clocked_violations K).wd ⟨k, hk, hcl⟩ F H) F1 H1 (upd F' a (.ins (He.ga K "Settled") dx' xs)) H' := g1.frz ko.ok h1a fa ea
  let W2 : Wd := ⟨sM x, sJ P w x, fun h l e => sJ_st h l e, upd F' a (.ins (He.ga K "Settled") dx' xs), H'⟩
  have le2 : Le F' (upd F' a (.ins (He.ga K "Settled") dx' xs)) := Le.new (Le.refl _) fa
  have s2 : Sok W2 W2.F0 W2.H0 := by
    refine ⟨gz.ok.le, fun b m => ?_, fun b m => ?_, ⟨[], hn, ⟨List.nodup_nil, (fun _ h => nomatch h), fun _ _ h => nomatch h⟩⟩, [], hv, ⟨List.nodup_nil, (fun _ h => nomatch h), fun _ _ h => nomatch h⟩⟩
    · rcases m with e | e
      · rw [e]; show upd F' a _ x.kn = none; rw [upd_ne na1]; exact fn
      · rw [e]; show upd F' a _ x.vl = none; rw [upd_ne na2]; exact fv
    · rcases m with e | e
      · rw [e]; show H' x.kn ≠ none; rw [hn]; exact fun z => nomatch z
      · rw [e]; show H' x.vl ≠ none; rw [hv]; exact fun z => nomatch z
  have hlen : σ.length = 5 := ko.len
  have k2 : Ok W2 [.dat (kD' K k), .dat (sD K x), .no, .no, .no] (σ.set 1 (some (.ref a))) W2.F0 W2.H0 := by
    refine ok_new s2 (by rw [List.length_set]; exact hlen) rfl fun i t e => ?_
    match i, e with
    | 0, e => cases e; exact ⟨_, (List.getElem?_set_ne (by decide)).trans ev, rv0.mono (gz.ff)⟩
    | 1, e => cases e; exact ⟨_, List.getElem?_set_self (by omega), .ins upd_same (ra.mono le2)⟩
    | 2, e => cases e; trivial
    | 3, e => cases e; trivial
    | 4, e => cases e; trivial
    | i + 5, e => simp at e
  unfold L2.gName
  dsimp only
  refine run_in (W := (p_Clocked_violations K).wd ⟨k, hk, hcl⟩ F H) (W2 := W2) (R := fun s => s = .own (.lst [])) (fun _ h => h) (fun _ _ => trivial) (ko.g.trans gz) (fun b m => ?_) k2 ?_ (fun _ _ _ _ h => nomatch h) fun v F3 H3 s g nb e z => r v F3 H3 s g nb e z
  · refine ko.g.no ?_
    rcases m with e | e
    · rw [e]; exact h1n
    · rw [e]; exact h1v
  have hr3 := hk.wf.r
  have fC : EvE W2 (tFld K (tVar 0) "_circuit") [.dat (kD' K k), .dat (sD K x), .no, .no, .no] (.dat (cD k.c)) := ev_fld G.cls_Clocked G.na_Clocked__circuit (ev_var rfl) rfl
  have fN : EvE W2 (tCB (Dn.rLen K) (tCons (tOp (rIx K) (tFld K (tVar 0) "_circuit") (tC (.int 2))) tNil)) [.dat (kD' K k), .dat (sD K x), .no, .no, .no] (.dat (.int (k.c.regs.length : Nat))) := (ev_lenT (ds := k.c.regs.map rD) (ev_ixT fC ev_int rfl)).to (by rw [List.length_map])
  refine ec_set (ev_lcX (List.range k.c.regs.length) (fun i => .int (0 + (i : Nat))) (fun _ => .non) (it_rng1 (ea_1 fN) (by omega)) (by rw [List.length_range]; omega) fun i j hj => ⟨_, _, tg_name, fun _ h => h, ?_⟩) ?_
  · have hjl : j < k.c.regs.length := List.mem_range.mp (List.mem_of_getElem? hj)
    have vo : ViOk ⟨k, x, j, k.c.regs[j]⟩ := ⟨hk, hx, hxc, List.getElem?_eq_getElem hjl, fun t h1 h2 => by
      have := hcl _ (List.getElem_mem hjl) t h1 h2
      show InWin x.c x.ws _ _ ∧ _
      rw [hxc, hxw]; exact this⟩
    exact ev_one (ev_meth (p := p_violation P w K) (⟨⟨k, x, j, k.c.regs[j]⟩, vo⟩ : A_vi) (ev_var rfl) rfl (ea_cons ((ev_var rfl).to (by rw [Int.zero_add])) (ea_1 (ev_var rfl))) rfl ⟨fun _ h => h, fun _ _ s => s.j, fun _ _ _ _ _ g => g.ok.j⟩ rfl) fun s h => h.1
  · refine ec_frz 2 rfl ?_
    refine ec_ret (ev_lcF (List.range k.c.regs.length) (fun _ => D.non) (fun _ => D.non) (fun _ => false) (it_list (ev_var rfl)) (by rw [List.length_range]; omega) fun i j hj => ⟨_, _, tg_name, fun _ h => h, et_B (ev_notN (ev_var rfl) rfl), fun h => nomatch h⟩) ?_
    show Sl.own (.lst (((List.range k.c.regs.length).filter fun _ => false).map fun _ => D.non)) = Sl.own (.lst [])
    simp
def p_Clocked_is_clean (K : PySem.W.Frag) : Prm A_cl := .fn (fun x => [.dat (kD' K x.1)]) fun _ => .dat (.bl true)
theorem sc_Clocked_is_clean : FnScope ["self"] ["self"] (defScope (inClass (top 34) 2)) := ⟨rfl, rfl, rfl, by decide +kernel, rfl, by decide +kernel, by decide +kernel⟩
theorem met_is_clean (G : Gs K mg) : C8.Met P w K mg base 22 (He.ga K "Clocked") "is_clean" (p_Clocked_is_clean K).sp [] := by
  have m_Clocked_violations := met_violations (P := P) (w := w) (base := base) G
  refine Prm.met (p_Clocked_is_clean K) G.cls_Clocked G.me_Clocked_is_clean G.d_Clocked_is_clean sc_Clocked_is_clean (fun _ _ _ _ _ _ us hl => match us, hl with | [_], _ => rfl) (fun _ => rfl) (fun cdv A' outer s H E hr => ⟨_, (PSs.nox (pss_one (ps_ret (pe_cmpR op_eq (pe_callB (k_len (K := K)) (by rfl) G.f_len (by decide +kernel) (pa_cons (C8.pe_mt0 m_Clocked_violations hr (by decide) (pvx 0)) pa_nil)) pe_int (nomark _))))), ?_⟩)
  rintro ⟨k, hk⟩ F H
  show Ec _ _ [.dat (kD' K k)] _
  exact ec_ret (ev_eqI (ev_lenL (ds := []) (ev_own_bor (evf_meth (⟨k, hk⟩ : A_cl) (ev_var rfl) rfl ea_nil rfl rfl))) ev_int) rfl
/-! the period -/
theorem sc_Clocked_period : FnScope ["self"] ["self"] (defScope (inClass (top 34) 1)) := ⟨rfl, rfl, rfl, by decide +kernel, rfl, by decide +kernel, by decide +kernel⟩
theorem prp_Clocked_period (G : Gs K mg) : PrpAt P w K mg base 1 (He.ga K "Clocked") "period" (p_Clocked_period K).sp := by
  obtain ⟨pa, a, hp, fd, FD⟩ := G.d_Clocked_period
  refine ⟨pa, a, fd, ["self"], G.cls_Clocked, hp, (p_Clocked_period K).ok FD sc_Clocked_period (fun _ => rfl) (fun cdv A' outer s H E hr => ⟨_, (PSs.nox (pss_one (ps_ret (k_fld (K := K) (pvx 0))))), ?_⟩), FD.bindsN (fun _ _ _ _ _ _ us hl => match us, hl with | [_], _ => rfl)⟩
  rintro k F H
  show Ec _ _ [.dat (kD' K k)] _
  exact ec_ret (ev_fld G.cls_Clocked G.na_Clocked__period (ev_var rfl) rfl) rfl
end Sg
/-! W7: longest_sums. -/
namespace Sg
open PySem PySem.Spec PyProof.Rows L2 Dn
variable {P : Program} {w : World} {K : PySem.W.Frag} {mg : Str → Option Value} {base : Heap}
/-- keywords given, no defaults -/
theorem kbindsP {x qual : Str} {params : Arguments} {body : List Stmt} {scope : Scope} {f : Addr} {fd : FuncData} {ps : List Str} (F : FunD K x qual params body scope [] [] f fd) (n : Nat) (ks : List Str)
    (h : ∀ (kV doc pm : Value) (an : Option Addr) (cdv ct : Value) (us ws : List Value), us.length = n → ws.length = ks.length → bindArgs (PySem.W.fnOf x qual params body scope .none kV doc pm an cdv ct) ⟨us, ks.zip ws⟩ = pure (ps.zip (us ++ ws))) :
    KBn K fd ps n ks (fun us ws => us ++ ws) (fun vs zs => vs ++ zs) := by
  obtain ⟨oc, od, dV, kV, doc, pm, an, cdv, ct, osl, rfl, lk, hcd, hD, hK⟩ := F.ex
  rcases hD with ⟨_, rfl⟩ | ⟨e, _⟩
  · exact ⟨fun s us ws X l1 l2 => .of_eq (h kV doc pm an cdv ct us ws l1 l2), fun r1 r2 => r1.append r2⟩
  · exact absurd rfl e
theorem slvs_app {W : Wd} {H F' H' : Hp} : ∀ {vs zs : List V} {as ks : List Sl}, SlVs W H F' H' vs as → SlVs W H F' H' zs ks → SlVs W H F' H' (vs ++ zs) (as ++ ks)
  | _, _, _, _, .nil, h => h
  | _, _, _, _, .cons a r, h => .cons a (slvs_app r h)
def ind (kvs : List (Key × D)) (n : Str) : Nat := if (lk kvs (.inr n)).isNone = true then 1 else 0
def cnt (c : Circ) (kvs : List (Key × D)) : Nat := (c.gates.map fun g => ind kvs g.nm).sum
theorem pt_len2 {kvs : List (Key × D)} {k : Key} {v : D} : (pt kvs k v).length = if (lk kvs k).isSome = true then kvs.length else kvs.length + 1 := by
  unfold pt
  rw [lk_any]
  by_cases h : (lk kvs k).isSome = true
  · rw [if_pos h, if_pos h, List.length_map]
  · rw [if_neg h, if_neg h, List.length_append]; rfl
structure LI (c : Circ) (s : Str) (up : Bool) (kvs : List (Key × D)) : Prop extends LSc c s up kvs where
  len : kvs.length + cnt c kvs ≤ 1 + c.gates.length
theorem LI.put {c : Circ} {s : Str} {up : Bool} {kvs : List (Key × D)} (h : LI c s up kvs) (w : WF c) (hs : s ∈ src c) {g : Gate} (hg : g ∈ c.gates) {i : Nat} {n : Str} {p : Int × Int} (hn : g.nets[i]? = some n) (hr : g.rng[i]? = some p) {v : Int} (hv : lk kvs (.inr n) = some (.int v)) :
    LI c s up (pt kvs (.inr g.nm) (.int (v + wgt up p))) := by
  refine ⟨⟨?_, fun m d hd => ?_⟩, ?_⟩
  · rw [lk_pt, if_neg (fun e => src_gate w.nd hs g hg (Sum.inr.inj e))]; exact h.src
  · rw [lk_pt] at hd
    by_cases e : g.nm = m
    · subst e
      rw [if_pos rfl] at hd
      cases hd
      obtain ⟨v', a, b, e1, pt, e2⟩ := h.ach n _ hv
      cases e1
      obtain ⟨lo, hi⟩ := p
      refine ⟨_, a + lo, b + hi, rfl, pt.snoc hg hn hr, ?_⟩
      subst e2
      unfold wgt
      cases up
      · simp; omega
      · simp
    · rw [if_neg (fun z => e (Sum.inr.inj z))] at hd
      exact h.ach m d hd
  · have new : ∀ m, ind (pt kvs (.inr g.nm) (.int (v + wgt up p))) m = if g.nm = m then 0 else ind kvs m := fun m => by
      unfold ind
      rw [lk_pt]
      by_cases e : g.nm = m
      · subst e; rw [if_pos rfl, if_pos rfl]; rfl
      · rw [if_neg (fun z => e (Sum.inr.inj z)), if_neg e]
    have le : ∀ x ∈ c.gates, ind (pt kvs (.inr g.nm) (.int (v + wgt up p))) x.nm ≤ ind kvs x.nm := fun x hx => by
      rw [new]; split <;> omega
    have hl := h.len
    rw [pt_len2]
    unfold cnt at hl ⊢
    cases e : lk kvs (.inr g.nm) with
    | some d =>
      have := sum_le le
      rw [if_pos (show (some d : Option D).isSome = true from rfl)]; omega
    | none =>
      have := sum_lt le ⟨g, hg, by rw [new, if_pos rfl]; unfold ind; rw [e]; decide⟩
      rw [if_neg (show ¬ (none : Option D).isSome = true from fun z => nomatch z)]; omega
abbrev A_ls := {y : Circ × Str × Bool // WF y.1 ∧ y.2.1 ∈ src y.1}
def sgn (up : Bool) : Int := if up then 1 else -1
def p_longest_sums (K : PySem.W.Frag) : Prm A_ls := .pu (fun y => [.dat (cD y.1.1), .dat (.str y.1.2.1), .dat (.int (sgn y.1.2.2))]) fun y s => ∃ kvs, s = .own (.dic kvs) ∧ LS y.1.1 y.1.2.1 y.1.2.2 kvs
def ClG (kvs : List (Key × D)) (up : Bool) (g : Gate) : Prop := ∀ (i : Nat) (n : Str) (p : Int × Int), g.nets[i]? = some n → g.rng[i]? = some p → PinOk kvs up g.nm n p
theorem sc_longest_sums : FnScope ["circuit", "source", "sign", "sums", "changed", "name", "_", "nets", "ranges", "net", "low", "high", "total"] ["circuit", "source", "sign"] (defScope (top 38)) := ⟨rfl, rfl, rfl, by decide +kernel, rfl, by decide +kernel, by decide +kernel⟩
theorem cal_longest_sums (G : Gs K mg) : CalN P w K mg base 1 "longest_sums" 2 ["sign"] (fun vs zs => vs ++ zs) (p_longest_sums K).sp := by
  obtain ⟨fd, FD⟩ := G.d_longest_sums
  refine ⟨_, fd, ["circuit", "source", "sign"], _, (p_longest_sums K).ok FD sc_longest_sums (fun _ => rfl) (fun cdv A' outer s H E hr => ⟨_, (PSs.nox (pss_cons (psx 3 sc_longest_sums.nd (pe_disp (pps_cons (pvx 1) pe_int pps_nil) (by rfl) (by rfl) (by simp) (by decide))) (pss_cons (psx 4 sc_longest_sums.nd pe_bl) (pss_cons (ps_while PassesOwn.never (pt_val (pvx 4)) (pss_cons (psx 4 sc_longest_sums.nd pe_bl) (pss_one (ps_for PassesOwn.never (by rfl) (k_seq (K := K) (pe_ix (k_ix (K := K)) (pvx 0) pe_int (fun _ _ => rfl))) (k_tup (K := K) (n := 4) (pgs_cons (pgx 5 sc_longest_sums.nd) (pgs_cons (pgx 6 sc_longest_sums.nd) (pgs_cons (pgx 7 sc_longest_sums.nd) (pgs_cons (pgx 8 sc_longest_sums.nd) pgs_nil))))) (pss_one (ps_for PassesOwn.never (by rfl) (k_zip (K := K) (by rfl) G.f_zip (pa_cons (pvx 7) (pa_cons (pvx 8) pa_nil))) (k_tup (K := K) (n := 2) (pgs_cons (pgx 9 sc_longest_sums.nd) (pgs_cons (k_tup (K := K) (n := 2) (pgs_cons (pgx 10 sc_longest_sums.nd) (pgs_cons (pgx 11 sc_longest_sums.nd) pgs_nil))) pgs_nil))) (pss_one (ps_if (pt_cmp (pc_din (hu_of hr) (pvx 9) (pvx 3))) (pss_cons (psx 12 sc_longest_sums.nd (pe_op (k_plus (K := K)) (pe_dget (hu_of hr) (pvx 3) (pvx 9) (fun _ _ => rfl)) (pe_ifExp (pt_cmpR op_gt (pvx 2) pe_int (nomark _)) (pvx 11) (pe_un un_neg (pvx 10))))) (pss_one (ps_if (PW.pt (pw_or (pt_cmp (pc_dnotin (hu_of hr) (pvx 5) (pvx 3))) (pw_or1 (pt_cmpR op_lt (pe_dget (hu_of hr) (pvx 3) (pvx 5) (fun _ _ => rfl)) (pvx 12) (nomark _))))) (pss_cons (ps_dput (hu_of hr) (pvx 3) (pvx 5) (pvx 12) (by rfl)) (pss_one (psx 4 sc_longest_sums.nd pe_bl))) pss_nil))) pss_nil)))))))) (pss_one (ps_ret (pvx 3))))))), ?_⟩), G.g_longest_sums, FD.kp, kbindsP FD 2 ["sign"] fun _ _ _ _ _ _ us ws h1 h2 => match us, ws, h1, h2 with | [_, _], [_], _, _ => rfl⟩
  rintro ⟨⟨c, s, up⟩, hc, hs⟩ F H
  have hc : WF c := hc
  have hs : s ∈ src c := hs
  have hg5 := hc.g
  show Ec _ _ [.dat (cD c), .dat (.str s), .dat (.int (sgn up)), .no, .no, .no, .no, .no, .no, .no, .no, .no, .no] _
  refine ec_set (ev_disp1 (ky := .inr s) (d := .int 0) (ev_var rfl) ev_int) ?_
  refine ec_set ev_bl ?_
  have L0 : LI c s up [(.inr s, .int 0)] := by
    refine ⟨⟨by rw [lk_cons, if_pos rfl], fun n d hd => ?_⟩, ?_⟩
    · rw [lk_cons] at hd
      by_cases e : s = n
      · subst e
        rw [if_pos rfl] at hd
        cases hd
        exact ⟨0, 0, 0, rfl, .nil, by cases up <;> rfl⟩
      · rw [if_neg (fun z => e (Sum.inr.inj z))] at hd; cases hd
    · have : cnt c [(.inr s, .int 0)] ≤ (c.gates.map fun _ => 1).sum := sum_le fun g _ => by unfold ind; split <;> omega
      rw [List.map_const', List.sum_replicate_nat] at this
      show 1 + cnt c _ ≤ _
      omega
  refine ec_seq (M := fun Γ => ∃ kvs s4 s5 s6 s7 s8 s9 s10 s11 s12, Γ = [.dat (cD c), .dat (.str s), .dat (.int (sgn up)), .own (.dic kvs), s4, s5, s6, s7, s8, s9, s10, s11, s12] ∧ LS c s up kvs) ?_ ?_
  · refine ec_while (fun m Γ => ∃ kvs ch s5 s6 s7 s8 s9 s10 s11 s12, Γ = [.dat (cD c), .dat (.str s), .dat (.int (sgn up)), .own (.dic kvs), .dat (.bl ch), s5, s6, s7, s8, s9, s10, s11, s12] ∧ LI c s up kvs ∧ (ch = false → ∀ g ∈ c.gates, ClG kvs up g) ∧ tot c kvs + (if ch then 1 else 0) ≤ m) (tot c [(.inr s, .int 0)] + 1) ⟨_, true, _, _, _, _, _, _, _, _, rfl, L0, (fun h => nomatch h), Nat.le_refl _⟩ ?_
    rintro m _ ⟨kvs, ch, s5, s6, s7, s8, s9, s10, s11, s12, rfl, hL, hcl, hm⟩
    refine ⟨ch, et_B (ev_var rfl), fun hch => ?_, fun hch => ⟨kvs, _, _, _, _, _, _, _, _, _, rfl, hL.toLSc, hcl hch⟩⟩
    subst hch
    have hm : tot c kvs + 1 ≤ m := hm
    refine ec_set ev_bl ?_
    refine ec_forP c.gates gD (it_tup (ev_ixT (ev_var rfl) ev_int rfl)) (fun pre Γ => ∃ kv2 ch s5 s6 s7 s8 s9 s10 s11 s12, Γ = [.dat (cD c), .dat (.str s), .dat (.int (sgn up)), .own (.dic kv2), .dat (.bl ch), s5, s6, s7, s8, s9, s10, s11, s12] ∧ LI c s up kv2 ∧ tot c kv2 ≤ tot c kvs ∧ ((ch = true ∧ tot c kv2 < tot c kvs) ∨ (ch = false ∧ ∀ g ∈ pre, ClG kv2 up g))) ⟨kvs, false, _, _, _, _, _, _, _, _, rfl, hL, Nat.le_refl _, .inr ⟨rfl, (fun _ h => nomatch h)⟩⟩ ?_ ?_
    · rintro pre g post _ ec ⟨kv2, ch, s5, s6, s7, s8, s9, s10, s11, s12, rfl, h2, ht, hd⟩
      have hg : g ∈ c.gates := by rw [ec]; exact List.mem_append_right _ (List.mem_cons_self ..)
      have ok := hc.gate g hg
      refine ⟨_, _, tg_tup (tgs_cons tg_name (tgs_cons tg_name (tgs_cons tg_name (tgs_cons tg_name tgs_nil)))) rfl, ?_⟩
      refine ec_forX (g.nets.zip g.rng) (fun _ p => .tup [.str p.1, pD p.2]) (it_zip (b := false) (c := false) (ds := g.nets.map .str) (es := g.rng.map pD) (ea_cons (ev_var rfl) (ea_1 (ev_var rfl)))) zip_at (by rw [zipD_len, List.length_map, List.length_map, List.length_zip])
        (fun i Γ => ∃ kv2 ch s9 s10 s11 s12, Γ = [.dat (cD c), .dat (.str s), .dat (.int (sgn up)), .own (.dic kv2), .dat (.bl ch), .dat (.str g.nm), .dat (.tup (g.tab.map .bl)), .dat (.tup (g.nets.map .str)), .dat (.tup (g.rng.map pD)), s9, s10, s11, s12] ∧ LI c s up kv2 ∧ tot c kv2 ≤ tot c kvs ∧ ((ch = true ∧ tot c kv2 < tot c kvs) ∨ (ch = false ∧ (∀ g ∈ pre, ClG kv2 up g) ∧ ∀ j, j < i → ∀ n p, g.nets[j]? = some n → g.rng[j]? = some p → PinOk kv2 up g.nm n p))) ⟨kv2, ch, _, _, _, _, rfl, h2, ht, hd.imp id fun ⟨a, b⟩ => ⟨a, b, fun j h => absurd h (Nat.not_lt_zero _)⟩⟩ ?_ ?_
      · clear h2 ht hd
        rintro i ⟨n, lo, hi⟩ _ hz ⟨kv2, ch, s9, s10, s11, s12, rfl, h2, ht, hd⟩
        obtain ⟨e1, e2⟩ := List.getElem?_zip_eq_some.mp hz
        have e1 : g.nets[i]? = some n := e1
        have e2 : g.rng[i]? = some (lo, hi) := e2
        have next : ∀ {P' : Prop}, PinOk kv2 up g.nm n (lo, hi) → ((ch = true ∧ tot c kv2 < tot c kvs) ∨ (ch = false ∧ (∀ g ∈ pre, ClG kv2 up g) ∧ ∀ j, j < i + 1 → ∀ n p, g.nets[j]? = some n → g.rng[j]? = some p → PinOk kv2 up g.nm n p)) := fun hp => hd.imp id fun ⟨a, b, d⟩ => ⟨a, b, fun j hj n' p' h1 h2' => by
          by_cases q : j < i
          · exact d j q n' p' h1 h2'
          · have : j = i := by omega
            subst this
            rw [e1] at h1
            rw [e2] at h2'
            cases h1
            cases h2'
            exact hp⟩
        refine ⟨_, _, tg_tup (tgs_cons tg_name (tgs_cons (tg_tup (tgs_cons tg_name (tgs_cons tg_name tgs_nil)) rfl) tgs_nil)) rfl, ?_⟩
        refine ec_if (b := (lk kv2 (.inr n)).isSome) (et_B (ev_din (k := .inr n) (ev_var rfl) (ev_own rfl))) (fun hin => ?_) fun hin => ec_next ?_
        · obtain ⟨d, hdv⟩ := Option.isSome_iff_exists.mp hin
          obtain ⟨v, a, b, e3, pth, ev⟩ := h2.ach n d hdv
          subst e3
          have hpth : Pth c s g.nm (a + lo) (b + hi) := pth.snoc hg e1 e2
          have hb : -500 ≤ v + wgt up (lo, hi) ∧ v + wgt up (lo, hi) ≤ 500 := by
            have q1 := hpth.nonneg hc
            have q2 := hpth.le500 hc
            subst ev
            unfold wgt
            cases up
            · simp; omega
            · simp; omega
          refine ec_set (ev_add (i := v) (j := wgt up (lo, hi)) (ev_dget (k := .inr n) (ev_own rfl) (ev_var rfl) hdv) (ev_if (b := up) ((et_bb (ev_var rfl) ev_int).to (by unfold sgn; cases up <;> rfl)) (fun hu => (ev_var rfl).to (by subst hu; rfl)) fun hu => (ev_neg (ev_var rfl)).to (by subst hu; rfl))) ?_
          have body : (lk kv2 (.inr g.nm) = none ∨ ∃ u, lk kv2 (.inr g.nm) = some (.int u) ∧ u < v + wgt up (lo, hi)) → tot c (pt kv2 (.inr g.nm) (.int (v + wgt up (lo, hi)))) < tot c kvs := fun h => Nat.lt_of_lt_of_le (tot_lt hg h hb) ht
          have hlen : kv2.length < 1000 := by have := h2.len; omega
          cases e4 : lk kv2 (.inr g.nm) with
          | none =>
            refine ec_if (b := true) ((et_or (b := true) (c := true) ((et_B (ev_dnotin (k := .inr g.nm) (ev_var rfl) (ev_own rfl))).to (by rw [e4]; rfl)) fun h => nomatch h).to rfl) (fun _ => ?_) fun h => nomatch h
            refine ec_seq (M := fun Γ => Γ = [.dat (cD c), .dat (.str s), .dat (.int (sgn up)), .own (.dic (pt kv2 (.inr g.nm) (.int (v + wgt up (lo, hi))))), .dat (.bl ch), .dat (.str g.nm), .dat (.tup (g.tab.map .bl)), .dat (.tup (g.nets.map .str)), .dat (.tup (g.rng.map pD)), .dat (.str n), .dat (.int lo), .dat (.int hi), .dat (.int (v + wgt up (lo, hi)))]) (ec_putD (ky := .inr g.nm) rfl (ev_var rfl) (ev_var rfl) hlen rfl) ?_
            rintro _ rfl
            exact ec_asg ev_bl (fun o h => nomatch h) ⟨_, true, _, _, _, _, rfl, h2.put hc hs hg e1 e2 hdv, Nat.le_of_lt (body (.inl e4)), .inl ⟨rfl, body (.inl e4)⟩⟩
          | some d' =>
            obtain ⟨u, a', b', e5, _, _⟩ := h2.ach g.nm d' e4
            subst e5
            refine ec_if (b := decide (u < v + wgt up (lo, hi))) ((et_or (b := false) ((et_B (ev_dnotin (k := .inr g.nm) (ev_var rfl) (ev_own rfl))).to (by rw [e4]; rfl)) fun _ => et_bb (ev_dget (k := .inr g.nm) (ev_own rfl) (ev_var rfl) e4) (ev_var rfl)).to (Bool.false_or _)) (fun hu => ?_) fun hu => ec_next ⟨kv2, ch, _, _, _, _, rfl, h2, ht, next (P' := True) fun v' hv' => by
              rw [hdv] at hv'
              cases hv'
              exact ⟨u, e4, by have := of_decide_eq_false hu; omega⟩⟩
            have hu := of_decide_eq_true hu
            refine ec_seq (M := fun Γ => Γ = [.dat (cD c), .dat (.str s), .dat (.int (sgn up)), .own (.dic (pt kv2 (.inr g.nm) (.int (v + wgt up (lo, hi))))), .dat (.bl ch), .dat (.str g.nm), .dat (.tup (g.tab.map .bl)), .dat (.tup (g.nets.map .str)), .dat (.tup (g.rng.map pD)), .dat (.str n), .dat (.int lo), .dat (.int hi), .dat (.int (v + wgt up (lo, hi)))]) (ec_putD (ky := .inr g.nm) rfl (ev_var rfl) (ev_var rfl) hlen rfl) ?_
            rintro _ rfl
            exact ec_asg ev_bl (fun o h => nomatch h) ⟨_, true, _, _, _, _, rfl, h2.put hc hs hg e1 e2 hdv, Nat.le_of_lt (body (.inr ⟨u, e4, hu⟩)), .inl ⟨rfl, body (.inr ⟨u, e4, hu⟩)⟩⟩
        · refine ⟨kv2, ch, _, _, _, _, rfl, h2, ht, next (P' := True) fun v' hv' => ?_⟩
          rw [hv'] at hin; cases hin
      · rintro _ ⟨kv2, ch, s9, s10, s11, s12, rfl, h2, ht, hd⟩
        refine ⟨kv2, ch, _, _, _, _, _, _, _, _, rfl, h2, ht, hd.imp id fun ⟨a, b, d⟩ => ⟨a, fun g' hg' => ?_⟩⟩
        rcases List.mem_append.mp hg' with q | q
        · exact b g' q
        · rw [List.mem_singleton.mp q]
          intro i n p h1 h2'
          exact d i (by rw [List.length_zip, ok.rng, Nat.min_self]; exact (List.getElem?_eq_some_iff.mp h1).1) n p h1 h2'
    · rintro _ ⟨kv2, ch, s5, s6, s7, s8, s9, s10, s11, s12, rfl, h2, ht, hd⟩
      rcases hd with ⟨rfl, hlt⟩ | ⟨rfl, hcl⟩
      · exact ⟨tot c kv2 + 1, by omega, kv2, true, _, _, _, _, _, _, _, _, rfl, h2, (fun h => nomatch h), Nat.le_refl _⟩
      · exact ⟨tot c kv2, by omega, kv2, false, _, _, _, _, _, _, _, _, rfl, h2, fun _ => hcl, Nat.le_refl _⟩
  · rintro _ ⟨kvs, s4, s5, s6, s7, s8, s9, s10, s11, s12, rfl, h⟩
    exact ec_retO rfl ⟨kvs, rfl, h⟩
end Sg
/-! W8: constraints. -/
namespace Sg
open PySem PySem.Spec PyProof.Rows L2 Dn
variable {P : Program} {w : World} {K : PySem.W.Frag} {mg : Str → Option Value} {base : Heap}
/-- the greatest sum (of highs, or of lows turned round) along a path -/
structure Long (c : Circ) (s : Str) (up : Bool) (n : Str) (v : Int) : Prop where
  ex : ∃ a b, Pth c s n a b ∧ v = if up then b else -a
  mx : ∀ a b, Pth c s n a b → (if up then b else -a) ≤ v
theorem Long.uniq {c : Circ} {s n : Str} {up : Bool} {v v' : Int} (h : Long c s up n v) (h' : Long c s up n v') : v = v' := by
  obtain ⟨a, b, p, e⟩ := h.ex
  obtain ⟨a', b', p', e'⟩ := h'.ex
  have q := h'.mx a b p
  have q' := h.mx a' b' p'
  omega
theorem LS.long {c : Circ} {s n : Str} {up : Bool} {kvs : List (Key × D)} {d : D} (h : LS c s up kvs) (e : lk kvs (.inr n) = some d) : ∃ v, d = .int v ∧ Long c s up n v := by
  obtain ⟨v, a, b, e1, p, e2⟩ := h.ach n d e
  refine ⟨v, e1, ⟨a, b, p, e2⟩, fun a' b' p' => ?_⟩
  obtain ⟨v', hv', l⟩ := h.path p'
  rw [e, e1] at hv'
  cases hv'
  exact l
theorem LS.some {c : Circ} {s n : Str} {up : Bool} {kvs : List (Key × D)} (h : LS c s up kvs) {a b : Int} (p : Pth c s n a b) : ∃ v, lk kvs (.inr n) = some (.int v) ∧ Long c s up n v := by
  obtain ⟨v, hv, _⟩ := h.path p
  obtain ⟨v', e, l⟩ := h.long hv
  cases e
  exact ⟨v, hv, l⟩
inductive Con | su (i r : Nat) (m : Int) | ho (i r : Nat) (m : Int) | fl (r : Nat)
def suD (p : Nat × Nat × Int) : D := .tup [.str "setup", .int p.1, .int p.2.1, .int p.2.2]
def hoD (p : Nat × Nat × Int) : D := .tup [.str "hold", .int p.1, .int p.2.1, .int p.2.2]
def flD (r : Nat) : D := .tup [.str "floor", .int r]
def conD : Con → D
  | .su i r m => suD (i, r, m)
  | .ho i r m => hoD (i, r, m)
  | .fl r => flD r
def SuC (k : Ck) (i r : Nat) (m : Int) : Prop := ∃ s g w v, (src k.c)[i]? = some s ∧ k.c.regs[r]? = some g ∧ (wins k)[i]? = some w ∧ Long k.c s true g.net v ∧ m = k.T + g.e0 - g.su - w.1 - v
def HoC (k : Ck) (i r : Nat) (m : Int) : Prop := ∃ s g w v, (src k.c)[i]? = some s ∧ k.c.regs[r]? = some g ∧ (wins k)[i]? = some w ∧ Long k.c s false g.net v ∧ m = w.2 - v - k.T - g.e1 - g.ho - 1
def ConOf (k : Ck) : Con → Prop
  | .su i r m => SuC k i r m
  | .ho i r m => HoC k i r m
  | .fl r => r < k.c.regs.length
structure Cons (k : Ck) (cs : List Con) : Prop where
  mem : ∀ x, x ∈ cs ↔ ConOf k x
  len : cs.length ≤ 100
/-- what is gathered ahead of (i, r) -/
structure Pre (C : Nat → Nat → Int → Prop) (i r : Nat) (S : List (Nat × Nat × Int)) : Prop where
  mem : ∀ i' r' m, (i', r', m) ∈ S ↔ C i' r' m ∧ (i' < i ∨ (i' = i ∧ r' < r))
  len : S.length ≤ 3 * i + r
section
variable {C : Nat → Nat → Int → Prop} {i r n : Nat} {S : List (Nat × Nat × Int)}
theorem Pre.zero : Pre C 0 0 [] := ⟨fun i' r' m => ⟨(fun h => nomatch h), (fun h => by omega)⟩, Nat.zero_le _⟩
theorem Pre.inn (h : Pre C i r S) {m : Int} (hm : C i r m) (hu : ∀ m', C i r m' → m' = m) : Pre C i (r + 1) (S ++ [(i, r, m)]) := ⟨fun i' r' m' => by
  rw [List.mem_append, h.mem, List.mem_singleton]
  constructor
  · rintro (⟨a, b⟩ | e)
    · exact ⟨a, by omega⟩
    · cases e; exact ⟨hm, by omega⟩
  · rintro ⟨a, b⟩
    by_cases q : i' = i ∧ r' = r
    · obtain ⟨rfl, rfl⟩ := q
      rw [hu m' a]; exact .inr rfl
    · exact .inl ⟨a, by omega⟩, by have := h.len; rw [List.length_append]; show _ + 1 ≤ _; omega⟩
theorem Pre.out (h : Pre C i r S) (hn : ∀ m, ¬ C i r m) : Pre C i (r + 1) S := ⟨fun i' r' m' => by
  rw [h.mem]
  constructor
  · rintro ⟨a, b⟩; exact ⟨a, by omega⟩
  · rintro ⟨a, b⟩
    by_cases q : i' = i ∧ r' = r
    · obtain ⟨rfl, rfl⟩ := q
      exact absurd a (hn m')
    · exact ⟨a, by omega⟩, by have := h.len; omega⟩
theorem Pre.row (h : Pre C i n S) (hn : n ≤ 3) (hr : ∀ r m, C i r m → r < n) : Pre C (i + 1) 0 S := ⟨fun i' r' m' => by
  rw [h.mem]
  constructor
  · rintro ⟨a, b⟩; exact ⟨a, by omega⟩
  · rintro ⟨a, b⟩
    refine ⟨a, ?_⟩
    by_cases q : i' = i
    · subst q; exact .inr ⟨rfl, hr _ _ a⟩
    · omega, by have := h.len; omega⟩
end
theorem SuC.uniq {k : Ck} {i r : Nat} {m m' : Int} (h : SuC k i r m) (h' : SuC k i r m') : m = m' := by
  obtain ⟨s, g, w, v, e1, e2, e3, l, e⟩ := h
  obtain ⟨s', g', w', v', e1', e2', e3', l', e'⟩ := h'
  rw [e1] at e1'; cases e1'
  rw [e2] at e2'; cases e2'
  rw [e3] at e3'; cases e3'
  have := l.uniq l'
  omega
theorem HoC.uniq {k : Ck} {i r : Nat} {m m' : Int} (h : HoC k i r m) (h' : HoC k i r m') : m = m' := by
  obtain ⟨s, g, w, v, e1, e2, e3, l, e⟩ := h
  obtain ⟨s', g', w', v', e1', e2', e3', l', e'⟩ := h'
  rw [e1] at e1'; cases e1'
  rw [e2] at e2'; cases e2'
  rw [e3] at e3'; cases e3'
  have := l.uniq l'
  omega
def p_constraints (K : PySem.W.Frag) : Prm A_ck := .pu (fun x => [.dat (kD' K x.1)]) fun x s => ∃ cs, s = .own (.lst (cs.map conD)) ∧ Cons x.1 cs
theorem sc_constraints : FnScope ["clocked", "circuit", "period", "setups", "holds", "i", "highs", "lows", "source", "window", "r", "_", "net", "edge", "setup", "hold"] ["clocked"] (defScope (top 39)) := ⟨rfl, rfl, rfl, by decide +kernel, rfl, by decide +kernel, by decide +kernel⟩
theorem cal_constraints (G : Gs K mg) : C8.Cal P w K mg base 3 "constraints" (p_constraints K).sp [] := by
  have c_longest_sums := cal_longest_sums (P := P) (w := w) (base := base) G
  have c_sources := cal_sources (P := P) (w := w) (base := base) G
  have m_Clocked_circuit := met_Clocked_circuit (P := P) (w := w) (base := base) G
  have m_Clocked_windows := met_Clocked_windows (P := P) (w := w) (base := base) G
  have p_Clocked_period := prp_Clocked_period (P := P) (w := w) (base := base) G
  refine Prm.cal (p_constraints K) G.d_constraints G.g_constraints sc_constraints (fun _ _ _ _ _ _ us hl => match us, hl with | [_], _ => rfl) (fun _ => rfl) (fun cdv A' outer s H E hr => ⟨_, (PSs.nox (pss_cons (psx 1 sc_constraints.nd (C8.pe_mt0 m_Clocked_circuit hr (by decide) (pvx 0))) (pss_cons (psx 2 sc_constraints.nd (pe_propC p_Clocked_period hr (by decide) (pvx 0))) (pss_cons (psx 3 sc_constraints.nd (pe_lst pa_nil)) (pss_cons (psx 4 sc_constraints.nd (pe_lst pa_nil)) (pss_cons (k_forZ (K := K) PassesOwn.never (by rfl) (by rfl) G.f_enumerate (by rfl) G.f_zip (pa_cons (C8.pe_c c_sources hr (by decide) (by rfl) (pa_cons (pvx 1) pa_nil)) (pa_cons (C8.pe_mt m_Clocked_windows hr (by decide) (pvx 0) (pa_cons pe_int pa_nil)) pa_nil)) (k_tup (K := K) (n := 2) (pgs_cons (pgx 5 sc_constraints.nd) (pgs_cons (k_tup (K := K) (n := 2) (pgs_cons (pgx 8 sc_constraints.nd) (pgs_cons (pgx 9 sc_constraints.nd) pgs_nil))) pgs_nil))) (pss_cons (psx 6 sc_constraints.nd (pe_callKX c_longest_sums hr (by decide) (by rfl) (pa_cons (pvx 1) (pa_cons (pvx 8) pa_nil)) (pk_cons pe_int pk_nil))) (pss_cons (psx 7 sc_constraints.nd (pe_callKX c_longest_sums hr (by decide) (by rfl) (pa_cons (pvx 1) (pa_cons (pvx 8) pa_nil)) (pk_cons (pe_un un_neg pe_int) pk_nil))) (pss_one (ps_for PassesOwn.never (by rfl) (k_enum (K := K) (by rfl) G.f_enumerate (pa_cons (pe_ix (k_ix (K := K)) (pvx 1) pe_int (fun _ _ => rfl)) pa_nil)) (k_tup (K := K) (n := 2) (pgs_cons (pgx 10 sc_constraints.nd) (pgs_cons (k_tup (K := K) (n := 7) (pgs_cons (pgx 11 sc_constraints.nd) (pgs_cons (pgx 12 sc_constraints.nd) (pgs_cons (pgx 13 sc_constraints.nd) (pgs_cons (pgx 11 sc_constraints.nd) (pgs_cons (pgx 14 sc_constraints.nd) (pgs_cons (pgx 15 sc_constraints.nd) (pgs_cons (pgx 11 sc_constraints.nd) pgs_nil)))))))) pgs_nil))) (pss_one (ps_if (pt_cmp (pc_din (hu_of hr) (pvx 12) (pvx 6))) (pss_cons (ps_expr (k_app (K := K) (pvx 3) (pa_cons (pe_tup (pa_cons pe_str (pa_cons (pvx 5) (pa_cons (pvx 10) (pa_cons (pe_op op_sub (pe_op op_sub (pe_op op_sub (pe_op (k_plus (K := K)) (pvx 2) (pe_ix (k_ix (K := K)) (pvx 13) pe_int (fun _ _ => rfl))) (pvx 14)) (pe_ix (k_ix (K := K)) (pvx 9) pe_int (fun _ _ => rfl))) (pe_dget (hu_of hr) (pvx 6) (pvx 12) (fun _ _ => rfl))) pa_nil))))) pa_nil))) (pss_one (ps_expr (k_app (K := K) (pvx 4) (pa_cons (pe_tup (pa_cons pe_str (pa_cons (pvx 5) (pa_cons (pvx 10) (pa_cons (pe_op op_sub (pe_op op_sub (pe_op op_sub (pe_op op_sub (pe_op op_sub (pe_ix (k_ix (K := K)) (pvx 9) pe_int (fun _ _ => rfl)) (pe_dget (hu_of hr) (pvx 7) (pvx 12) (fun _ _ => rfl))) (pvx 2)) (pe_ix (k_ix (K := K)) (pvx 13) pe_int (fun _ _ => rfl))) (pvx 15)) pe_int) pa_nil))))) pa_nil))))) pss_nil))))))) (pss_one (ps_ret (pe_op (k_plus (K := K)) (pe_op (k_plus (K := K)) (pvx 3) (pvx 4)) (pe_lc (own := [("r", 10)]) (g := (gName 10)) (by rfl) sc_constraints.nd (pi_range1 (by rfl) G.f_range (pa_cons (pe_callB (k_len (K := K)) (by rfl) G.f_len (by decide +kernel) (pa_cons (pe_ix (k_ix (K := K)) (pvx 1) pe_int (fun _ _ => rfl)) pa_nil)) pa_nil)) (blkOk_by (by kernel_rfl)) (fun _ _ _ _ _ => (pgx 10 sc_constraints.nd)) (fun _ _ _ _ _ => pts_nil) (fun _ _ _ _ _ => (pe_tup (pa_cons pe_str (pa_cons (pvx 10) pa_nil)))))))))))))), ?_⟩)
  rintro ⟨k, hk⟩ F H
  have hw := hk.wf
  have h3 := hw.r
  have hi2 := hw.i
  have sl : (src k.c).length ≤ 5 := by unfold src; rw [List.length_append, List.length_map]; omega
  show Ec _ _ [.dat (kD' K k), .no, .no, .no, .no, .no, .no, .no, .no, .no, .no, .no, .no, .no, .no, .no] _
  refine ec_set (evf_meth k (ev_var rfl) rfl ea_nil rfl rfl) ?_
  refine ec_set (evf_prop k (ev_var rfl) rfl) ?_
  refine ec_set (ev_lst (ds := []) ea_nil (by decide)) ?_
  refine ec_set (ev_lst (ds := []) ea_nil (by decide)) ?_
  refine ec_seq (M := fun Γ => ∃ S T s5 s6 s7 s8 s9 s10 s11 s12 s13 s14 s15, Γ = [.dat (kD' K k), .dat (cD k.c), .dat (.int k.T), .own (.lst (S.map suD)), .own (.lst (T.map hoD)), s5, s6, s7, s8, s9, s10, s11, s12, s13, s14, s15] ∧ Pre (SuC k) (src k.c).length 0 S ∧ Pre (HoC k) (src k.c).length 0 T) ?_ ?_
  · refine ec_forZ (ds := (src k.c).map .str) (es := (wins k).map pD) (ea_cons (ev_fL (evf_call (⟨k.c, hw.sz⟩ : A_sz) (ea_1 (ev_var rfl)) rfl)) (ea_1 (ev_fL (evf_meth (⟨k, hk⟩ : A_ck) (ev_var rfl) rfl (ea_1 ev_int) rfl rfl))))
      (fun i Γ => ∃ S T s5 s6 s7 s8 s9 s10 s11 s12 s13 s14 s15, Γ = [.dat (kD' K k), .dat (cD k.c), .dat (.int k.T), .own (.lst (S.map suD)), .own (.lst (T.map hoD)), s5, s6, s7, s8, s9, s10, s11, s12, s13, s14, s15] ∧ Pre (SuC k) i 0 S ∧ Pre (HoC k) i 0 T)
      ⟨[], [], _, _, _, _, _, _, _, _, _, _, _, rfl, .zero, .zero⟩ ?_ ?_
    · rintro i d e _ hd he ⟨S, T, s5, s6, s7, s8, s9, s10, s11, s12, s13, s14, s15, rfl, hS, hT⟩
      obtain ⟨s, hs, rfl⟩ := map_get hd
      obtain ⟨⟨w0, w1⟩, hwi, rfl⟩ := map_get he
      have hsm : s ∈ src k.c := List.mem_of_getElem? hs
      have hil : i < (src k.c).length := (List.getElem?_eq_some_iff.mp hs).1
      refine ⟨_, _, tg_tup (tgs_cons tg_name (tgs_cons (tg_tup (tgs_cons tg_name (tgs_cons tg_name tgs_nil)) rfl) tgs_nil)) rfl, ?_⟩
      refine ec_setR (ev_callN (p := p_longest_sums K) (⟨(k.c, s, true), hw, hsm⟩ : A_ls) (ea_cons (ev_var rfl) (ea_1 (ev_var rfl))) (ea_1 ev_int) (fun a b => slvs_app a b) rfl rfl fits_pure rfl) ?_
      rintro _ ⟨⟨hi, rfl, L1⟩, nb⟩
      refine ⟨nb, ?_⟩
      refine ec_setR (ev_callN (p := p_longest_sums K) (⟨(k.c, s, false), hw, hsm⟩ : A_ls) (ea_cons (ev_var rfl) (ea_1 (ev_var rfl))) (ea_1 (ev_neg ev_int)) (fun a b => slvs_app a b) rfl rfl fits_pure rfl) ?_
      rintro _ ⟨⟨lo, rfl, L2⟩, nb⟩
      refine ⟨nb, ?_⟩
      clear nb
      have L1 : LS k.c s true hi := L1
      have L2 : LS k.c s false lo := L2
      refine ec_forX k.c.regs (fun r g => .tup [.int r, rD g]) (it_enum (b := false) (ds := k.c.regs.map rD) (ea_1 (ev_ixT (ev_var rfl) ev_int rfl))) enum_at (by rw [enumD_len, List.length_map])
        (fun r Γ => ∃ S T s10 s11 s12 s13 s14 s15, Γ = [.dat (kD' K k), .dat (cD k.c), .dat (.int k.T), .own (.lst (S.map suD)), .own (.lst (T.map hoD)), .dat (.int i), .own (.dic hi), .own (.dic lo), .dat (.str s), .dat (pD (w0, w1)), s10, s11, s12, s13, s14, s15] ∧ Pre (SuC k) i r S ∧ Pre (HoC k) i r T)
        ⟨S, T, _, _, _, _, _, _, rfl, hS, hT⟩ ?_ ?_
      · clear hS hT
        rintro r g _ hr ⟨S, T, s10, s11, s12, s13, s14, s15, rfl, hS, hT⟩
        have hrl : r < k.c.regs.length := (List.getElem?_eq_some_iff.mp hr).1
        have lS := hS.len
        have lT := hT.len
        refine ⟨_, _, tg_tup (tgs_cons tg_name (tgs_cons (tg_tup (tgs_cons tg_name (tgs_cons tg_name (tgs_cons tg_name (tgs_cons tg_name (tgs_cons tg_name (tgs_cons tg_name (tgs_cons tg_name tgs_nil))))))) rfl) tgs_nil)) rfl, ?_⟩
        refine ec_if (b := (lk hi (.inr g.net)).isSome) (et_B (ev_din (k := .inr g.net) (ev_var rfl) (ev_own rfl))) (fun hin => ?_) fun hin => ec_next ?_
        · obtain ⟨d, hdv⟩ := Option.isSome_iff_exists.mp hin
          obtain ⟨v, rfl, lv⟩ := L1.long hdv
          obtain ⟨a, b, pth, _⟩ := lv.ex
          obtain ⟨u, hu, lu⟩ := L2.some pth
          have c1 : SuC k i r (k.T + g.e0 - g.su - w0 - v) := ⟨s, g, (w0, w1), v, hs, hr, hwi, lv, rfl⟩
          have c2 : HoC k i r (w1 - u - k.T - g.e1 - g.ho - 1) := ⟨s, g, (w0, w1), u, hs, hr, hwi, lu, rfl⟩
          refine ec_seq (M := fun Γ => Γ = [.dat (kD' K k), .dat (cD k.c), .dat (.int k.T), .own (.lst ((S ++ [(i, r, k.T + g.e0 - g.su - w0 - v)]).map suD)), .own (.lst (T.map hoD)), .dat (.int i), .own (.dic hi), .own (.dic lo), .dat (.str s), .dat (pD (w0, w1)), .dat (.int r), .dat (.bl g.ini), .dat (.str g.net), .dat (pD (g.e0, g.e1)), .dat (.int g.su), .dat (.int g.ho)]) ?_ ?_
          · refine ec_app (d := suD (i, r, k.T + g.e0 - g.su - w0 - v)) rfl (ev_tup (ds := [.str "setup", .int i, .int r, .int (k.T + g.e0 - g.su - w0 - v)]) (ea_cons ev_str (ea_cons (ev_var rfl) (ea_cons (ev_var rfl) (ea_1 (ev_bi (ev_bi (ev_bi (ev_add (ev_var rfl) (ev_ixT (ev_var rfl) ev_int rfl)) (ev_var rfl)) (ev_ixT (ev_var rfl) ev_int rfl)) (ev_dget (k := .inr g.net) (ev_own rfl) (ev_var rfl) hdv)))))) (by simp)) (by rw [List.length_map]; omega) ?_
            show _ = _
            rw [List.map_append]
            rfl
          rintro _ rfl
          refine ec_app (d := hoD (i, r, w1 - u - k.T - g.e1 - g.ho - 1)) rfl (ev_tup (ds := [.str "hold", .int i, .int r, .int (w1 - u - k.T - g.e1 - g.ho - 1)]) (ea_cons ev_str (ea_cons (ev_var rfl) (ea_cons (ev_var rfl) (ea_1 (ev_bi (ev_bi (ev_bi (ev_bi (ev_bi (ev_ixT (ev_var rfl) ev_int rfl) (ev_dget (k := .inr g.net) (ev_own rfl) (ev_var rfl) hu)) (ev_var rfl)) (ev_ixT (ev_var rfl) ev_int rfl)) (ev_var rfl)) ev_int))))) (by simp)) (by rw [List.length_map]; omega) ?_
          exact ⟨S ++ [(i, r, k.T + g.e0 - g.su - w0 - v)], T ++ [(i, r, w1 - u - k.T - g.e1 - g.ho - 1)], _, _, _, _, _, _, by rw [List.map_append (l₁ := T)]; rfl, hS.inn c1 fun m h => h.uniq c1, hT.inn c2 fun m h => h.uniq c2⟩
        · have nop : ∀ a b, ¬ Pth k.c s g.net a b := fun a b p => by
            obtain ⟨v, hv, _⟩ := L1.some p
            rw [hv] at hin; cases hin
          refine ⟨S, T, _, _, _, _, _, _, rfl, hS.out ?_, hT.out ?_⟩
          · rintro m ⟨s', g', w', v, e1, e2, e3, l, _⟩
            rw [hs] at e1; cases e1
            rw [hr] at e2; cases e2
            obtain ⟨a, b, p, _⟩ := l.ex
            exact nop a b p
          · rintro m ⟨s', g', w', v, e1, e2, e3, l, _⟩
            rw [hs] at e1; cases e1
            rw [hr] at e2; cases e2
            obtain ⟨a, b, p, _⟩ := l.ex
            exact nop a b p
      · rintro _ ⟨S, T, s10, s11, s12, s13, s14, s15, rfl, hS, hT⟩
        refine ⟨S, T, _, _, _, _, _, _, _, _, _, _, _, rfl, hS.row h3 ?_, hT.row h3 ?_⟩
        · rintro r m ⟨_, g', _, _, _, e2, _⟩; exact (List.getElem?_eq_some_iff.mp e2).1
        · rintro r m ⟨_, g', _, _, _, e2, _⟩; exact (List.getElem?_eq_some_iff.mp e2).1
    · rintro _ ⟨S, T, s5, s6, s7, s8, s9, s10, s11, s12, s13, s14, s15, rfl, hS, hT⟩
      rw [List.length_map, List.length_map, wins_len hk, Nat.min_self] at hS hT
      exact ⟨S, T, _, _, _, _, _, _, _, _, _, _, _, rfl, hS, hT⟩
  · rintro _ ⟨S, T, s5, s6, s7, s8, s9, s10, s11, s12, s13, s14, s15, rfl, hS, hT⟩
    have lS := hS.len
    have lT := hT.len
    have eq : S.map suD ++ T.map hoD ++ (List.range k.c.regs.length).map flD = (S.map (fun p => Con.su p.1 p.2.1 p.2.2) ++ T.map (fun p => Con.ho p.1 p.2.1 p.2.2) ++ (List.range k.c.regs.length).map Con.fl).map conD := by
      rw [List.map_append, List.map_append, List.map_map, List.map_map, List.map_map]; rfl
    refine ec_ret (s := .own (.lst (S.map suD ++ T.map hoD ++ (List.range k.c.regs.length).map flD))) (ev_addL (ev_own_bor (ev_addL (ev_own rfl) (ev_own rfl) (by rw [List.length_map, List.length_map]; omega))) (ev_own_bor (ev_lcX (List.range k.c.regs.length) (fun r => .int (0 + (r : Nat))) flD (it_rng1 (n := k.c.regs.length) (ea_1 ((ev_lenT (ds := k.c.regs.map rD) (ev_ixT (ev_var rfl) ev_int rfl)).to (by rw [List.length_map]))) (by omega)) (by rw [List.length_range]; omega) fun i r hr => ⟨_, _, tg_name, fun _ h => h, (ev_tup (ds := [.str "floor", .int (0 + (r : Nat))]) (ea_cons ev_str (ea_1 (ev_var rfl))) (by simp)).to (by rw [Int.zero_add]; rfl)⟩)) ?_) ⟨_, congrArg (fun l => Sl.own (.lst l)) eq, ?_, ?_⟩
    · rw [List.length_append, List.length_map, List.length_map, List.length_map, List.length_range]; omega
    · intro x
      rw [List.mem_append, List.mem_append, List.mem_map, List.mem_map, List.mem_map]
      cases x with
      | su i r m =>
        constructor
        · rintro ((⟨⟨i', r', m'⟩, h, e⟩ | ⟨_, _, e⟩) | ⟨_, _, e⟩)
          · cases e; exact ((hS.mem _ _ _).mp h).1
          · cases e
          · cases e
        · intro h
          have h : SuC k i r m := h
          obtain ⟨s, _, _, _, e, _⟩ := id h
          exact .inl (.inl ⟨(i, r, m), (hS.mem _ _ _).mpr ⟨h, .inl (List.getElem?_eq_some_iff.mp e).1⟩, rfl⟩)
      | ho i r m =>
        constructor
        · rintro ((⟨_, _, e⟩ | ⟨⟨i', r', m'⟩, h, e⟩) | ⟨_, _, e⟩)
          · cases e
          · cases e; exact ((hT.mem _ _ _).mp h).1
          · cases e
        · intro h
          have h : HoC k i r m := h
          obtain ⟨s, _, _, _, e, _⟩ := id h
          exact .inl (.inr ⟨(i, r, m), (hT.mem _ _ _).mpr ⟨h, .inl (List.getElem?_eq_some_iff.mp e).1⟩, rfl⟩)
      | fl r =>
        constructor
        · rintro ((⟨_, _, e⟩ | ⟨_, _, e⟩) | ⟨r', h, e⟩)
          · cases e
          · cases e
          · cases e; exact List.mem_range.mp h
        · intro h
          exact .inr ⟨r, List.mem_range.mpr h, rfl⟩
    · rw [List.length_append, List.length_append, List.length_map, List.length_map, List.length_map, List.length_range]; omega
end Sg
/-! W9: as_edge, relaxed, find_shifts. -/
namespace Sg
open PySem PySem.Spec PyProof.Rows L2 Dn
variable {P : Program} {w : World} {K : PySem.W.Frag} {mg : Str → Option Value} {base : Heap}
def so (ni : Nat) (i : Nat) : Int := if (i : Int) < ni then -1 else (i : Int) - ni
def eg (ni : Nat) : Con → Int × Int × Int
  | .su i r m => (so ni i, r, m)
  | .ho i r m => (r, so ni i, m)
  | .fl r => (-1, r, 0)
def egD (e : Int × Int × Int) : D := .tup [.int e.1, .int e.2.1, .int e.2.2]
def p_as_edge (K : PySem.W.Frag) : Prm (Con × Nat) := .fn (fun x => [.dat (conD x.1), .dat (.int x.2)]) fun x => .dat (egD (eg x.2 x.1))
theorem sc_as_edge : FnScope ["constraint", "inputs", "source", "kind", "i", "r", "most"] ["constraint", "inputs"] (defScope (top 40)) := ⟨rfl, rfl, rfl, by decide +kernel, rfl, by decide +kernel, by decide +kernel⟩
theorem cal_as_edge (G : Gs K mg) : C8.Cal P w K mg base 1 "as_edge" (p_as_edge K).sp [] := by
  refine Prm.cal (p_as_edge K) G.d_as_edge G.g_as_edge sc_as_edge (fun _ _ _ _ _ _ us hl => match us, hl with | [_, _], _ => rfl) (fun _ => rfl) (fun cdv A' outer s H E hr => ⟨_, (PSs.nox (pss_cons (ps_if (pt_cmpR op_eq (pe_ix (k_ix (K := K)) (pvx 0) pe_int (fun _ _ => rfl)) pe_str (nomark _)) (pss_one (ps_ret (pe_tup (pa_cons (C8.pe_gc (v := .int (-1)) (by rfl) G.g_GROUND) (pa_cons (pe_ix (k_ix (K := K)) (pvx 0) pe_int (fun _ _ => rfl)) (pa_cons pe_int pa_nil)))))) pss_nil) (pss_cons (ps_asg (pvx 0) (k_tup (K := K) (n := 4) (pgs_cons (pgx 3 sc_as_edge.nd) (pgs_cons (pgx 4 sc_as_edge.nd) (pgs_cons (pgx 5 sc_as_edge.nd) (pgs_cons (pgx 6 sc_as_edge.nd) pgs_nil)))))) (pss_cons (psx 2 sc_as_edge.nd (pe_ifExp (pt_cmpR op_lt (pvx 4) (pvx 1) (nomark _)) (C8.pe_gc (v := .int (-1)) (by rfl) G.g_GROUND) (pe_op op_sub (pvx 4) (pvx 1)))) (pss_one (ps_ret (pe_ifExp (pt_cmpR op_eq (pvx 3) pe_str (nomark _)) (pe_tup (pa_cons (pvx 2) (pa_cons (pvx 5) (pa_cons (pvx 6) pa_nil)))) (pe_tup (pa_cons (pvx 5) (pa_cons (pvx 2) (pa_cons (pvx 6) pa_nil))))))))))), ?_⟩)
  rintro ⟨x, ni⟩ F H
  cases x with
  | fl r =>
    show Ec _ _ [.dat (flD r), .dat (.int ni), .no, .no, .no, .no, .no] _
    refine ec_seq (M := fun _ => False) (ec_if (b := true) ((et_test (ev_op (ev_ixT (d := .str "floor") (ev_var rfl) ev_int rfl) ev_str oe_eqS)).to (by decide)) (fun _ => ?_) fun h => nomatch h) fun _ h => h.elim
    exact ec_ret (ev_tup (ds := [.int (-1), .int r, .int 0]) (ea_cons ev_int (ea_cons (ev_ixT (ev_var rfl) ev_int rfl) (ea_1 ev_int))) (by simp)) rfl
  | su i r m =>
    show Ec _ _ [.dat (suD (i, r, m)), .dat (.int ni), .no, .no, .no, .no, .no] _
    refine ec_noS ((et_test (ev_op (ev_ixT (d := .str "setup") (ev_var rfl) ev_int rfl) ev_str oe_eqS)).to (by decide)) ?_
    refine ec_unpS (d := suD (i, r, m)) (ev_var rfl) (tg_tup (tgs_cons tg_name (tgs_cons tg_name (tgs_cons tg_name (tgs_cons tg_name tgs_nil)))) rfl) ?_
    refine ec_set (s := .dat (.int (so ni i))) (ev_if (et_bb (ev_var rfl) (ev_var rfl)) (fun h => ev_int.to (by unfold so; rw [if_pos (of_decide_eq_true h)])) fun h => (ev_bi (ev_var rfl) (ev_var rfl)).to (by unfold so; rw [if_neg (of_decide_eq_false h)])) ?_
    exact ec_ret (s := .dat (egD (so ni i, r, m))) (ev_if (b := true) ((et_test (ev_op (ev_var rfl) ev_str oe_eqS)).to (by decide)) (fun _ => ev_tup (ds := [.int (so ni i), .int r, .int m]) (ea_cons (ev_var rfl) (ea_cons (ev_var rfl) (ea_1 (ev_var rfl)))) (by simp)) fun h => nomatch h) rfl
  | ho i r m =>
    show Ec _ _ [.dat (hoD (i, r, m)), .dat (.int ni), .no, .no, .no, .no, .no] _
    refine ec_noS ((et_test (ev_op (ev_ixT (d := .str "hold") (ev_var rfl) ev_int rfl) ev_str oe_eqS)).to (by decide)) ?_
    refine ec_unpS (d := hoD (i, r, m)) (ev_var rfl) (tg_tup (tgs_cons tg_name (tgs_cons tg_name (tgs_cons tg_name (tgs_cons tg_name tgs_nil)))) rfl) ?_
    refine ec_set (s := .dat (.int (so ni i))) (ev_if (et_bb (ev_var rfl) (ev_var rfl)) (fun h => ev_int.to (by unfold so; rw [if_pos (of_decide_eq_true h)])) fun h => (ev_bi (ev_var rfl) (ev_var rfl)).to (by unfold so; rw [if_neg (of_decide_eq_false h)])) ?_
    exact ec_ret (s := .dat (egD (r, so ni i, m))) (ev_if (b := false) ((et_test (ev_op (ev_var rfl) ev_str oe_eqS)).to (by decide)) (fun h => nomatch h) fun _ => ev_tup (ds := [.int r, .int (so ni i), .int m]) (ea_cons (ev_var rfl) (ea_cons (ev_var rfl) (ea_1 (ev_var rfl)))) (by simp)) rfl
/-! relaxed -/
def upz (σ : Int → Int) (y v : Int) : Int → Int := fun u => if u = y then v else σ u
def step (σ : Int → Int) (e : Int × Int × Int) : Int → Int := if e.2.2 < σ e.1 - σ e.2.1 then upz σ e.2.1 (σ e.1 - e.2.2) else σ
def pass (ni : Nat) (σ : Int → Int) (cs : List Con) : Int → Int := cs.foldl (fun s x => step s (eg ni x)) σ
def SatE (σ : Int → Int) (e : Int × Int × Int) : Prop := σ e.1 - σ e.2.1 ≤ e.2.2
def Sat (k : Ck) (σ : Int → Int) : Prop := ∀ x, ConOf k x → SatE σ (eg k.c.ins.length x)
inductive Rnd (k : Ck) : Nat → (Int → Int) → Prop
  | zero : Rnd k 0 (fun _ => 0)
  | succ {j : Nat} {σ : Int → Int} {cs : List Con} : Rnd k j σ → ¬ Sat k σ → Cons k cs → Rnd k (j + 1) (pass k.c.ins.length σ cs)
def nodes (n : Nat) : List Int := (List.range n).map Int.ofNat ++ [-1]
structure DOk (kvs : List (Key × D)) (l : List Int) (σ : Int → Int) : Prop where
  at_ : ∀ v ∈ l, lk kvs (.inl v) = some (.int (σ v))
  no : ∀ v, v ∉ l → lk kvs (.inl v) = none
  len : kvs.length = l.length
theorem DOk.new {kvs : List (Key × D)} {l : List Int} {σ : Int → Int} {v a : Int} (h : DOk kvs l σ) (hv : v ∉ l) : DOk (pt kvs (.inl v) (.int a)) (l ++ [v]) (upz σ v a) := by
  refine ⟨fun u hu => ?_, fun u hu => ?_, ?_⟩
  · rw [lk_pt]
    unfold upz
    by_cases e : u = v
    · subst e; rw [if_pos rfl, if_pos rfl]
    · rw [if_neg (fun z => e (Sum.inl.inj z).symm), if_neg e]
      rcases List.mem_append.mp hu with q | q
      · exact h.at_ u q
      · exact absurd (List.mem_singleton.mp q) e
  · rw [lk_pt, if_neg (fun z => hu (by rw [← Sum.inl.inj z]; simp))]
    exact h.no u fun q => hu (List.mem_append_left _ q)
  · rw [pt_len2, h.no v hv, List.length_append, h.len]; rfl
theorem DOk.put {kvs : List (Key × D)} {l : List Int} {σ : Int → Int} {v a : Int} (h : DOk kvs l σ) (hv : v ∈ l) : DOk (pt kvs (.inl v) (.int a)) l (upz σ v a) := by
  refine ⟨fun u hu => ?_, fun u hu => ?_, ?_⟩
  · rw [lk_pt]
    unfold upz
    by_cases e : u = v
    · subst e; rw [if_pos rfl, if_pos rfl]
    · rw [if_neg (fun z => e (Sum.inl.inj z).symm), if_neg e]
      exact h.at_ u hu
  · rw [lk_pt, if_neg (fun z => hu (by rw [← Sum.inl.inj z]; exact hv))]
    exact h.no u hu
  · rw [pt_len2, h.at_ v hv]; exact h.len
theorem nodes_len (n : Nat) : (nodes n).length = n + 1 := by unfold nodes; rw [List.length_append, List.length_map, List.length_range]; rfl
theorem mem_nodes {n : Nat} {v : Int} : v ∈ nodes n ↔ v = -1 ∨ (0 ≤ v ∧ v < n) := by
  unfold nodes
  rw [List.mem_append, List.mem_map, List.mem_singleton]
  constructor
  · rintro (⟨r, hr, e⟩ | e)
    · have := List.mem_range.mp hr
      have e : (r : Int) = v := e
      omega
    · exact .inl e
  · rintro (e | ⟨a, b⟩)
    · exact .inr e
    · exact .inl ⟨v.toNat, List.mem_range.mpr (by omega), by show ((v.toNat : Nat) : Int) = v; omega⟩
theorem so_nodes {k : Ck} (hk : CkOk k) {i : Nat} (h : i < (src k.c).length) : so k.c.ins.length i ∈ nodes k.c.regs.length := by
  rw [mem_nodes]
  unfold so
  unfold src at h
  rw [List.length_append, List.length_map] at h
  split
  · exact .inl rfl
  · right; omega
theorem eg_nodes {k : Ck} (hk : CkOk k) {x : Con} (h : ConOf k x) : (eg k.c.ins.length x).1 ∈ nodes k.c.regs.length ∧ (eg k.c.ins.length x).2.1 ∈ nodes k.c.regs.length := by
  cases x with
  | su i r m =>
    obtain ⟨s, g, _, _, e1, e2, _⟩ := h
    exact ⟨so_nodes hk (List.getElem?_eq_some_iff.mp e1).1, mem_nodes.mpr (.inr (by have := (List.getElem?_eq_some_iff.mp e2).1; show 0 ≤ (r : Int) ∧ (r : Int) < _; omega))⟩
  | ho i r m =>
    obtain ⟨s, g, _, _, e1, e2, _⟩ := h
    exact ⟨mem_nodes.mpr (.inr (by have := (List.getElem?_eq_some_iff.mp e2).1; show 0 ≤ (r : Int) ∧ (r : Int) < _; omega)), so_nodes hk (List.getElem?_eq_some_iff.mp e1).1⟩
  | fl r =>
    have h : r < k.c.regs.length := h
    exact ⟨mem_nodes.mpr (.inl rfl), mem_nodes.mpr (.inr (by show 0 ≤ (r : Int) ∧ (r : Int) < _; omega))⟩
def brD : Option Con → D
  | none => .non
  | some x => conD x
/-- what relaxed gives: the shifts, and whether a constraint stayed broken -/
structure Rlx (k : Ck) (kvs : List (Key × D)) (br : Option Con) (σ : Int → Int) : Prop where
  d : DOk kvs (nodes k.c.regs.length) σ
  e : (br = none ∧ Sat k σ ∧ ∃ j, Rnd k j σ) ∨ (br ≠ none ∧ Rnd k (k.c.regs.length + 2) σ)
def p_relaxed (K : PySem.W.Frag) : Prm A_ck := .pu (fun x => [.dat (kD' K x.1)]) fun x s => ∃ kvs br ra σ, s = .dat (.tup [.dic kvs, brD br, .dic ra]) ∧ Rlx x.1 kvs br σ
theorem sc_relaxed : FnScope ["clocked", "circuit", "shifts", "raisers", "_", "broken", "constraint", "r", "x", "y", "most"] ["clocked"] (defScope (top 41)) := ⟨rfl, rfl, rfl, by decide +kernel, rfl, by decide +kernel, by decide +kernel⟩
theorem cal_relaxed (G : Gs K mg) : C8.Cal P w K mg base 4 "relaxed" (p_relaxed K).sp [] := by
  have c_as_edge := cal_as_edge (P := P) (w := w) (base := base) G
  have c_constraints := cal_constraints (P := P) (w := w) (base := base) G
  have m_Clocked_circuit := met_Clocked_circuit (P := P) (w := w) (base := base) G
  refine Prm.cal (p_relaxed K) G.d_relaxed G.g_relaxed sc_relaxed (fun _ _ _ _ _ _ us hl => match us, hl with | [_], _ => rfl) (fun _ => rfl) (fun cdv A' outer s H E hr => ⟨_, (PSs.nox (pss_cons (psx 1 sc_relaxed.nd (C8.pe_mt0 m_Clocked_circuit hr (by decide) (pvx 0))) (pss_cons (ps_setDc (i := 2) (own := [("r", 7)]) (g := (gName 7)) (by rfl) sc_relaxed.nd (by rfl) (by rfl) (by rfl) (pi_range1 (by rfl) G.f_range (pa_cons (pe_callB (k_len (K := K)) (by rfl) G.f_len (by decide +kernel) (pa_cons (pe_ix (k_ix (K := K)) (pvx 1) pe_int (fun _ _ => rfl)) pa_nil)) pa_nil)) (blkOk_by (by kernel_rfl)) (fun _ _ _ _ _ => (pgx 7 sc_relaxed.nd)) (fun _ _ _ _ _ => pts_nil) (fun _ _ _ _ _ => (pvx 7)) (fun _ _ _ _ _ => pe_int)) (pss_cons (ps_dput (hu_of hr) (pvx 2) (C8.pe_gc (v := .int (-1)) (by rfl) G.g_GROUND) pe_int (by rfl)) (pss_cons (psx 3 sc_relaxed.nd pe_dnewK) (pss_cons (ps_for PassesOwn.never (by rfl) (pi_range1 (by rfl) G.f_range (pa_cons (pe_op (k_plus (K := K)) (pe_callB (k_len (K := K)) (by rfl) G.f_len (by decide +kernel) (pa_cons (pvx 2) pa_nil)) pe_int) pa_nil)) (pgx 4 sc_relaxed.nd) (pss_cons (psx 5 sc_relaxed.nd pe_non) (pss_cons (ps_for PassesOwn.never (by rfl) (k_seq (K := K) (C8.pe_c c_constraints hr (by decide) (by rfl) (pa_cons (pvx 0) pa_nil))) (pgx 6 sc_relaxed.nd) (pss_cons (ps_asg (C8.pe_c c_as_edge hr (by decide) (by rfl) (pa_cons (pvx 6) (pa_cons (pe_callB (k_len (K := K)) (by rfl) G.f_len (by decide +kernel) (pa_cons (pe_ix (k_ix (K := K)) (pvx 1) pe_int (fun _ _ => rfl)) pa_nil)) pa_nil))) (k_tup (K := K) (n := 3) (pgs_cons (pgx 8 sc_relaxed.nd) (pgs_cons (pgx 9 sc_relaxed.nd) (pgs_cons (pgx 10 sc_relaxed.nd) pgs_nil))))) (pss_one (ps_if (pt_cmpR op_gt (pe_op op_sub (pe_dget (hu_of hr) (pvx 2) (pvx 8) (fun _ _ => rfl)) (pe_dget (hu_of hr) (pvx 2) (pvx 9) (fun _ _ => rfl))) (pvx 10) (nomark _)) (pss_cons (psx 5 sc_relaxed.nd (pvx 6)) (pss_cons (ps_dput (hu_of hr) (pvx 3) (pvx 9) (pvx 6) (by rfl)) (pss_one (ps_dput (hu_of hr) (pvx 2) (pvx 9) (pe_op op_sub (pe_dget (hu_of hr) (pvx 2) (pvx 8) (fun _ _ => rfl)) (pvx 10)) (by rfl))))) pss_nil)))) (pss_one (ps_if (pt_cmp (pc_isN (pvx 5))) (pss_one ps_break) pss_nil))))) (pss_one (ps_ret (pe_tup (pa_cons (pvx 2) (pa_cons (pvx 5) (pa_cons (pvx 3) pa_nil)))))))))))), ?_⟩)
  rintro ⟨k, hk⟩ F H
  have hw := hk.wf
  have h3 := hw.r
  show Ec _ _ [.dat (kD' K k), .no, .no, .no, .no, .no, .no, .no, .no, .no, .no] _
  refine ec_set (evf_meth k (ev_var rfl) rfl ea_nil rfl rfl) ?_
  refine ec_setR (ev_dcR (S := fun ds => ds = rngD 0 k.c.regs.length) (it_rng1 (n := k.c.regs.length) (ea_1 ((ev_lenT (ds := k.c.regs.map rD) (ev_ixT (ev_var rfl) ev_int rfl)).to (by rw [List.length_map]))) (by omega)) (fun ds e => by subst e; rw [rngD_len]; omega)
    (fun _ i out => DOk out ((List.range i).map Int.ofNat) fun _ => 0) (fun _ _ => ⟨(fun v h => nomatch h), (fun v _ => rfl), rfl⟩) fun ds i d out e hd hI _ => ?_) ?_
  · subst e
    obtain ⟨hi, rfl⟩ := rngD_get hd
    refine ⟨_, _, .inl (0 + i), .int 0, tg_name, fun _ h => h, et_yes, ev_var rfl, ev_int, ?_⟩
    have := hI.new (v := i) (a := 0) (fun h => by
      obtain ⟨r, hr, e⟩ := List.mem_map.mp h
      have := List.mem_range.mp hr
      have e : (r : Int) = i := e
      omega)
    rw [Int.zero_add, List.range_succ, List.map_append]
    rw [show upz (fun _ => 0) (i : Int) 0 = fun _ => 0 from funext fun u => by unfold upz; split <;> rfl] at this
    exact this
  rintro _ ⟨ds, kv0, e, rfl, h0, hl0⟩
  refine ⟨(fun _ h => nomatch h), ?_⟩
  subst e
  rw [rngD_len] at h0 hl0
  refine ec_seq (M := fun Γ => ∃ kvs, Γ = [.dat (kD' K k), .dat (cD k.c), .own (.dic kvs), .no, .no, .no, .no, .no, .no, .no, .no] ∧ DOk kvs (nodes k.c.regs.length) fun _ => 0) (ec_putD (ky := .inl (-1)) rfl ev_int ev_int (by omega) ⟨_, rfl, ?_⟩) ?_
  · have := h0.new (v := -1) (a := 0) (fun h => by
      obtain ⟨r, hr, e⟩ := List.mem_map.mp h
      have e : (r : Int) = -1 := e
      omega)
    rw [show upz (fun _ => 0) (-1) 0 = fun _ => 0 from funext fun u => by unfold upz; split <;> rfl] at this
    exact this
  rintro _ ⟨kv1, rfl, h1⟩
  clear h0 hl0
  refine ec_set ev_dnew ?_
  refine ec_seq (M := fun Γ => ∃ kvs ra br σ s4 s6 s7 s8 s9 s10, Γ = [.dat (kD' K k), .dat (cD k.c), .own (.dic kvs), .own (.dic ra), s4, .dat (brD br), s6, s7, s8, s9, s10] ∧ Rlx k kvs br σ) ?_ ?_
  · refine ec_forX (List.range (k.c.regs.length + 2)) (fun r _ => .int (0 + (r : Nat))) (ds := rngD 0 (k.c.regs.length + 2)) (it_rng1 (n := k.c.regs.length + 2) (ea_1 ((ev_add (ev_lenD (ev_own rfl)) ev_int).to (by rw [h1.len, nodes_len]; exact congrArg (fun i => Sl.dat (.int i)) (by omega)))) (by omega)) (rng_at 0 _) (by rw [rngD_len, List.length_range])
      (fun j Γ => ∃ kvs ra σ s4 s5 s6 s7 s8 s9 s10, Γ = [.dat (kD' K k), .dat (cD k.c), .own (.dic kvs), .own (.dic ra), s4, s5, s6, s7, s8, s9, s10] ∧ DOk kvs (nodes k.c.regs.length) σ ∧ Rnd k j σ ∧ ra.length ≤ 100 * j ∧ (0 < j → ∃ x, s5 = .dat (conD x)))
      ⟨kv1, [], _, _, _, _, _, _, _, _, rfl, h1, .zero, Nat.zero_le _, fun h => absurd h (Nat.lt_irrefl _)⟩ ?_ ?_
    · clear h1
      rintro j r _ hj ⟨kvs, ra, σ, s4, s5, s6, s7, s8, s9, s10, rfl, hd, hr, hl, _⟩
      have hj5 : j < 5 := by
        have := (List.getElem?_eq_some_iff.mp hj).1
        rw [List.length_range] at this
        omega
      refine ⟨_, _, tg_name, ?_⟩
      refine ec_set ev_non ?_
      refine ec_seq (M := fun Γ => ∃ kvs ra br cs s4 s6 s7 s8 s9 s10, Γ = [.dat (kD' K k), .dat (cD k.c), .own (.dic kvs), .own (.dic ra), s4, .dat (brD br), s6, s7, s8, s9, s10] ∧ Cons k cs ∧ DOk kvs (nodes k.c.regs.length) (pass k.c.ins.length σ cs) ∧ ra.length ≤ 100 * (j + 1) ∧ (br = none → pass k.c.ins.length σ cs = σ ∧ Sat k σ) ∧ (br ≠ none → ¬ Sat k σ)) ?_ ?_
      · refine ec_forR (S := fun ds => ∃ cs, ds = cs.map conD ∧ Cons k cs) (itR_seq ((ev_call (p := p_constraints K) (⟨k, hk⟩ : A_ck) (ea_1 (ev_var rfl)) fits_pure rfl).fz (R' := fun s => ∃ cs, s = .dat (.lst (cs.map conD)) ∧ Cons k cs) ?_) ?_)
          (fun ds i Γ => ∃ cs kvs ra br s4 s6 s7 s8 s9 s10, ds = cs.map conD ∧ Cons k cs ∧ Γ = [.dat (kD' K k), .dat (cD k.c), .own (.dic kvs), .own (.dic ra), s4, .dat (brD br), s6, s7, s8, s9, s10] ∧ DOk kvs (nodes k.c.regs.length) (pass k.c.ins.length σ (cs.take i)) ∧ ra.length ≤ 100 * j + i ∧ (br = none → pass k.c.ins.length σ (cs.take i) = σ ∧ ∀ x ∈ cs.take i, SatE σ (eg k.c.ins.length x)) ∧ (br ≠ none → ¬ Sat k σ))
          ?_ ?_ ?_
        · rintro s ⟨⟨cs, rfl, hc⟩, _⟩
          exact .inr ⟨_, rfl, cs, rfl, hc⟩
        · rintro s ⟨cs, rfl, hc⟩
          exact ⟨_, cs.map conD, ⟨cs, rfl, hc⟩, rfl, .inl ⟨true, rfl⟩⟩
        · rintro ds ⟨cs, rfl, hc⟩
          exact ⟨cs, kvs, ra, none, _, _, _, _, _, _, rfl, hc, rfl, hd, hl, (fun _ => ⟨rfl, fun _ h => nomatch h⟩), fun h => absurd rfl h⟩
        · clear hd hl
          rintro ds i d _ _ hdi ⟨cs, kvs, ra, br, s4, s6, s7, s8, s9, s10, rfl, hc, rfl, hd, hl, hn, hb⟩
          obtain ⟨x, hx, rfl⟩ := map_get hdi
          have hxm : x ∈ cs := List.mem_of_getElem? hx
          have hxc := (hc.mem x).mp hxm
          obtain ⟨n1, n2⟩ := eg_nodes hk hxc
          have hi100 : i < 100 := Nat.lt_of_lt_of_le (List.getElem?_eq_some_iff.mp hx).1 hc.len
          have hps : pass k.c.ins.length σ (cs.take (i + 1)) = step (pass k.c.ins.length σ (cs.take i)) (eg k.c.ins.length x) := by
            unfold pass
            rw [take_snoc hx, List.foldl_append]
            rfl
          generalize hσ : pass k.c.ins.length σ (cs.take i) = σ' at hd hn hps
          generalize he : eg k.c.ins.length x = e at n1 n2 hps
          obtain ⟨a, b, m⟩ := e
          have hda := hd.at_ a n1
          have hdb := hd.at_ b n2
          refine ⟨_, _, tg_name, ?_⟩
          refine ec_unpS (d := egD (a, b, m)) ((evf_call (args := fun x : Con × Nat => [.dat (conD x.1), .dat (.int x.2)]) (res := fun x : Con × Nat => .dat (egD (eg x.2 x.1))) ((x, k.c.ins.length) : Con × Nat) (ea_cons (ev_var rfl) (ea_1 ((ev_lenT (ds := k.c.ins.map .str) (ev_ixT (ev_var rfl) ev_int rfl)).to (by rw [List.length_map])))) rfl).to (by rw [← he])) (tg_tup (tgs_cons tg_name (tgs_cons tg_name (tgs_cons tg_name tgs_nil))) rfl) ?_
          refine ec_if (b := decide (m < σ' a - σ' b)) (et_bb (ev_bi (ev_dget (k := .inl a) (ev_own rfl) (ev_var rfl) hda) (ev_dget (k := .inl b) (ev_own rfl) (ev_var rfl) hdb)) (ev_var rfl)) (fun hlt => ?_) fun hlt => ec_next ?_
          · have hlt := of_decide_eq_true hlt
            refine ec_set (ev_var rfl) ?_
            refine ec_seq (M := fun Γ => Γ = [.dat (kD' K k), .dat (cD k.c), .own (.dic kvs), .own (.dic (pt ra (.inl b) (conD x))), s4, .dat (brD (some x)), .dat (conD x), s7, .dat (.int a), .dat (.int b), .dat (.int m)]) (ec_putD (ky := .inl b) rfl (ev_var rfl) (ev_var rfl) (by omega) rfl) ?_
            rintro _ rfl
            refine ec_putD (ky := .inl b) rfl (ev_bi (ev_dget (k := .inl a) (ev_own rfl) (ev_var rfl) hda) (ev_var rfl)) (ev_var rfl) (by rw [hd.len, nodes_len]; omega) ?_
            refine ⟨cs, _, _, some x, _, _, _, _, _, _, rfl, hc, rfl, ?_, ?_, (fun h => nomatch h), fun _ hs => ?_⟩
            · rw [hps]
              show DOk _ _ (if m < σ' a - σ' b then _ else _)
              rw [if_pos hlt]
              exact hd.put n2
            · rw [pt_len2]; split <;> omega
            · cases br with
              | some y => exact hb (fun h => nomatch h) hs
              | none =>
                obtain ⟨e1, _⟩ := hn rfl
                have := hs x hxc
                rw [he] at this
                have this : σ a - σ b ≤ m := this
                rw [e1] at hlt
                omega
          · have hlt := of_decide_eq_false hlt
            have e1 : pass k.c.ins.length σ (cs.take (i + 1)) = σ' := by
              rw [hps]
              show (if m < σ' a - σ' b then _ else _) = _
              rw [if_neg hlt]
            refine ⟨cs, _, _, br, _, _, _, _, _, _, rfl, hc, rfl, by rw [e1]; exact hd, by omega, fun h => ?_, hb⟩
            obtain ⟨e2, q⟩ := hn h
            refine ⟨e1.trans e2, fun y hy => ?_⟩
            rw [take_snoc hx] at hy
            rcases List.mem_append.mp hy with z | z
            · exact q y z
            · rw [List.mem_singleton.mp z, he]
              show σ a - σ b ≤ m
              rw [← e2]
              omega
        · rintro ds _ _ ⟨cs, kvs, ra, br, s4, s6, s7, s8, s9, s10, rfl, hc, rfl, hd, hl, hn, hb⟩
          rw [List.length_map, List.take_length] at hd hn
          rw [List.length_map] at hl
          have := hc.len
          refine ⟨kvs, ra, br, cs, _, _, _, _, _, _, rfl, hc, hd, by omega, fun h => ?_, hb⟩
          obtain ⟨e1, q⟩ := hn h
          exact ⟨e1, fun x hx => q x ((hc.mem x).mpr hx)⟩
      · rintro _ ⟨kvs, ra, br, cs, s4, s6, s7, s8, s9, s10, rfl, hc, hd, hl, hn, hb⟩
        cases br with
        | none =>
          refine ec_if (b := true) (et_B (ev_isN (ev_var rfl) rfl)) (fun _ => ec_brk ?_) fun h => nomatch h
          obtain ⟨e1, hs⟩ := hn rfl
          rw [e1] at hd
          exact ⟨kvs, ra, none, σ, _, _, _, _, _, _, rfl, hd, .inl ⟨rfl, hs, j, hr⟩⟩
        | some x =>
          refine ec_if (b := false) (et_B (ev_isN (d := conD x) (ev_var rfl) (by cases x <;> rfl))) (fun h => nomatch h) fun _ => ec_next ?_
          exact ⟨kvs, ra, _, _, _, _, _, _, _, _, rfl, hd, .succ hr (hb fun h => nomatch h) hc, hl, fun _ => ⟨x, rfl⟩⟩
    · rintro _ ⟨kvs, ra, σ, s4, s5, s6, s7, s8, s9, s10, rfl, hd, hr, hl, hx⟩
      rw [List.length_range] at hr hx
      obtain ⟨x, rfl⟩ := hx (by omega)
      exact ⟨kvs, ra, some x, σ, _, _, _, _, _, _, rfl, hd, .inr ⟨(fun h => nomatch h), hr⟩⟩
  · rintro _ ⟨kvs, ra, br, σ, s4, s6, s7, s8, s9, s10, rfl, h⟩
    refine ec_frz 2 rfl (ec_frz 3 rfl ?_)
    exact ec_ret (ev_tup (ds := [.dic kvs, brD br, .dic ra]) (ea_cons (ev_var rfl) (ea_cons (ev_var rfl) (ea_1 (ev_var rfl)))) (by simp)) ⟨kvs, br, ra, σ, rfl, h⟩
/-! find_shifts -/
theorem ec_unpR {W : Wd} {Γ : List Sl} {P : Po} {te : TE} {R : Sl → Prop} {g : TG} (h : Ev W te Γ R) (k : ∀ s, R s → ∃ d js Γ', s = .dat d ∧ TgE W g js d Γ Γ' ∧ P.nx Γ') : Ec W (tAsg te g) Γ P := fun σ F H ko Z n r br c =>
  h σ F H ko _ fun v F1 H1 s g1 w z => by
    obtain ⟨d, js, Γ', rfl, hg, hk⟩ := k s w
    exact hg σ F1 H1 v (ko.gr g1) z _ fun σ' k' _ => n _ _ F1 H1 k' g1.ff hk
/-- the least shifts, if any -/
structure Fnd (k : Ck) (σ : Int → Int) : Prop where
  sat : Sat k σ
  g : σ (-1) ≤ 0
  r : ∃ j, Rnd k j σ
def NoF (k : Ck) : Prop := ∃ σ, (Rnd k (k.c.regs.length + 2) σ) ∨ (0 < σ (-1) ∧ ∃ j, Rnd k j σ)
def shD (n : Nat) (σ : Int → Int) : D := .lst ((List.range n).map fun (r : Nat) => .int (σ r))
def p_find_shifts (K : PySem.W.Frag) : Prm A_ck := .pu (fun x => [.dat (kD' K x.1)]) fun x s => (s = .dat .non ∧ NoF x.1) ∨ ∃ σ, s = .own (.lst ((List.range x.1.c.regs.length).map fun (r : Nat) => .int (σ r))) ∧ Fnd x.1 σ
theorem sc_find_shifts : FnScope ["clocked", "shifts", "broken", "_", "r"] ["clocked"] (defScope (top 42)) := ⟨rfl, rfl, rfl, by decide +kernel, rfl, by decide +kernel, by decide +kernel⟩
theorem cal_find_shifts (G : Gs K mg) : C8.Cal P w K mg base 5 "find_shifts" (p_find_shifts K).sp [] := by
  have c_relaxed := cal_relaxed (P := P) (w := w) (base := base) G
  refine Prm.cal (p_find_shifts K) G.d_find_shifts G.g_find_shifts sc_find_shifts (fun _ _ _ _ _ _ us hl => match us, hl with | [_], _ => rfl) (fun _ => rfl) (fun cdv A' outer s H E hr => ⟨_, (PSs.nox (pss_cons (ps_asg (C8.pe_c c_relaxed hr (by decide) (by rfl) (pa_cons (pvx 0) pa_nil)) (k_tup (K := K) (n := 3) (pgs_cons (pgx 1 sc_find_shifts.nd) (pgs_cons (pgx 2 sc_find_shifts.nd) (pgs_cons (pgx 3 sc_find_shifts.nd) pgs_nil))))) (pss_cons (ps_if (PW.pt (pw_or (pt_cmp (pc_notN (pvx 2))) (pw_or1 (pt_cmpR op_gt (pe_dget (hu_of hr) (pvx 1) (C8.pe_gc (v := .int (-1)) (by rfl) G.g_GROUND) (fun _ _ => rfl)) pe_int (nomark _))))) (pss_one (ps_ret pe_non)) pss_nil) (pss_one (ps_ret (pe_lc (own := [("r", 4)]) (g := (gName 4)) (by rfl) sc_find_shifts.nd (pi_range1 (by rfl) G.f_range (pa_cons (pe_op op_sub (pe_callB (k_len (K := K)) (by rfl) G.f_len (by decide +kernel) (pa_cons (pvx 1) pa_nil)) pe_int) pa_nil)) (blkOk_by (by kernel_rfl)) (fun _ _ _ _ _ => (pgx 4 sc_find_shifts.nd)) (fun _ _ _ _ _ => pts_nil) (fun _ _ _ _ _ => (pe_dget (hu_of hr) (pvx 1) (pvx 4) (fun _ _ => rfl))))))))), ?_⟩)
  rintro ⟨k, hk⟩ F H
  have h3 := hk.wf.r
  show Ec _ _ [.dat (kD' K k), .no, .no, .no, .no] _
  refine ec_seq (M := fun Γ => ∃ kvs br ra σ, Γ = [.dat (kD' K k), .dat (.dic kvs), .dat (brD br), .dat ra, .no] ∧ Rlx k kvs br σ) ?_ ?_
  · refine ec_unpR (ev_call (p := p_relaxed K) (⟨k, hk⟩ : A_ck) (ea_1 (ev_var rfl)) fits_pure rfl) ?_
    rintro _ ⟨⟨kvs, br, ra, σ, rfl, h⟩, _⟩
    exact ⟨_, _, _, rfl, tg_tup (tgs_cons tg_name (tgs_cons tg_name (tgs_cons tg_name tgs_nil))) rfl, kvs, br, .dic ra, σ, rfl, h⟩
  · rintro _ ⟨kvs, br, ra, σ, rfl, h⟩
    have hg := h.d.at_ (-1) (mem_nodes.mpr (.inl rfl))
    refine ec_seq (M := fun Γ => Γ = [.dat (kD' K k), .dat (.dic kvs), .dat (brD br), .dat ra, .no] ∧ br = none ∧ σ (-1) ≤ 0) ?_ ?_
    · cases br with
      | some x =>
        refine ec_if (b := true) (et_or (b := true) (c := true) (et_B (ev_notN (d := conD x) (ev_var rfl) (by cases x <;> rfl))) fun h => nomatch h) (fun _ => ?_) fun h => nomatch h
        rcases h.e with ⟨q, _⟩ | ⟨_, q⟩
        · cases q
        · exact ec_ret ev_non (.inl ⟨rfl, σ, .inl q⟩)
      | none =>
        obtain ⟨_, hsat, hr⟩ := h.e.resolve_right fun q => q.1 rfl
        refine ec_if (b := decide (0 < σ (-1))) ((et_or (b := false) (et_B (ev_notN (d := .non) (ev_var rfl) rfl)) fun _ => et_bb (ev_dget (k := .inl (-1)) (ev_bD (ev_var rfl)) ev_int hg) ev_int).to (Bool.false_or _)) (fun h => ?_) fun h => ec_next ⟨rfl, rfl, by have := of_decide_eq_false h; omega⟩
        exact ec_ret ev_non (.inl ⟨rfl, σ, .inr ⟨of_decide_eq_true h, hr⟩⟩)
    · rintro _ ⟨rfl, rfl, hs⟩
      obtain ⟨_, hsat, hr⟩ := h.e.resolve_right fun q => q.1 rfl
      refine ec_ret (ev_lcX (List.range k.c.regs.length) (fun r => .int (0 + (r : Nat))) (fun r => .int (σ r)) (it_rng1 (n := k.c.regs.length) (ea_1 ((ev_bi (ev_lenD (ev_bD (ev_var rfl))) ev_int).to (by rw [h.d.len, nodes_len]; exact congrArg (fun i => Sl.dat (.int i)) (by omega)))) (by omega)) (by rw [List.length_range]; omega) fun i r hr => ⟨_, _, tg_name, fun _ h => h, ?_⟩) (.inr ⟨σ, rfl, hsat, hs, hr⟩)
      have hr' : r < k.c.regs.length := List.mem_range.mp (List.mem_of_getElem? hr)
      exact ev_dget (k := .inl (0 + (r : Int))) (ev_bD (ev_var rfl)) (ev_var rfl) (by rw [Int.zero_add]; exact h.d.at_ r (mem_nodes.mpr (.inr (by omega))))
end Sg
/-! W10: check_lists, check_delays. -/
namespace Sg
open PySem PySem.Spec PyProof.Rows L2 Dn
variable {P : Program} {w : World} {K : PySem.W.Frag} {mg : Str → Option Value} {base : Heap}
/-- a list of lists of leaves -/
def lls (l : List (List D)) : D := .lst (l.map .lst)
structure LsOk (x : List (List D) × Nat) : Prop where
  len : x.1.length = x.2
  ne : ∀ ds ∈ x.1, ds ≠ [] ∧ ∀ d ∈ ds, (leafP d).isSome = true
abbrev A_lsx := {x : List (List D) × Nat // LsOk x}
def p_check_lists (K : PySem.W.Frag) : Prm A_lsx := .fn (fun x => [.dat (lls x.1.1), .dat (.int x.1.2)]) fun _ => .dat .non
theorem sc_check_lists : FnScope ["lists", "many"] ["lists", "many"] (defScope (top 45)) := ⟨rfl, rfl, rfl, by decide +kernel, rfl, by decide +kernel, by decide +kernel⟩
theorem cal_check_lists (G : Gs K mg) : C8.Cal P w K mg base 1 "check_lists" (p_check_lists K).sp [] := by
  refine Prm.cal (p_check_lists K) G.d_check_lists G.g_check_lists sc_check_lists (fun _ _ _ _ _ _ us hl => match us, hl with | [_, _], _ => rfl) (fun _ => rfl) (fun cdv A' outer s H E hr => ⟨_, (PSs.nox (pss_one (ps_if (PW.pt (pw_or (pt_cmpR op_ne (pe_callB (k_len (K := K)) (by rfl) G.f_len (by decide +kernel) (pa_cons (pvx 0) pa_nil)) (pvx 1) (nomark _)) (pw_or1 (pt_cmpR (k_inD (K := K) (room65 hr)) (pe_lst pa_nil) (pvx 0) (by with_unfolding_all rfl))))) (pss_one ps_never) pss_nil))), ?_⟩)
  rintro ⟨⟨l, n⟩, h⟩ F H
  have h1 : l.length = n := h.len
  have h2 : ∀ ds ∈ l, ds ≠ [] ∧ ∀ d ∈ ds, (leafP d).isSome = true := h.ne
  show Ec _ _ [.dat (lls l), .dat (.int n)] _
  exact ec_no ((et_or (b := false) (c := false) ((et_test (ev_neI (ev_lenL (ds := l.map .lst) (ev_bL (ev_var rfl))) (ev_var rfl))).to (by rw [List.length_map, h1, decide_eq_true rfl]; rfl)) fun _ => et_test (ev_nilIn (ev_lst (ds := []) ea_nil (by decide)) (ev_var rfl) h2)).to rfl) rfl
/-! delays -/
abbrev Dls := List (List (List Int))
def rowsD (l : List (List Int)) : D := .lst (l.map fun r => .lst (r.map .int))
def dlD (l : Dls) : D := .lst (l.map rowsD)
structure RowsOk (g : Gate) (l : List (List Int)) : Prop where
  len : l.length = g.nets.length
  ne : ∀ r ∈ l, r ≠ []
  rg : ∀ (i : Nat) (r : List Int) (p : Int × Int), l[i]? = some r → g.rng[i]? = some p → ∀ d ∈ r, p.1 ≤ d ∧ d ≤ p.2
structure DlOk (c : Circ) (l : Dls) : Prop where
  len : l.length = c.gates.length
  row : ∀ (i : Nat) (g : Gate) (r : List (List Int)), c.gates[i]? = some g → l[i]? = some r → RowsOk g r
theorem rows_lst (l : List (List Int)) : rowsD l = .lst ((l.map fun r => r.map D.int).map .lst) := by unfold rowsD; rw [List.map_map]; rfl
theorem rows_leaf {l : List (List Int)} (h : ∀ r ∈ l, r ≠ []) : ∀ ds ∈ l.map fun r => r.map D.int, ds ≠ [] ∧ ∀ d ∈ ds, (leafP d).isSome = true := fun ds hds => by
  obtain ⟨r, hr, rfl⟩ := List.mem_map.mp hds
  refine ⟨fun e => h r hr (List.map_eq_nil_iff.mp e), fun d hd => ?_⟩
  obtain ⟨i, _, rfl⟩ := List.mem_map.mp hd
  rfl
abbrev A_cdl := {x : Circ × Dls // WF x.1 ∧ DlOk x.1 x.2}
def p_check_delays (K : PySem.W.Frag) : Prm A_cdl := .fn (fun x => [.dat (cD x.1.1), .dat (dlD x.1.2)]) fun _ => .dat .non
theorem sc_check_delays : FnScope ["circuit", "delays", "gate", "rows", "row", "low", "high"] ["circuit", "delays"] (defScope (top 27)) := ⟨rfl, rfl, rfl, by decide +kernel, rfl, by decide +kernel, by decide +kernel⟩
theorem cal_check_delays (G : Gs K mg) : C8.Cal P w K mg base 1 "check_delays" (p_check_delays K).sp [] := by
  refine Prm.cal (p_check_delays K) G.d_check_delays G.g_check_delays sc_check_delays (fun _ _ _ _ _ _ us hl => match us, hl with | [_, _], _ => rfl) (fun _ => rfl) (fun cdv A' outer s H E hr => ⟨_, (PSs.nox (pss_cons (ps_if (pt_cmpR op_ne (pe_callB (k_len (K := K)) (by rfl) G.f_len (by decide +kernel) (pa_cons (pvx 1) pa_nil)) (pe_callB (k_len (K := K)) (by rfl) G.f_len (by decide +kernel) (pa_cons (pe_ix (k_ix (K := K)) (pvx 0) pe_int (fun _ _ => rfl)) pa_nil)) (nomark _)) (pss_one ps_never) pss_nil) (pss_cons (ps_for PassesOwn.never (by rfl) (k_zip (K := K) (by rfl) G.f_zip (pa_cons (pe_ix (k_ix (K := K)) (pvx 0) pe_int (fun _ _ => rfl)) (pa_cons (pvx 1) pa_nil))) (k_tup (K := K) (n := 2) (pgs_cons (pgx 2 sc_check_delays.nd) (pgs_cons (pgx 3 sc_check_delays.nd) pgs_nil))) (pss_one (ps_if (PW.pt (pw_or (pt_cmpR op_ne (pe_callB (k_len (K := K)) (by rfl) G.f_len (by decide +kernel) (pa_cons (pvx 3) pa_nil)) (pe_callB (k_len (K := K)) (by rfl) G.f_len (by decide +kernel) (pa_cons (pe_ix (k_ix (K := K)) (pvx 2) pe_int (fun _ _ => rfl)) pa_nil)) (nomark _)) (pw_or1 (pt_cmpR (k_inD (K := K) (room65 hr)) (pe_lst pa_nil) (pvx 3) (by with_unfolding_all rfl))))) (pss_one ps_never) pss_nil))) (pss_one (ps_for PassesOwn.never (by rfl) (k_zip (K := K) (by rfl) G.f_zip (pa_cons (pe_ix (k_ix (K := K)) (pvx 0) pe_int (fun _ _ => rfl)) (pa_cons (pvx 1) pa_nil))) (k_tup (K := K) (n := 2) (pgs_cons (pgx 2 sc_check_delays.nd) (pgs_cons (pgx 3 sc_check_delays.nd) pgs_nil))) (pss_one (ps_for PassesOwn.never (by rfl) (k_zip (K := K) (by rfl) G.f_zip (pa_cons (pe_ix (k_ix (K := K)) (pvx 2) pe_int (fun _ _ => rfl)) (pa_cons (pvx 3) pa_nil))) (k_tup (K := K) (n := 2) (pgs_cons (k_tup (K := K) (n := 2) (pgs_cons (pgx 5 sc_check_delays.nd) (pgs_cons (pgx 6 sc_check_delays.nd) pgs_nil))) (pgs_cons (pgx 4 sc_check_delays.nd) pgs_nil))) (pss_one (ps_if (PW.pt (pw_or (pt_cmpR op_lt (pe_callB (k_min (K := K)) (by rfl) G.f_min (by decide +kernel) (pa_cons (pvx 4) pa_nil)) (pvx 5) (nomark _)) (pw_or1 (pt_cmpR op_gt (pe_callB (k_max (K := K)) (by rfl) G.f_max (by decide +kernel) (pa_cons (pvx 4) pa_nil)) (pvx 6) (nomark _))))) (pss_one ps_never) pss_nil))))))))), ?_⟩)
  rintro ⟨⟨c, l⟩, hc, hl⟩ F H
  have hc : WF c := hc
  have hl : DlOk c l := hl
  show Ec _ _ [.dat (cD c), .dat (dlD l), .no, .no, .no, .no, .no] _
  refine ec_noS ((et_test (ev_neI (ev_lenL (ds := l.map rowsD) (ev_bL (ev_var rfl))) (ev_lenT (ds := c.gates.map gD) (ev_ixT (ev_var rfl) ev_int rfl)))).to (by rw [List.length_map, List.length_map, hl.len, decide_eq_true rfl]; rfl)) ?_
  have zp : ∀ {W : Wd} {Γ : List Sl}, Γ[0]? = some (.dat (cD c)) → Γ[1]? = some (.dat (dlD l)) → ItE W (iZipB K (tCons (tOp (rIx K) (tVar 0) (tC (.int 1))) (tCons (tVar 1) tNil))) Γ (zipD (c.gates.map gD) (l.map rowsD)) := fun e1 e2 =>
    it_zip (b := false) (c := true) (ds := c.gates.map gD) (es := l.map rowsD) (ea_cons (ev_ixT (ev_var e1) ev_int rfl) (ea_1 (ev_var e2)))
  refine ec_seq (M := fun Γ => ∃ s2 s3 s4 s5 s6, Γ = [.dat (cD c), .dat (dlD l), s2, s3, s4, s5, s6]) ?_ ?_
  · refine ec_forX (c.gates.zip l) (fun _ p => .tup [gD p.1, rowsD p.2]) (zp rfl rfl) zip_at (by rw [zipD_len, List.length_map, List.length_map, List.length_zip]) (fun _ Γ => ∃ s2 s3 s4 s5 s6, Γ = [.dat (cD c), .dat (dlD l), s2, s3, s4, s5, s6]) ⟨_, _, _, _, _, rfl⟩ ?_ fun Γ h => h
    rintro i ⟨g, r⟩ _ hi ⟨s2, s3, s4, s5, s6, rfl⟩
    obtain ⟨e1, e2⟩ := List.getElem?_zip_eq_some.mp hi
    have ok := hl.row i g r e1 e2
    refine ⟨_, _, tg_tup (tgs_cons tg_name (tgs_cons tg_name tgs_nil)) rfl, ?_⟩
    exact ec_no ((et_or (b := false) (c := false) ((et_test (ev_neI (ev_lenL (ds := r.map fun r => .lst (r.map .int)) (ev_bL (ev_var rfl))) (ev_lenT (ds := g.nets.map .str) (ev_ixT (ev_var rfl) ev_int rfl)))).to (by rw [List.length_map, List.length_map, ok.len, decide_eq_true rfl]; rfl))
      fun _ => et_test (ev_nilIn (ev_lst (ds := []) ea_nil (by decide)) ((ev_var rfl).to (congrArg Sl.dat (rows_lst r))) (rows_leaf ok.ne))).to rfl) ⟨_, _, _, _, _, rfl⟩
  · rintro _ ⟨s2, s3, s4, s5, s6, rfl⟩
    refine ec_forX (c.gates.zip l) (fun _ p => .tup [gD p.1, rowsD p.2]) (zp rfl rfl) zip_at (by rw [zipD_len, List.length_map, List.length_map, List.length_zip]) (fun _ Γ => ∃ s2 s3 s4 s5 s6, Γ = [.dat (cD c), .dat (dlD l), s2, s3, s4, s5, s6]) ⟨_, _, _, _, _, rfl⟩ ?_ fun _ _ => rfl
    clear s2 s3 s4 s5 s6
    rintro i ⟨g, r⟩ _ hi ⟨s2, s3, s4, s5, s6, rfl⟩
    obtain ⟨e1, e2⟩ := List.getElem?_zip_eq_some.mp hi
    have ok := hl.row i g r e1 e2
    refine ⟨_, _, tg_tup (tgs_cons tg_name (tgs_cons tg_name tgs_nil)) rfl, ?_⟩
    refine ec_forX (g.rng.zip r) (fun _ p => .tup [pD p.1, .lst (p.2.map .int)]) (it_zip (b := false) (c := true) (ds := g.rng.map pD) (es := r.map fun r => .lst (r.map .int)) (ea_cons (ev_ixT (ev_var rfl) ev_int rfl) (ea_1 (ev_var rfl)))) zip_at (by rw [zipD_len, List.length_map, List.length_map, List.length_zip])
      (fun _ Γ => ∃ s4 s5 s6, Γ = [.dat (cD c), .dat (dlD l), .dat (gD g), .dat (rowsD r), s4, s5, s6]) ⟨_, _, _, rfl⟩ ?_ ?_
    · rintro j ⟨⟨lo, hi⟩, d⟩ _ hj ⟨s4, s5, s6, rfl⟩
      obtain ⟨e3, e4⟩ := List.getElem?_zip_eq_some.mp hj
      have hd : d ≠ [] := ok.ne d (List.mem_of_getElem? e4)
      have b1 := ok.rg j d (lo, hi) e4 e3 _ (minI_mem hd)
      have b2 := ok.rg j d (lo, hi) e4 e3 _ (maxI_mem hd)
      refine ⟨_, _, tg_tup (tgs_cons (tg_tup (tgs_cons tg_name (tgs_cons tg_name tgs_nil)) rfl) (tgs_cons tg_name tgs_nil)) rfl, ?_⟩
      exact ec_no ((et_or (b := false) (c := false) ((et_bb (ev_minL (ns := d) (ev_bL (ev_var rfl)) hd) (ev_var rfl)).to (decide_eq_false (by have := b1.1; dsimp only at this ⊢; omega))) fun _ => (et_bb (ev_maxL (ns := d) (ev_bL (ev_var rfl)) hd) (ev_var rfl)).to (decide_eq_false (by have := b2.2; dsimp only at this ⊢; omega))).to rfl) ⟨_, _, _, rfl⟩
    · rintro _ ⟨s4, s5, s6, rfl⟩
      exact ⟨_, _, _, _, _, rfl⟩
end Sg
/-! W11: shifted. -/
namespace Sg
open PySem PySem.Spec PyProof.Rows L2 Dn
variable {P : Program} {w : World} {K : PySem.W.Frag} {mg : Str → Option Value} {base : Heap}
def shR (r : Reg) (s : Int) : Reg := { r with e0 := r.e0 + s, e1 := r.e1 + s }
def shC (c : Circ) (l : List Int) : Circ := { c with regs := List.zipWith shR c.regs l }
def shK (k : Ck) (l : List Int) : Ck := { k with c := shC k.c l }
structure ShOk (k : Ck) (l : List Int) : Prop where
  ok : CkOk k
  len : l.length = k.c.regs.length
  nn : ∀ s ∈ l, 0 ≤ s
  ok2 : CkOk (shK k l)
abbrev A_sh := {x : Ck × List Int // ShOk x.1 x.2}
def p_shifted (K : PySem.W.Frag) : Prm A_sh := .fn (fun x => [.dat (kD' K x.1.1), .dat (.lst (x.1.2.map .int))]) fun x => .own (.ins (He.ga K "Clocked") (kFs (shK x.1.1 x.1.2)))
theorem sc_shifted : FnScope ["clocked", "shifts", "circuit", "regs", "row", "shift"] ["clocked", "shifts"] (defScope (top 37)) := ⟨rfl, rfl, rfl, by decide +kernel, rfl, by decide +kernel, by decide +kernel⟩
theorem cal_shifted (G : Gs K mg) : C8.Cal P w K mg base 5 "shifted" (p_shifted K).sp [] := by
  have k_Clocked := mak_Clocked (P := P) (w := w) (base := base) G
  have m_Clocked_circuit := met_Clocked_circuit (P := P) (w := w) (base := base) G
  have m_Clocked_holds := met_Clocked_holds (P := P) (w := w) (base := base) G
  have p_Clocked_period := prp_Clocked_period (P := P) (w := w) (base := base) G
  refine Prm.cal (p_shifted K) G.d_shifted G.g_shifted sc_shifted (fun _ _ _ _ _ _ us hl => match us, hl with | [_, _], _ => rfl) (fun _ => rfl) (fun cdv A' outer s H E hr => ⟨_, (PSs.nox (pss_cons (psx 2 sc_shifted.nd (C8.pe_mt0 m_Clocked_circuit hr (by decide) (pvx 0))) (pss_cons (ps_if (pt_cmpR op_ne (pe_callB (k_len (K := K)) (by rfl) G.f_len (by decide +kernel) (pa_cons (pvx 1) pa_nil)) (pe_callB (k_len (K := K)) (by rfl) G.f_len (by decide +kernel) (pa_cons (pe_ix (k_ix (K := K)) (pvx 2) pe_int (fun _ _ => rfl)) pa_nil)) (nomark _)) (pss_one ps_never) pss_nil) (pss_cons (psx 3 sc_shifted.nd (pe_lst pa_nil)) (pss_cons (ps_for PassesOwn.never (by rfl) (k_zip (K := K) (by rfl) G.f_zip (pa_cons (pe_ix (k_ix (K := K)) (pvx 2) pe_int (fun _ _ => rfl)) (pa_cons (pvx 1) pa_nil))) (k_tup (K := K) (n := 2) (pgs_cons (pgx 4 sc_shifted.nd) (pgs_cons (pgx 5 sc_shifted.nd) pgs_nil))) (pss_cons (ps_if (pt_cmpR op_lt (pvx 5) pe_int (nomark _)) (pss_one ps_never) pss_nil) (pss_one (ps_expr (k_app (K := K) (pvx 3) (pa_cons (pe_tup (k_star (K := K) (pe_slice (k_slT (K := K)) (pvx 4) po_none (po_some pe_int)) (pa_cons (pe_tup (pa_cons (pe_op (k_plus (K := K)) (pe_ix (k_ix (K := K)) (pe_ix (k_ix (K := K)) (pvx 4) pe_int (fun _ _ => rfl)) pe_int (fun _ _ => rfl)) (pvx 5)) (pa_cons (pe_op (k_plus (K := K)) (pe_ix (k_ix (K := K)) (pe_ix (k_ix (K := K)) (pvx 4) pe_int (fun _ _ => rfl)) pe_int (fun _ _ => rfl)) (pvx 5)) pa_nil))) (k_star (K := K) (pe_slice (k_slT (K := K)) (pvx 4) (po_some pe_int) po_none) pa_nil)))) pa_nil)))))) (pss_one (ps_ret (C8.pe_mk k_Clocked hr (by decide) (by rfl) (pa_cons (pe_tup (pa_cons (pe_ix (k_ix (K := K)) (pvx 2) pe_int (fun _ _ => rfl)) (pa_cons (pe_ix (k_ix (K := K)) (pvx 2) pe_int (fun _ _ => rfl)) (pa_cons (pe_callTy (k_tuple (K := K)) (by rfl) G.f_tuple (by decide +kernel) (pa_cons (pvx 3) pa_nil)) (pa_cons (pe_ix (k_ix (K := K)) (pvx 2) pe_int (fun _ _ => rfl)) pa_nil))))) (pa_cons (pe_propC p_Clocked_period hr (by decide) (pvx 0)) (pa_cons (C8.pe_mt0 m_Clocked_holds hr (by decide) (pvx 0)) pa_nil))))))))))), ?_⟩)
  rintro ⟨⟨k, l⟩, h⟩ F H
  have h : ShOk k l := h
  have hl := h.len
  have h3 := h.ok.wf.r
  show Ec _ _ [.dat (kD' K k), .dat (.lst (l.map .int)), .no, .no, .no, .no] _
  refine ec_set (evf_meth k (ev_var rfl) rfl ea_nil rfl rfl) ?_
  refine ec_noS ((et_test (ev_neI (ev_lenL (ds := l.map .int) (ev_bL (ev_var rfl))) (ev_lenT (ds := k.c.regs.map rD) (ev_ixT (ev_var rfl) ev_int rfl)))).to (by rw [List.length_map, List.length_map, hl, decide_eq_true rfl]; rfl)) ?_
  refine ec_set (ev_lst (ds := []) ea_nil (by decide)) ?_
  refine ec_seq (M := fun Γ => ∃ s4 s5, Γ = [.dat (kD' K k), .dat (.lst (l.map .int)), .dat (cD k.c), .own (.lst ((List.zipWith shR k.c.regs l).map rD)), s4, s5]) ?_ ?_
  · refine ec_forX (k.c.regs.zip l) (fun _ p => .tup [rD p.1, .int p.2]) (it_zip (b := false) (c := true) (ds := k.c.regs.map rD) (es := l.map .int) (ea_cons (ev_ixT (ev_var rfl) ev_int rfl) (ea_1 (ev_var rfl)))) zip_at (by rw [zipD_len, List.length_map, List.length_map, List.length_zip])
      (fun i Γ => ∃ s4 s5, Γ = [.dat (kD' K k), .dat (.lst (l.map .int)), .dat (cD k.c), .own (.lst (((k.c.regs.zip l).take i).map fun p => rD (shR p.1 p.2))), s4, s5]) ⟨_, _, rfl⟩ ?_ ?_
    · rintro i ⟨r, s⟩ _ hi ⟨s4, s5, rfl⟩
      obtain ⟨e1, e2⟩ := List.getElem?_zip_eq_some.mp hi
      have hs := h.nn s (List.mem_of_getElem? e2)
      refine ⟨_, _, tg_tup (tgs_cons tg_name (tgs_cons tg_name tgs_nil)) rfl, ?_⟩
      refine ec_noS ((et_bb (ev_var rfl) ev_int).to (decide_eq_false (by dsimp only; omega))) ?_
      refine ec_app (d := rD (shR r s)) rfl (ev_tup (ds := [.str r.nm, .str r.net, .tup [.int (r.e0 + s), .int (r.e1 + s)], .tup [.int r.o0, .int r.o1], .int r.su, .int r.ho, .bl r.ini]) (ea_star (ds := [.str r.nm, .str r.net]) (ev_slT (ds := [.str r.nm, .str r.net, .tup [.int r.e0, .int r.e1], .tup [.int r.o0, .int r.o1], .int r.su, .int r.ho, .bl r.ini]) (ev_var rfl) eo_none (eo_some ev_int) (by show ¬ (HT.sIx 7 0 none = 0 ∧ HT.sIx 7 7 (some 2) = 7); decide))
        (ea_cons (ev_tup (ds := [.int (r.e0 + s), .int (r.e1 + s)]) (ea_cons (ev_add (ev_ixT (ev_ixT (ev_var rfl) ev_int rfl) ev_int rfl) (ev_var rfl)) (ea_1 (ev_add (ev_ixT (ev_ixT (ev_var rfl) ev_int rfl) ev_int rfl) (ev_var rfl)))) (by simp))
          (ea_star (ds := [.tup [.int r.o0, .int r.o1], .int r.su, .int r.ho, .bl r.ini]) (ev_slT (ds := [.str r.nm, .str r.net, .tup [.int r.e0, .int r.e1], .tup [.int r.o0, .int r.o1], .int r.su, .int r.ho, .bl r.ini]) (ev_var rfl) (eo_some ev_int) eo_none (by show ¬ (HT.sIx 7 0 (some 3) = 0 ∧ HT.sIx 7 7 none = 7); decide)) ea_nil))) (by simp)) ?_ ⟨_, _, by rw [take_snoc hi, List.map_append]; rfl⟩
      rw [List.length_map, List.length_take, List.length_zip]
      omega
    · rintro _ ⟨s4, s5, rfl⟩
      refine ⟨s4, s5, ?_⟩
      rw [List.take_length, List.map_zipWith, List.zip, List.map_zipWith]
  · rintro _ ⟨s4, s5, rfl⟩
    refine ec_ret (s := .own (.ins (He.ga K "Clocked") (kFs (shK k l)))) (ev_make (⟨shK k l, h.ok2⟩ : A_ck) (ea_cons (ev_tup (ds := [.tup (k.c.ins.map .str), .tup (k.c.gates.map gD), .tup ((List.zipWith shR k.c.regs l).map rD), .tup []]) (ea_cons (ev_ixT (ev_var rfl) ev_int rfl) (ea_cons (ev_ixT (ev_var rfl) ev_int rfl) (ea_cons (ev_tupL (ev_own rfl)) (ea_1 (ev_ixT (ev_var rfl) ev_int rfl))))) (by simp)) (ea_cons (evf_prop k (ev_var rfl) rfl) (ea_1 (ev_fL (evf_meth k (ev_var rfl) rfl ea_nil rfl rfl))))) rfl) rfl
end Sg
/-! Mth4: the rounds of relaxed reach the least shifts. -/
namespace Sg
open PySem L2 Dn
theorem nodup_le : ∀ {S T : List Int}, S.Nodup → (∀ v ∈ S, v ∈ T) → S.length ≤ T.length
  | [], _, _, _ => Nat.zero_le _
  | v :: S, T, hn, hs => by
    rw [List.nodup_cons] at hn
    have hv : v ∈ T := hs v (List.mem_cons_self ..)
    have := nodup_le (S := S) (T := T.erase v) hn.2 fun u hu => (List.mem_erase_of_ne (fun e => hn.1 (by rw [← e]; exact hu))).mpr (hs u (List.mem_cons_of_mem _ hu))
    rw [List.length_erase_of_mem hv] at this
    have hp : 0 < T.length := List.length_pos_of_mem hv
    rw [List.length_cons]
    omega
theorem nodes_nodup (n : Nat) : (nodes n).Nodup := by
  unfold nodes
  rw [List.nodup_append]
  refine ⟨?_, by simp, fun a ha b hb e => ?_⟩
  · rw [List.nodup_iff_pairwise_ne, List.pairwise_map]
    exact (List.nodup_iff_pairwise_ne.mp List.nodup_range).imp fun h e => h (Int.ofNat.inj e)
  · obtain ⟨r, _, q⟩ := List.mem_map.mp ha
    rw [List.mem_singleton.mp hb] at e
    have q : (r : Int) = a := q
    omega
theorem step_ge (σ : Int → Int) (e : Int × Int × Int) (v : Int) : σ v ≤ step σ e v := by
  unfold step
  split
  · unfold upz
    split
    · rename_i h q; subst q; omega
    · exact Int.le_refl _
  · exact Int.le_refl _
theorem step_edge (σ : Int → Int) (e : Int × Int × Int) : σ e.1 - e.2.2 ≤ step σ e e.2.1 := by
  unfold step
  split
  · unfold upz
    rw [if_pos rfl]; exact Int.le_refl _
  · omega
theorem pass_ge {ni : Nat} : ∀ (cs : List Con) (σ : Int → Int) (v : Int), σ v ≤ pass ni σ cs v
  | [], σ, v => Int.le_refl _
  | x :: cs, σ, v => Int.le_trans (step_ge σ (eg ni x) v) (pass_ge cs (step σ (eg ni x)) v)
theorem pass_app {ni : Nat} (σ : Int → Int) (cs ds : List Con) : pass ni σ (cs ++ ds) = pass ni (pass ni σ cs) ds := by unfold pass; rw [List.foldl_append]
theorem pass_edge {ni : Nat} {cs : List Con} {x : Con} (h : x ∈ cs) (σ : Int → Int) : σ (eg ni x).1 - (eg ni x).2.2 ≤ pass ni σ cs (eg ni x).2.1 := by
  obtain ⟨pre, post, e⟩ := List.append_of_mem h
  subst e
  rw [pass_app]
  have a := pass_ge (ni := ni) pre σ (eg ni x).1
  have b := step_edge (pass ni σ pre) (eg ni x)
  have c := pass_ge (ni := ni) post (step (pass ni σ pre) (eg ni x)) (eg ni x).2.1
  show _ ≤ pass ni (step (pass ni σ pre) (eg ni x)) post _
  omega
theorem pass_le {ni n : Nat} {p : Int → Int} : ∀ {cs : List Con} {σ : Int → Int}, (∀ x ∈ cs, SatE p (eg ni x) ∧ (eg ni x).1 ∈ nodes n) → (∀ v ∈ nodes n, σ v ≤ p v) → ∀ v ∈ nodes n, pass ni σ cs v ≤ p v
  | [], _, _, h, v, hv => h v hv
  | x :: cs, σ, hs, h, v, hv => by
    refine pass_le (cs := cs) (σ := step σ (eg ni x)) (fun y hy => hs y (List.mem_cons_of_mem _ hy)) (fun u hu => ?_) v hv
    obtain ⟨s1, s2⟩ := hs x (List.mem_cons_self ..)
    unfold step
    split
    · unfold upz
      split
      · rename_i q
        subst q
        have := h _ s2
        unfold SatE at s1
        omega
      · exact h u hu
    · exact h u hu
structure Feas (k : Ck) (p : Int → Int) : Prop where
  nn : ∀ v ∈ nodes k.c.regs.length, 0 ≤ p v
  sat : Sat k p
section
variable {k : Ck} {p σ : Int → Int}
theorem Rnd.nn {j : Nat} (h : Rnd k j σ) : ∀ v, 0 ≤ σ v := by
  induction h with
  | zero => exact fun _ => Int.le_refl _
  | succ _ _ _ ih => exact fun v => Int.le_trans (ih v) (pass_ge _ _ _)
theorem Rnd.le (hk : CkOk k) (hp : Feas k p) {j : Nat} (h : Rnd k j σ) : ∀ v ∈ nodes k.c.regs.length, σ v ≤ p v := by
  induction h with
  | zero => exact hp.nn
  | succ _ _ hc ih => exact pass_le (fun x hx => ⟨hp.sat x ((hc.mem x).mp hx), (eg_nodes hk ((hc.mem x).mp hx)).1⟩) ih
def tots (k : Ck) (p : Int → Int) : Nat := ((nodes k.c.regs.length).map fun v => (p v).toNat).sum
/-- a feasible one with the least sum -/
theorem Feas.min (h : Feas k p) : ∃ q, Feas k q ∧ ∀ r, Feas k r → tots k q ≤ tots k r := by
  have : ∀ (m : Nat) (p : Int → Int), Feas k p → tots k p ≤ m → ∃ q, Feas k q ∧ ∀ r, Feas k r → tots k q ≤ tots k r := by
    intro m
    induction m with
    | zero => exact fun p hp hm => ⟨p, hp, fun r _ => by omega⟩
    | succ m ih =>
      intro p hp hm
      by_cases q : ∃ r, Feas k r ∧ tots k r < tots k p
      · obtain ⟨r, hr, hl⟩ := q
        exact ih r hr (by omega)
      · exact ⟨p, hp, fun r hr => Nat.le_of_not_lt fun hl => q ⟨r, hr, hl⟩⟩
  exact this _ p h (Nat.le_refl _)
theorem grow (hk : CkOk k) (hp : Feas k p) (hm : ∀ r, Feas k r → tots k p ≤ tots k r) (S : List Int) (hS : ∃ v ∈ nodes k.c.regs.length, v ∉ S) :
    ∃ v ∈ nodes k.c.regs.length, v ∉ S ∧ (p v = 0 ∨ ∃ x, ConOf k x ∧ (eg k.c.ins.length x).1 ∈ S ∧ (eg k.c.ins.length x).2.1 = v ∧ p v = p (eg k.c.ins.length x).1 - (eg k.c.ins.length x).2.2) := by
  by_cases q : ∃ v ∈ nodes k.c.regs.length, v ∉ S ∧ (p v = 0 ∨ ∃ x, ConOf k x ∧ (eg k.c.ins.length x).1 ∈ S ∧ (eg k.c.ins.length x).2.1 = v ∧ p v = p (eg k.c.ins.length x).1 - (eg k.c.ins.length x).2.2)
  · exact q
  · exfalso
    have f : Feas k fun v => if v ∈ S then p v else p v - 1 := by
      refine ⟨fun v hv => ?_, fun x hx => ?_⟩
      · by_cases hs : v ∈ S
        · rw [if_pos hs]; exact hp.nn v hv
        · rw [if_neg hs]
          have h1 := hp.nn v hv
          have h2 : p v ≠ 0 := fun e => q ⟨v, hv, hs, .inl e⟩
          omega
      · have h1 := hp.sat x hx
        obtain ⟨n1, n2⟩ := eg_nodes hk hx
        unfold SatE at h1 ⊢
        dsimp only
        by_cases ha : (eg k.c.ins.length x).1 ∈ S
        · by_cases hb : (eg k.c.ins.length x).2.1 ∈ S
          · rw [if_pos ha, if_pos hb]; exact h1
          · rw [if_pos ha, if_neg hb]
            have : p (eg k.c.ins.length x).2.1 ≠ p (eg k.c.ins.length x).1 - (eg k.c.ins.length x).2.2 := fun e => q ⟨_, n2, hb, .inr ⟨x, hx, ha, rfl, e⟩⟩
            omega
        · by_cases hb : (eg k.c.ins.length x).2.1 ∈ S
          · rw [if_neg ha, if_pos hb]; omega
          · rw [if_neg ha, if_neg hb]; omega
    have h1 := hm _ f
    obtain ⟨v, hv, hs⟩ := hS
    have h2 : tots k (fun v => if v ∈ S then p v else p v - 1) < tots k p := by
      unfold tots
      refine sum_lt (fun u hu => ?_) ⟨v, hv, ?_⟩
      · dsimp only; split <;> omega
      · dsimp only
        rw [if_neg hs]
        have h1 := hp.nn v hv
        have h2 : p v ≠ 0 := fun e => q ⟨v, hv, hs, .inl e⟩
        omega
    omega
inductive Chain (k : Ck) (p : Int → Int) : List Int → Prop
  | nil : Chain k p []
  | cons {v : Int} {S : List Int} : Chain k p S → v ∈ nodes k.c.regs.length → v ∉ S →
      (p v = 0 ∨ ∃ x, ConOf k x ∧ (eg k.c.ins.length x).1 ∈ S ∧ (eg k.c.ins.length x).2.1 = v ∧ p v = p (eg k.c.ins.length x).1 - (eg k.c.ins.length x).2.2) → Chain k p (v :: S)
theorem Chain.sub {S : List Int} (h : Chain k p S) : S.Nodup ∧ ∀ v ∈ S, v ∈ nodes k.c.regs.length := by
  induction h with
  | nil => exact ⟨List.nodup_nil, fun _ h => nomatch h⟩
  | cons _ hv hn _ ih =>
    refine ⟨List.nodup_cons.mpr ⟨hn, ih.1⟩, fun u hu => ?_⟩
    rcases List.mem_cons.mp hu with e | e
    · rw [e]; exact hv
    · exact ih.2 u e
theorem chain_ex (hk : CkOk k) (hp : Feas k p) (hm : ∀ r, Feas k r → tots k p ≤ tots k r) : ∀ j, j ≤ k.c.regs.length + 1 → ∃ S, Chain k p S ∧ S.length = j
  | 0, _ => ⟨[], .nil, rfl⟩
  | j + 1, hj => by
    obtain ⟨S, hc, hl⟩ := chain_ex hk hp hm j (by omega)
    have : ∃ v ∈ nodes k.c.regs.length, v ∉ S := by
      by_cases q : ∃ v ∈ nodes k.c.regs.length, v ∉ S
      · exact q
      · exfalso
        have := nodup_le (nodes_nodup k.c.regs.length) fun v hv => Classical.byContradiction fun h => q ⟨v, hv, h⟩
        rw [nodes_len] at this
        omega
    obtain ⟨v, hv, hn, h⟩ := grow hk hp hm S this
    exact ⟨v :: S, .cons hc hv hn h, by rw [List.length_cons, hl]⟩
theorem Chain.all {S : List Int} (h : Chain k p S) (hl : S.length = k.c.regs.length + 1) {v : Int} (hv : v ∈ nodes k.c.regs.length) : v ∈ S := by
  refine Classical.byContradiction fun hn => ?_
  have := nodup_le (S := v :: S) (T := nodes k.c.regs.length) (List.nodup_cons.mpr ⟨hn, h.sub.1⟩) fun u hu => by
    rcases List.mem_cons.mp hu with e | e
    · rw [e]; exact hv
    · exact h.sub.2 u e
  rw [nodes_len, List.length_cons] at this
  omega
theorem Chain.bound {S : List Int} (h : Chain k p S) (hB : ∀ x, ConOf k x → -9350 ≤ (eg k.c.ins.length x).2.2) : ∀ v ∈ S, p v ≤ 9350 * ((S.length : Int) - 1) := by
  induction h with
  | nil => exact fun _ h => nomatch h
  | @cons u S hc _ _ hu ih =>
    intro v hv
    rw [List.length_cons]
    rcases List.mem_cons.mp hv with e | e
    · subst e
      rcases hu with z | ⟨x, hx, ha, _, e⟩
      · omega
      · have := ih _ ha
        have := hB x hx
        omega
    · have := ih v e
      omega
theorem Rnd.settled (hk : CkOk k) (hp : Feas k p) {j : Nat} (h : Rnd k j σ) : ∀ {S : List Int}, Chain k p S → S.length ≤ j → ∀ v ∈ S, σ v = p v := by
  induction h with
  | zero => exact fun hc hl v hv => absurd (List.length_pos_of_mem hv) (by omega)
  | @succ j σ cs hr hs hcs ih =>
    intro S hc hl
    have hle := Rnd.le hk hp (.succ hr hs hcs)
    have hge : ∀ v, σ v ≤ pass k.c.ins.length σ cs v := pass_ge cs σ
    cases hc with
    | nil => exact fun _ h => nomatch h
    | @cons u S hc hu hn hw =>
      rw [List.length_cons] at hl
      have old := ih hc (by omega)
      intro v hv
      rcases List.mem_cons.mp hv with e | e
      · subst e
        have h1 := hle v hu
        have h2 := hge v
        rcases hw with z | ⟨x, hx, ha, hb, e⟩
        · have := hr.nn v
          omega
        · have h3 := pass_edge (ni := k.c.ins.length) ((hcs.mem x).mpr hx) σ
          rw [old _ ha, hb] at h3
          omega
      · have h1 := hle v (hc.sub.2 v e)
        have h2 := hge v
        have h3 := old v e
        omega
theorem feas_done (hk : CkOk k) (hp : Feas k p) : ¬ Rnd k (k.c.regs.length + 2) σ := fun h => by
  obtain ⟨q, hq, hm⟩ := hp.min
  obtain ⟨S, hc, hl⟩ := chain_ex hk hq hm _ (Nat.le_refl _)
  cases h with
  | succ hr hs _ =>
    refine hs fun x hx => ?_
    obtain ⟨n1, n2⟩ := eg_nodes hk hx
    have := hq.sat x hx
    unfold SatE at this ⊢
    rw [hr.settled hk hq hc (Nat.le_of_eq hl) _ (hc.all hl n1), hr.settled hk hq hc (Nat.le_of_eq hl) _ (hc.all hl n2)]
    exact this
theorem NoF.no (hk : CkOk k) (h : NoF k) (hp : Feas k p) : 0 < p (-1) := by
  obtain ⟨σ, h | ⟨h, j, hr⟩⟩ := h
  · exact absurd h (feas_done hk hp)
  · have := hr.le hk hp (-1) (mem_nodes.mpr (.inl rfl))
    omega
theorem Fnd.feas (h : Fnd k σ) : Feas k σ ∧ σ (-1) = 0 := by
  obtain ⟨j, hr⟩ := h.r
  have := hr.nn (-1)
  have := h.g
  exact ⟨⟨fun v _ => hr.nn v, h.sat⟩, by omega⟩
theorem Fnd.bound (hk : CkOk k) (hB : ∀ x, ConOf k x → -9350 ≤ (eg k.c.ins.length x).2.2) (h : Fnd k σ) : ∀ v ∈ nodes k.c.regs.length, 0 ≤ σ v ∧ σ v ≤ 28050 := fun v hv => by
  obtain ⟨j, hr⟩ := h.r
  obtain ⟨q, hq, hm⟩ := h.feas.1.min
  obtain ⟨S, hc, hl⟩ := chain_ex hk hq hm _ (Nat.le_refl _)
  have h1 := hc.bound hB v (hc.all hl hv)
  have h2 := hr.le hk hq v hv
  have h3 := hk.wf.r
  have := hr.nn v
  rw [hl] at h1
  omega
end
end Sg
/-! W12: least_period. -/
namespace Sg
open PySem PySem.Spec PyProof.Rows L2 Dn
variable {P : Program} {w : World} {K : PySem.W.Frag} {mg : Str → Option Value} {base : Heap}
def isNo : D → Bool
  | .non => true
  | _ => false
theorem et_isNR {W : Wd} {Γ : List Sl} {te : TE} {R : Sl → Prop} {B : Bool → Prop} (h : Ev W te Γ R) (hr : ∀ s, R s → ∃ d, s = .dat d ∧ B (isNo d)) : EvT W (tB (tIsN te)) Γ B := fun σ F H k Q q =>
  h σ F H k _ fun v F1 H1 s g w z => by
    obtain ⟨d, rfl, hb⟩ := hr s w
    refine ⟨_, rfl, q _ F1 H1 g ?_⟩
    have e : decide (v = V.non) = isNo d := by
      cases (show Rep F1 v d from z) <;> rfl
    rw [e]
    exact hb
def wid (c : Circ) : Int := maxI (c.regs.map fun r => r.e1 - r.e0)
def ab (i : Int) : Int := if i < 0 then -i else i
def hi0 (c : Circ) (hs : Hs) : Int := (wid c + 1 + (c.regs.map fun r => r.e1 + r.o1 + r.su + 1).sum + (c.gates.flatMap fun g => g.rng.map fun p => p.2).sum + (hs.map fun p => ab p.1 + ab p.2).sum) * (c.regs.length + 2 : Int)
structure LpOk (c : Circ) (hs : Hs) : Prop where
  wf : WF c
  len : hs.length = c.ins.length
  h : ∀ p ∈ hs, p.2 ≤ p.1
  lo : wid c + 1 ≤ hi0 c hs
  hi : hi0 c hs ≤ 4000
theorem wid_le {c : Circ} {r : Reg} (h : r ∈ c.regs) : r.e1 - r.e0 ≤ wid c := maxI_le (List.mem_map.mpr ⟨r, h, rfl⟩)
theorem wid_nn {c : Circ} (h : WF c) : 0 ≤ wid c := by
  obtain ⟨r, hr⟩ := List.exists_mem_of_ne_nil _ h.r1
  have := wid_le hr
  have := (h.reg r hr).e1
  omega
theorem LpOk.ck {c : Circ} {hs : Hs} (h : LpOk c hs) {T : Int} (h1 : wid c + 1 ≤ T) (h2 : T ≤ 4000) : CkOk ⟨c, T, hs⟩ :=
  ⟨h.wf, h.len, by have := wid_nn h.wf; dsimp only; omega, h2, h.h, fun r hr => by have := wid_le hr; show r.e1 - r.e0 < T; have this : r.e1 - r.e0 ≤ wid c := this; omega⟩
/-- what least_period tells -/
structure LpT (c : Circ) (hs : Hs) (T : Int) (σ : Int → Int) : Prop where
  fnd : Fnd ⟨c, T, hs⟩ σ
  lo : wid c + 1 ≤ T
  hi : T ≤ hi0 c hs
  least : T = wid c + 1 ∨ NoF ⟨c, T - 1, hs⟩
def shL (c : Circ) (σ : Int → Int) : List Int := (List.range c.regs.length).map fun (r : Nat) => σ r
abbrev A_lp := {x : Circ × Hs // LpOk x.1 x.2}
def p_least_period (K : PySem.W.Frag) : Prm A_lp := .pu (fun x => [.dat (cD x.1.1), .dat (hD x.1.2)]) fun x s => (s = .dat .non ∧ NoF ⟨x.1.1, hi0 x.1.1 x.1.2, x.1.2⟩) ∨ ∃ T σ, s = .dat (.tup [.int T, .lst ((shL x.1.1 σ).map .int)]) ∧ LpT x.1.1 x.1.2 T σ
theorem sc_least_period : FnScope ["circuit", "holds", "widest", "low", "high", "middle", "row", "gate", "pair", "since", "until"] ["circuit", "holds"] (defScope (top 43)) := ⟨rfl, rfl, rfl, by decide +kernel, rfl, by decide +kernel, by decide +kernel⟩
theorem cal_least_period (G : Gs K mg) : C8.Cal P w K mg base 6 "least_period" (p_least_period K).sp [] := by
  have c_check_holds := cal_check_holds (P := P) (w := w) (base := base) G
  have c_check_pairs := cal_check_pairs (P := P) (w := w) (base := base) G
  have c_find_shifts := cal_find_shifts (P := P) (w := w) (base := base) G
  have k_Clocked := mak_Clocked (P := P) (w := w) (base := base) G
  refine Prm.cal (p_least_period K) G.d_least_period G.g_least_period sc_least_period (fun _ _ _ _ _ _ us hl => match us, hl with | [_, _], _ => rfl) (fun _ => rfl) (fun cdv A' outer s H E hr => ⟨_, (PSs.nox (pss_cons (ps_expr (C8.pe_c c_check_holds hr (by decide) (by rfl) (pa_cons (pvx 0) (pa_cons (pvx 1) pa_nil)))) (pss_cons (psx 2 sc_least_period.nd (pe_callBK (k_maxKw (K := K) hr.units) (by rfl) G.f_max (by decide +kernel) (pa_cons (pe_lc (own := [("row", 6)]) (g := (gName 6)) (by rfl) sc_least_period.nd (k_seq (K := K) (pe_ix (k_ix (K := K)) (pvx 0) pe_int (fun _ _ => rfl))) (blkOk_by (by kernel_rfl)) (fun _ _ _ _ _ => (pgx 6 sc_least_period.nd)) (fun _ _ _ _ _ => pts_nil) (fun _ _ _ _ _ => (pe_op op_sub (pe_ix (k_ix (K := K)) (pe_ix (k_ix (K := K)) (pvx 6) pe_int (fun _ _ => rfl)) pe_int (fun _ _ => rfl)) (pe_ix (k_ix (K := K)) (pe_ix (k_ix (K := K)) (pvx 6) pe_int (fun _ _ => rfl)) pe_int (fun _ _ => rfl))))) pa_nil) (pk_cons pe_int pk_nil))) (pss_cons (ps_expr (C8.pe_c c_check_pairs hr (by decide) (by rfl) (pa_cons (pvx 0) (pa_cons (pvx 1) (pa_cons (pe_op (k_plus (K := K)) (pvx 2) pe_int) pa_nil))))) (pss_cons (psx 3 sc_least_period.nd (pe_op (k_plus (K := K)) (pvx 2) pe_int)) (pss_cons (psx 4 sc_least_period.nd (pe_op (k_plus (K := K)) (pvx 3) (pe_callB (k_sum (K := K)) (by rfl) G.f_sum (by decide +kernel) (pa_cons (pe_lc (own := [("row", 6)]) (g := (gName 6)) (by rfl) sc_least_period.nd (k_seq (K := K) (pe_ix (k_ix (K := K)) (pvx 0) pe_int (fun _ _ => rfl))) (blkOk_by (by kernel_rfl)) (fun _ _ _ _ _ => (pgx 6 sc_least_period.nd)) (fun _ _ _ _ _ => pts_nil) (fun _ _ _ _ _ => (pe_op (k_plus (K := K)) (pe_op (k_plus (K := K)) (pe_op (k_plus (K := K)) (pe_ix (k_ix (K := K)) (pe_ix (k_ix (K := K)) (pvx 6) pe_int (fun _ _ => rfl)) pe_int (fun _ _ => rfl)) (pe_ix (k_ix (K := K)) (pe_ix (k_ix (K := K)) (pvx 6) pe_int (fun _ _ => rfl)) pe_int (fun _ _ => rfl))) (pe_ix (k_ix (K := K)) (pvx 6) pe_int (fun _ _ => rfl))) pe_int))) pa_nil)))) (pss_cons (ps_augx (i := 4) ip_add sc_least_period.nd (pe_callB (k_sum (K := K)) (by rfl) G.f_sum (by decide +kernel) (pa_cons (pe_lc2 (own := [("gate", 7), ("pair", 8)]) (vs1 := [8]) (g := (gName 7)) (g1 := (gName 8)) (by rfl) sc_least_period.nd (k_seq (K := K) (pe_ix (k_ix (K := K)) (pvx 0) pe_int (fun _ _ => rfl))) (blkOk_by (by kernel_rfl)) (by decide) (fun _ _ _ _ _ => (pgx 7 sc_least_period.nd)) (fun _ _ _ _ _ => pts_nil) (fun _ _ _ _ _ => (k_seq (K := K) (pe_ix (k_ix (K := K)) (pvx 7) pe_int (fun _ _ => rfl)))) (fun _ _ _ _ _ => (pgx 8 sc_least_period.nd)) (fun _ _ _ _ _ => pts_nil) (fun _ _ _ _ _ => (pe_ix (k_ix (K := K)) (pvx 8) pe_int (fun _ _ => rfl)))) pa_nil))) (pss_cons (ps_augx (i := 4) ip_add sc_least_period.nd (pe_callB (k_sum (K := K)) (by rfl) G.f_sum (by decide +kernel) (pa_cons (pe_lc (own := [("since", 9), ("until", 10)]) (g := (gTup K 2 (gCons (gName 9) (gCons (gName 10) gNil)))) (by rfl) sc_least_period.nd (k_seq (K := K) (pvx 1)) (blkOk_by (by kernel_rfl)) (fun _ _ _ _ _ => (k_tup (K := K) (n := 2) (pgs_cons (pgx 9 sc_least_period.nd) (pgs_cons (pgx 10 sc_least_period.nd) pgs_nil)))) (fun _ _ _ _ _ => pts_nil) (fun _ _ _ _ _ => (pe_op (k_plus (K := K)) (pe_callB cr_abs (by rfl) G.f_abs (by decide +kernel) (pa_cons (pvx 9) pa_nil)) (pe_callB cr_abs (by rfl) G.f_abs (by decide +kernel) (pa_cons (pvx 10) pa_nil))))) pa_nil))) (pss_cons (psx 4 sc_least_period.nd (pe_op op_times (pvx 4) (pe_op (k_plus (K := K)) (pe_callB (k_len (K := K)) (by rfl) G.f_len (by decide +kernel) (pa_cons (pe_ix (k_ix (K := K)) (pvx 0) pe_int (fun _ _ => rfl)) pa_nil)) pe_int))) (pss_cons (ps_if (pt_cmp (pc_isN (C8.pe_c c_find_shifts hr (by decide) (by rfl) (pa_cons (C8.pe_mk k_Clocked hr (by decide) (by rfl) (pa_cons (pvx 0) (pa_cons (pvx 4) (pa_cons (pvx 1) pa_nil)))) pa_nil)))) (pss_one (ps_ret pe_non)) pss_nil) (pss_cons (ps_while PassesOwn.never (pt_cmpR op_lt (pvx 3) (pvx 4) (nomark _)) (pss_cons (psx 5 sc_least_period.nd (pe_op op_fdiv (pe_op (k_plus (K := K)) (pvx 3) (pvx 4)) pe_int)) (pss_one (ps_if (pt_cmp (pc_isN (C8.pe_c c_find_shifts hr (by decide) (by rfl) (pa_cons (C8.pe_mk k_Clocked hr (by decide) (by rfl) (pa_cons (pvx 0) (pa_cons (pvx 5) (pa_cons (pvx 1) pa_nil)))) pa_nil)))) (pss_one (psx 3 sc_least_period.nd (pe_op (k_plus (K := K)) (pvx 5) pe_int))) (pss_one (psx 4 sc_least_period.nd (pvx 5))))))) (pss_one (ps_ret (pe_tup (pa_cons (pvx 3) (pa_cons (C8.pe_c c_find_shifts hr (by decide) (by rfl) (pa_cons (C8.pe_mk k_Clocked hr (by decide) (by rfl) (pa_cons (pvx 0) (pa_cons (pvx 3) (pa_cons (pvx 1) pa_nil)))) pa_nil)) pa_nil)))))))))))))))), ?_⟩)
  rintro ⟨⟨c, hs⟩, h⟩ F H
  have h : LpOk c hs := h
  have hw := h.wf
  have h3 := hw.r
  have hg5 := hw.g
  have hi2 := hw.i
  have hlen := h.len
  have w0 := wid_nn hw
  have nn : c.regs.map (fun r => r.e1 - r.e0) ≠ [] := fun e => hw.r1 (List.map_eq_nil_iff.mp e)
  show Ec _ _ [.dat (cD c), .dat (hD hs), .no, .no, .no, .no, .no, .no, .no, .no, .no] _
  refine ec_seq (M := fun Γ => Γ = [.dat (cD c), .dat (hD hs), .no, .no, .no, .no, .no, .no, .no, .no, .no]) (ec_drop (ev_call (⟨(c, hs), h.len⟩ : A_ch) (ea_cons (ev_var rfl) (ea_1 (ev_var rfl))) fits_pure rfl) rfl) ?_
  rintro _ rfl
  refine ec_set (ev_maxKw (ns := c.regs.map fun r => r.e1 - r.e0) (s := .dat (.int 0)) (ev_own_bor ((ev_lcX c.regs rD (fun r => .int (r.e1 - r.e0)) (it_tup (ev_ixT (ev_var rfl) ev_int rfl)) (by omega) fun i r hr => ⟨_, _, tg_name, fun _ h => h, ev_bi (ev_ixT (ev_ixT (ev_var rfl) ev_int rfl) ev_int rfl) (ev_ixT (ev_ixT (ev_var rfl) ev_int rfl) ev_int rfl)⟩).to (by rw [List.map_map]; rfl))) (ea_1 ev_int) nn rfl) ?_
  refine ec_seq (M := fun Γ => Γ = [.dat (cD c), .dat (hD hs), .dat (.int (wid c)), .no, .no, .no, .no, .no, .no, .no, .no]) (ec_drop (ev_call (⟨(c, hs, wid c + 1), (h.ck (Int.le_refl _) (by have := h.lo; have := h.hi; omega)).pr⟩ : A_cp) (ea_cons (ev_var rfl) (ea_cons (ev_var rfl) (ea_1 (ev_add (ev_var rfl) ev_int)))) fits_pure rfl) rfl) ?_
  rintro _ rfl
  refine ec_set (ev_add (ev_var rfl) ev_int) ?_
  refine ec_set (ev_add (ev_var rfl) (ev_sum (ns := c.regs.map fun r => r.e1 + r.o1 + r.su + 1) (ev_own_bor ((ev_lcX c.regs rD (fun r => .int (r.e1 + r.o1 + r.su + 1)) (it_tup (ev_ixT (ev_var rfl) ev_int rfl)) (by omega) fun i r hr => ⟨_, _, tg_name, fun _ h => h, ev_add (ev_add (ev_add (ev_ixT (ev_ixT (ev_var rfl) ev_int rfl) ev_int rfl) (ev_ixT (ev_ixT (ev_var rfl) ev_int rfl) ev_int rfl)) (ev_ixT (ev_var rfl) ev_int rfl)) ev_int⟩).to (by rw [List.map_map]; rfl))))) ?_
  refine ec_seq (M := fun Γ => Γ = [.dat (cD c), .dat (hD hs), .dat (.int (wid c)), .dat (.int (wid c + 1)), .dat (.int (wid c + 1 + (c.regs.map fun r => r.e1 + r.o1 + r.su + 1).sum + (c.gates.flatMap fun g => g.rng.map fun p => p.2).sum)), .no, .no, .no, .no, .no, .no]) ?_ ?_
  · refine ec_aug rfl (ev_sum (ns := c.gates.flatMap fun g => g.rng.map fun p => p.2) (ev_own_bor ((ev_lc2 (i0 := 7) (i1 := 8) c.gates gD (fun g => g.rng) pD (fun _ p => .int p.2) (it_tup (ev_ixT (ev_var rfl) ev_int rfl)) ?_ (by decide) (by decide) fun i g hg => ⟨it_tup (ev_ixT (ev_var rfl) ev_int rfl), fun j y hy => ev_ixT (ev_var rfl) ev_int rfl⟩).to (by rw [List.map_flatMap]; simp only [List.map_map]; rfl)))) rfl
    have := flat_len_le (xs := c.gates) (ys := fun g => g.rng.map fun p => D.int p.2) (n := 3) fun g hg => by
      have := hw.gate g hg
      rw [List.length_map, this.rng]; exact this.pins
    omega
  rintro _ rfl
  refine ec_seq (M := fun Γ => Γ = [.dat (cD c), .dat (hD hs), .dat (.int (wid c)), .dat (.int (wid c + 1)), .dat (.int (wid c + 1 + (c.regs.map fun r => r.e1 + r.o1 + r.su + 1).sum + (c.gates.flatMap fun g => g.rng.map fun p => p.2).sum + (hs.map fun p => ab p.1 + ab p.2).sum)), .no, .no, .no, .no, .no, .no]) ?_ ?_
  · exact ec_aug rfl (ev_sum (ns := hs.map fun p => ab p.1 + ab p.2) (ev_own_bor ((ev_lcX hs pD (fun p => .int (ab p.1 + ab p.2)) (it_list (ev_var rfl)) (by omega) fun i p hp => ⟨_, _, tg_tup (tgs_cons tg_name (tgs_cons tg_name tgs_nil)) rfl, fun _ h => h, ev_add (ev_abs (ev_var rfl)) (ev_abs (ev_var rfl))⟩).to (by rw [List.map_map]; rfl)))) rfl
  rintro _ rfl
  refine ec_set (s := .dat (.int (hi0 c hs))) ((ev_mul (ev_var rfl) (ev_add (ev_lenT (ds := c.regs.map rD) (ev_ixT (ev_var rfl) ev_int rfl)) ev_int) (.inr ?_)).to (by rw [List.length_map]; rfl)) ?_
  · rw [List.length_map]; omega
  have fs : ∀ {W : Wd} {Γ : List Sl} {i : Nat} {T : Int}, Γ[0]? = some (.dat (cD c)) → Γ[1]? = some (.dat (hD hs)) → Γ[i]? = some (.dat (.int T)) → wid c + 1 ≤ T → T ≤ 4000 →
      Ev W (tCall (p_find_shifts K).sp [] C8.E0 (tCons (tMake (He.ga K "Clocked") ((p_Clocked_init K).sp (He.ga K "Clocked")) [] C8.E0 (tCons (tVar 0) (tCons (tVar i) (tCons (tVar 1) tNil)))) tNil)) Γ
        fun s => (s = .dat .non ∧ NoF ⟨c, T, hs⟩) ∨ ∃ σ, s = .dat (.lst ((shL c σ).map .int)) ∧ Fnd ⟨c, T, hs⟩ σ := fun {W Γ i T} e0 e1 ei h1 h2 =>
    (ev_call (p := p_find_shifts K) (⟨⟨c, T, hs⟩, h.ck h1 h2⟩ : A_ck) (ea_1 (ev_fI (ev_make (⟨⟨c, T, hs⟩, h.ck h1 h2⟩ : A_ck) (ea_cons (ev_var e0) (ea_cons (ev_var ei) (ea_1 (ev_var e1)))) rfl))) fits_pure rfl).fz fun s hs => by
      rcases hs.1 with ⟨rfl, n⟩ | ⟨σ, rfl, f⟩
      · exact .inl (.inl ⟨rfl, n⟩)
      · refine .inr ⟨_, rfl, .inr ⟨σ, ?_, f⟩⟩
        unfold shL
        rw [List.map_map]
        rfl
  have hlo := h.lo
  have hhi := h.hi
  refine ec_seq (M := fun Γ => Γ = [.dat (cD c), .dat (hD hs), .dat (.int (wid c)), .dat (.int (wid c + 1)), .dat (.int (hi0 c hs)), .no, .no, .no, .no, .no, .no] ∧ ∃ σ, Fnd ⟨c, hi0 c hs, hs⟩ σ) ?_ ?_
  · refine ec_ifR (B := fun b => (b = true → NoF ⟨c, hi0 c hs, hs⟩) ∧ (b = false → ∃ σ, Fnd ⟨c, hi0 c hs, hs⟩ σ)) (et_isNR (fs rfl rfl rfl hlo hhi) ?_) (fun hb => ec_ret ev_non (.inl ⟨rfl, hb.1 rfl⟩)) fun hb => ec_next ⟨rfl, hb.2 rfl⟩
    rintro s (⟨rfl, n⟩ | ⟨σ, rfl, f⟩)
    · exact ⟨_, rfl, fun _ => n, fun h => nomatch h⟩
    · exact ⟨_, rfl, (fun h => nomatch h), fun _ => ⟨σ, f⟩⟩
  rintro _ ⟨rfl, fh⟩
  refine ec_seq (M := fun Γ => ∃ T s5, Γ = [.dat (cD c), .dat (hD hs), .dat (.int (wid c)), .dat (.int T), .dat (.int T), s5, .no, .no, .no, .no, .no] ∧ (∃ σ, Fnd ⟨c, T, hs⟩ σ) ∧ wid c + 1 ≤ T ∧ T ≤ hi0 c hs ∧ (T = wid c + 1 ∨ NoF ⟨c, T - 1, hs⟩)) ?_ ?_
  · refine ec_while (fun m Γ => ∃ lo hi s5, Γ = [.dat (cD c), .dat (hD hs), .dat (.int (wid c)), .dat (.int lo), .dat (.int hi), s5, .no, .no, .no, .no, .no] ∧ (∃ σ, Fnd ⟨c, hi, hs⟩ σ) ∧ wid c + 1 ≤ lo ∧ lo ≤ hi ∧ hi ≤ hi0 c hs ∧ (lo = wid c + 1 ∨ NoF ⟨c, lo - 1, hs⟩) ∧ (hi - lo).toNat ≤ m) (hi0 c hs - (wid c + 1)).toNat
      ⟨_, _, _, rfl, fh, Int.le_refl _, hlo, Int.le_refl _, .inl rfl, Nat.le_refl _⟩ ?_
    rintro m _ ⟨lo, hi, s5, rfl, hf, b1, b2, b3, hl, hm⟩
    refine ⟨decide (lo < hi), et_bb (ev_var rfl) (ev_var rfl), fun hlt => ?_, fun hlt => ?_⟩
    · have hlt := of_decide_eq_true hlt
      refine ec_set (s := .dat (.int ((lo + hi) / 2))) (ev_bc (ev_add (ev_var rfl) (ev_var rfl)) ev_int ⟨by decide, by decide⟩) ?_
      have m1 : lo ≤ (lo + hi) / 2 := by omega
      have m2 : (lo + hi) / 2 < hi := by omega
      generalize (lo + hi) / 2 = mid at m1 m2
      refine ec_ifR (B := fun b => (b = true → NoF ⟨c, mid, hs⟩) ∧ (b = false → ∃ σ, Fnd ⟨c, mid, hs⟩ σ)) (et_isNR (fs rfl rfl rfl (by omega) (by omega)) ?_) (fun hb => ?_) fun hb => ?_
      · rintro s (⟨rfl, n⟩ | ⟨σ, rfl, f⟩)
        · exact ⟨_, rfl, fun _ => n, fun h => nomatch h⟩
        · exact ⟨_, rfl, (fun h => nomatch h), fun _ => ⟨σ, f⟩⟩
      · refine ec_asg (ev_add (ev_var rfl) ev_int) (fun o h => nomatch h) ⟨(hi - (mid + 1)).toNat, by omega, mid + 1, hi, _, rfl, hf, by omega, by omega, b3, .inr ?_, Nat.le_refl _⟩
        rw [Int.add_sub_cancel]
        exact hb.1 rfl
      · exact ec_asg (ev_var rfl) (fun o h => nomatch h) ⟨(mid - lo).toNat, by omega, lo, mid, _, rfl, hb.2 rfl, b1, m1, by omega, hl, Nat.le_refl _⟩
    · have hlt := of_decide_eq_false hlt
      have : lo = hi := by omega
      subst this
      exact ⟨lo, s5, rfl, hf, b1, b3, hl⟩
  · rintro _ ⟨T, s5, rfl, ⟨σ0, f0⟩, b1, b2, hl⟩
    have hk := h.ck b1 (by omega)
    refine ec_retR (R := fun s => ∃ σ, s = .dat (.tup [.int T, .lst ((shL c σ).map .int)]) ∧ LpT c hs T σ) (ev_tupR (R := fun ss => ∃ σ, ss = [.dat (.int T), .dat (.lst ((shL c σ).map .int))] ∧ LpT c hs T σ) (eaR_cons (A := fun s => s = .dat (.int T)) ((ev_var rfl).ev rfl) (eaR_cons (B := fun ss => ss = []) (R := fun ss => ∃ σ, ss = [.dat (.lst ((shL c σ).map .int))] ∧ LpT c hs T σ) (fs rfl rfl rfl b1 (by omega)) (eaR_nil rfl) ?_) ?_) ?_) ?_
    · rintro s _ (⟨rfl, n⟩ | ⟨σ, rfl, f⟩) rfl
      · have := NoF.no hk n f0.feas.1
        have := f0.feas.2
        omega
      · exact ⟨σ, rfl, f, b1, b2, hl⟩
    · rintro s _ rfl ⟨σ, rfl, hT⟩
      exact ⟨σ, rfl, hT⟩
    · rintro _ ⟨σ, rfl, hT⟩
      exact ⟨[.int T, .lst ((shL c σ).map .int)], rfl, by simp, σ, rfl, hT⟩
    · rintro s ⟨σ, rfl, hT⟩
      exact ⟨(fun _ h => nomatch h), .inr ⟨T, σ, rfl, hT⟩⟩
end Sg
/-! Mth5: the least shifts make the clocked circuit clean. -/
namespace Sg
open PySem L2 Dn
theorem int_max {p : Int → Prop} (hb : ∀ v, p v → v ≤ 500) : ∀ (m : Nat) (v : Int), p v → (500 - v).toNat ≤ m → ∃ u, p u ∧ ∀ v, p v → v ≤ u
  | 0, v, h, hm => ⟨v, h, fun u hu => by have := hb u hu; omega⟩
  | m + 1, v, h, hm => by
    by_cases q : ∃ u, p u ∧ v < u
    · obtain ⟨u, hu, hl⟩ := q
      have := hb u hu
      exact int_max hb m u hu (by omega)
    · exact ⟨v, h, fun u hu => Int.not_lt.mp fun hl => q ⟨u, hu, hl⟩⟩
theorem Long.of {c : Circ} (w : WF c) {s n : Str} {a b : Int} (up : Bool) (h : Pth c s n a b) : ∃ v, Long c s up n v := by
  obtain ⟨u, ⟨a', b', p', e⟩, hm⟩ := int_max (p := fun v => ∃ a b, Pth c s n a b ∧ v = if up then b else -a) (fun v ⟨a, b, p, e⟩ => by
    have h1 := p.nonneg w
    have h2 := p.le500 w
    subst e
    cases up
    · simp; omega
    · simp; omega) _ _ ⟨a, b, h, rfl⟩ (Nat.le_refl _)
  exact ⟨u, ⟨a', b', p', e⟩, fun a b p => hm _ ⟨a, b, p, rfl⟩⟩
section
variable {c : Circ} {l : List Int}
theorem shC_regs_get (hl : l.length = c.regs.length) {j : Nat} {r : Reg} (h : (shC c l).regs[j]? = some r) : ∃ r0 s, c.regs[j]? = some r0 ∧ l[j]? = some s ∧ r = shR r0 s := by
  unfold shC at h
  dsimp only at h
  rw [List.getElem?_zipWith] at h
  cases e1 : c.regs[j]? with
  | none => rw [e1] at h; cases h
  | some r0 =>
    cases e2 : l[j]? with
    | none => rw [e1, e2] at h; cases h
    | some s => rw [e1, e2] at h; cases h; exact ⟨r0, s, rfl, rfl, rfl⟩
theorem zip_nm : ∀ {rs : List Reg} {l : List Int}, l.length = rs.length → (List.zipWith shR rs l).map (·.nm) = rs.map (·.nm)
  | [], [], _ => rfl
  | r :: rs, s :: l, h => by
    rw [List.zipWith_cons_cons, List.map_cons, List.map_cons, zip_nm (Nat.succ.inj h)]
    rfl
theorem shC_src (hl : l.length = c.regs.length) : src (shC c l) = src c := by
  unfold src shC
  dsimp only
  rw [zip_nm hl]
theorem shC_nets (hl : l.length = c.regs.length) : nets (shC c l) = nets c := by
  unfold nets
  rw [shC_src hl]
  rfl
theorem shC_len (hl : l.length = c.regs.length) : (shC c l).regs.length = c.regs.length := by
  unfold shC
  dsimp only
  rw [List.length_zipWith, hl, Nat.min_self]
theorem shC_path {s n : Str} {a b : Int} (h : Pth (shC c l) s n a b) : Pth c s n a b := by
  induction h with
  | nil => exact .nil
  | snoc _ hg hn hr ih => exact .snoc ih hg hn hr
theorem shC_wf (w : WF c) (hl : l.length = c.regs.length) (hs : ∀ s ∈ l, 0 ≤ s ∧ s ≤ 29000) (he : ∀ r ∈ c.regs, r.e1 ≤ 6000) : WF (shC c l) := by
  refine ⟨w.i, w.g, by rw [shC_len hl]; exact w.r, fun e => ?_, by rw [shC_nets hl]; exact w.nd, by rw [shC_src hl]; exact w.tp, w.gate, fun r hr => ?_⟩
  · have := shC_len hl
    rw [e] at this
    exact w.r1 (List.length_eq_zero_iff.mp this.symm)
  · obtain ⟨j, hj⟩ := List.mem_iff_getElem?.mp hr
    obtain ⟨r0, s, e1, e2, rfl⟩ := shC_regs_get hl hj
    have ok := w.reg r0 (List.mem_of_getElem? e1)
    have h1 := hs s (List.mem_of_getElem? e2)
    have h2 := he r0 (List.mem_of_getElem? e1)
    exact ⟨by rw [shC_nets hl]; exact ok.net, by have := ok.e0; show 0 ≤ r0.e0 + s; omega, by have := ok.e1; show r0.e0 + s ≤ r0.e1 + s; omega, by show r0.e1 + s ≤ 35000; omega, ok.o0, ok.o1, ok.o2, ok.su, ok.ho, ok.hh⟩
end
structure Bnd (k : Ck) : Prop where
  m : ∀ x, ConOf k x → -9350 ≤ (eg k.c.ins.length x).2.2
  e : ∀ r ∈ k.c.regs, r.e1 ≤ 6000
section
variable {k : Ck} {σ : Int → Int}
theorem shL_len (c : Circ) (σ : Int → Int) : (shL c σ).length = c.regs.length := by unfold shL; rw [List.length_map, List.length_range]
theorem shL_get {c : Circ} {σ : Int → Int} {j : Nat} {s : Int} (h : (shL c σ)[j]? = some s) : j < c.regs.length ∧ s = σ j := by
  unfold shL at h
  have hj := (List.getElem?_eq_some_iff.mp h).1
  rw [List.length_map, List.length_range] at hj
  rw [List.getElem?_map, List.getElem?_range hj] at h
  cases h
  exact ⟨hj, rfl⟩
theorem shOk (hk : CkOk k) (hb : Bnd k) (h : Fnd k σ) : ShOk k (shL k.c σ) := by
  have bd := h.bound hk hb.m
  have hs : ∀ s ∈ shL k.c σ, 0 ≤ s ∧ s ≤ 28050 := fun s hs => by
    obtain ⟨j, hj⟩ := List.mem_iff_getElem?.mp hs
    obtain ⟨hj, rfl⟩ := shL_get hj
    exact bd j (mem_nodes.mpr (.inr (by omega)))
  refine ⟨hk, shL_len _ _, fun s h => (hs s h).1, shC_wf hk.wf (shL_len _ _) (fun s h => ⟨(hs s h).1, by have := (hs s h).2; omega⟩) hb.e, hk.len, hk.T, hk.T2, hk.pr.h, fun r hr => ?_⟩
  obtain ⟨j, hj⟩ := List.mem_iff_getElem?.mp hr
  obtain ⟨r0, s, e1, e2, rfl⟩ := shC_regs_get (shL_len _ _) hj
  have := hk.pr.r r0 (List.mem_of_getElem? e1)
  show r0.e1 + s - (r0.e0 + s) < k.T
  omega
/-- the window of a source after the shift -/
theorem wins_sh (hk : CkOk k) {i : Nat} {w' : Int × Int} (h : (wins (shK k (shL k.c σ)))[i]? = some w') (h0 : σ (-1) = 0) : ∃ w, (wins k)[i]? = some w ∧ w'.1 = w.1 + σ (so k.c.ins.length i) ∧ w'.2 = w.2 + σ (so k.c.ins.length i) := by
  have hlen := hk.len
  unfold wins at h ⊢
  by_cases q : i < k.hs.length
  · rw [List.getElem?_append_left (by rw [List.length_map]; exact q)] at h ⊢
    have e : so k.c.ins.length i = -1 := by unfold so; rw [if_pos (by omega)]
    rw [e, h0]
    exact ⟨w', h, by omega, by omega⟩
  · rw [List.getElem?_append_right (by rw [List.length_map]; show k.hs.length ≤ i; omega), List.length_map] at h ⊢
    rw [List.getElem?_map] at h ⊢
    have e : so k.c.ins.length i = ((i - k.hs.length : Nat) : Int) := by unfold so; rw [if_neg (by omega)]; omega
    have hh : (shK k (shL k.c σ)).hs.length = k.hs.length := rfl
    rw [hh] at h
    cases e1 : (shK k (shL k.c σ)).c.regs[i - k.hs.length]? with
    | none => rw [e1] at h; cases h
    | some r =>
      rw [e1] at h
      cases h
      obtain ⟨r0, s, q1, q2, rfl⟩ := shC_regs_get (shL_len _ _) e1
      obtain ⟨_, rfl⟩ := shL_get q2
      rw [q1, e]
      refine ⟨_, rfl, ?_, ?_⟩
      · show r0.e1 + _ + r0.o1 = r0.e1 + r0.o1 + _
        omega
      · show k.T + (r0.e0 + _) + r0.o0 = k.T + r0.e0 + r0.o0 + _
        omega
theorem clean (hk : CkOk k) (hb : Bnd k) (h : Fnd k σ) : Clean (shK k (shL k.c σ)) := by
  have sok := shOk hk hb h
  have k2 := sok.ok2
  obtain ⟨hf, h0⟩ := h.feas
  intro r hr t t1 t2
  have rok := k2.wf.reg r hr
  obtain ⟨j, hj⟩ := List.mem_iff_getElem?.mp hr
  obtain ⟨r0, s, e1, e2, rfl⟩ := shC_regs_get (shL_len _ _) hj
  obtain ⟨hjl, rfl⟩ := shL_get e2
  have t1 : k.T + (r0.e0 + σ j) - r0.su ≤ t := t1
  have t2 : t ≤ k.T + (r0.e1 + σ j) + r0.ho := t2
  have hT := hk.T
  have hT2 := hk.T2
  refine ⟨fun i n w' hs hw a b p => ?_, ?_, ?_⟩
  · have hs : (src (shC k.c (shL k.c σ)))[i]? = some n := hs
    rw [shC_src (shL_len _ _)] at hs
    obtain ⟨w, hw0, a1, a2⟩ := wins_sh hk hw h0
    have p : Pth k.c n r0.net a b := shC_path p
    obtain ⟨v, hv⟩ := Long.of hk.wf true p
    obtain ⟨u, hu⟩ := Long.of hk.wf false p
    have b1 := hv.mx a b p
    have b2 := hu.mx a b p
    simp at b1 b2
    have c1 : σ (so k.c.ins.length i) - σ j ≤ k.T + r0.e0 - r0.su - w.1 - v := hf.sat (.su i j _) ⟨n, r0, w, v, hs, e1, hw0, hv, rfl⟩
    have c2 : σ j - σ (so k.c.ins.length i) ≤ w.2 - u - k.T - r0.e1 - r0.ho - 1 := hf.sat (.ho i j _) ⟨n, r0, w, u, hs, e1, hw0, hu, rfl⟩
    omega
  · have := rok.su
    have := rok.e0
    have h1 : 0 ≤ r0.e0 + σ j := rok.e0
    have h2 : r0.su ≤ 10 := rok.su.2
    omega
  · have h1 : r0.e1 + σ j ≤ 35000 := rok.e2
    have h2 : r0.ho ≤ 10 := rok.ho.2
    omega
end
end Sg
/-! Mth6: shifts that serve the holds serve all at the greatest period tried. -/
namespace Sg
open PySem L2 Dn
section
variable {α : Type}
theorem isum_le {f g : α → Int} : ∀ {l : List α}, (∀ x ∈ l, f x ≤ g x) → (l.map f).sum ≤ (l.map g).sum
  | [], _ => Int.le_refl _
  | x :: l, h => by
    rw [List.map_cons, List.map_cons, List.sum_cons, List.sum_cons]
    have := h x (List.mem_cons_self ..)
    have := isum_le (l := l) fun y hy => h y (List.mem_cons_of_mem _ hy)
    omega
theorem isum_add {f g : α → Int} {x0 : α} {d : Int} : ∀ {l : List α}, (∀ x ∈ l, f x ≤ g x) → x0 ∈ l → f x0 + d ≤ g x0 → (l.map f).sum + d ≤ (l.map g).sum
  | x :: l, h, hx, hd => by
    rw [List.map_cons, List.map_cons, List.sum_cons, List.sum_cons]
    have h1 := h x (List.mem_cons_self ..)
    rcases List.mem_cons.mp hx with e | hx
    · subst e
      have := isum_le (l := l) fun y hy => h y (List.mem_cons_of_mem _ hy)
      omega
    · have := isum_add (l := l) (fun y hy => h y (List.mem_cons_of_mem _ hy)) hx hd
      omega
theorem isum_nn {f : α → Int} : ∀ {l : List α}, (∀ x ∈ l, 0 ≤ f x) → 0 ≤ (l.map f).sum
  | [], _ => Int.le_refl _
  | x :: l, h => by
    rw [List.map_cons, List.sum_cons]
    have := h x (List.mem_cons_self ..)
    have := isum_nn (l := l) fun y hy => h y (List.mem_cons_of_mem _ hy)
    omega
theorem isum_mem {f : α → Int} {x0 : α} : ∀ {l : List α}, (∀ x ∈ l, 0 ≤ f x) → x0 ∈ l → f x0 ≤ (l.map f).sum
  | x :: l, h, hx => by
    rw [List.map_cons, List.sum_cons]
    have h1 := h x (List.mem_cons_self ..)
    have h2 := isum_nn (l := l) fun y hy => h y (List.mem_cons_of_mem _ hy)
    rcases List.mem_cons.mp hx with e | hx
    · subst e; omega
    · have := isum_mem (l := l) (fun y hy => h y (List.mem_cons_of_mem _ hy)) hx
      omega
/-- two places -/
theorem isum_two {f : α → Int} : ∀ {l : List α} {i j : Nat} {x y : α}, (∀ x ∈ l, 0 ≤ f x) → l[i]? = some x → l[j]? = some y → i ≠ j → f x + f y ≤ (l.map f).sum
  | [], _, _, _, _, _, h, _, _ => nomatch h
  | z :: l, 0, 0, x, y, h, hi, hj, hn => absurd rfl hn
  | z :: l, 0, j + 1, x, y, h, hi, hj, hn => by
    cases hi
    have hj : l[j]? = some y := hj
    have := isum_mem (l := l) (fun y hy => h y (List.mem_cons_of_mem _ hy)) (List.mem_of_getElem? hj)
    rw [List.map_cons, List.sum_cons]; omega
  | z :: l, i + 1, 0, x, y, h, hi, hj, hn => by
    cases hj
    have hi : l[i]? = some x := hi
    have := isum_mem (l := l) (fun y hy => h y (List.mem_cons_of_mem _ hy)) (List.mem_of_getElem? hi)
    rw [List.map_cons, List.sum_cons]; omega
  | z :: l, i + 1, j + 1, x, y, h, hi, hj, hn => by
    have := isum_two (l := l) (fun y hy => h y (List.mem_cons_of_mem _ hy)) (show l[i]? = some x from hi) (show l[j]? = some y from hj) (fun e => hn (by rw [e]))
    have := h z (List.mem_cons_self ..)
    rw [List.map_cons, List.sum_cons]; omega
theorem isum_flat {f : α → List Int} : ∀ {l : List α}, (l.flatMap f).sum = (l.map fun x => (f x).sum).sum
  | [] => rfl
  | x :: l => by rw [List.flatMap_cons, List.sum_append, List.map_cons, List.sum_cons, isum_flat]
end
def sgm (g : Gate) : Int := (g.rng.map fun p => p.2).sum
section
variable {c : Circ} {hs : Hs}
theorem rng_nn (w : WF c) {g : Gate} (hg : g ∈ c.gates) : ∀ p ∈ g.rng, 0 ≤ p.2 := fun p hp => by
  have := (w.gate g hg).lo p hp
  omega
theorem Pth.le_rks (w : WF c) {rk : Str → Nat} (hrk : RkOk c rk) {s n : Str} {a b : Int} (p : Pth c s n a b) : b ≤ (c.gates.map fun g => if rk g.nm ≤ rk n then sgm g else 0).sum := by
  induction p with
  | nil =>
    refine isum_nn fun g hg => ?_
    split
    · exact isum_nn (rng_nn w hg)
    · exact Int.le_refl _
  | @snoc n a b lo hi g i _ hg hn hr ih =>
    have hlt := hrk.lt g hg n (List.mem_of_getElem? hn)
    have := isum_add (l := c.gates) (f := fun x => if rk x.nm ≤ rk n then sgm x else 0) (g := fun x => if rk x.nm ≤ rk g.nm then sgm x else 0) (x0 := g) (d := hi) (fun x hx => by
      have h0 : 0 ≤ sgm x := isum_nn (rng_nn w hx)
      by_cases q : rk x.nm ≤ rk n
      · rw [if_pos q, if_pos (by omega)]; exact Int.le_refl _
      · rw [if_neg q]; split
        · exact h0
        · exact Int.le_refl _) hg (by
      rw [if_neg (by omega), if_pos (Nat.le_refl _)]
      have : (lo, hi).2 ≤ sgm g := isum_mem (f := fun p : Int × Int => p.2) (rng_nn w hg) (List.mem_of_getElem? hr)
      have this : hi ≤ sgm g := this
      omega)
    omega
theorem Pth.le_sum (w : WF c) {s n : Str} {a b : Int} (p : Pth c s n a b) : b ≤ (c.gates.flatMap fun g => g.rng.map fun p => p.2).sum := by
  obtain ⟨rk, hrk⟩ := w.rank
  have h1 := p.le_rks w hrk
  have h2 := isum_le (l := c.gates) (f := fun g => if rk g.nm ≤ rk n then sgm g else 0) (g := sgm) fun x hx => by
    have h0 : 0 ≤ sgm x := isum_nn (rng_nn w hx)
    split
    · exact Int.le_refl _
    · exact h0
  rw [isum_flat]
  have h3 : (c.gates.map sgm).sum = (c.gates.map fun g => (g.rng.map fun p => p.2).sum).sum := rfl
  omega
def T0 (c : Circ) (hs : Hs) : Int := wid c + 1 + (c.regs.map fun r => r.e1 + r.o1 + r.su + 1).sum + (c.gates.flatMap fun g => g.rng.map fun p => p.2).sum + (hs.map fun p => ab p.1 + ab p.2).sum
theorem hi0_eq : hi0 c hs = T0 c hs * (c.regs.length + 1 : Int) + T0 c hs := by
  show T0 c hs * (c.regs.length + 2 : Int) = _
  have : ((c.regs.length : Int) + 2) = (c.regs.length + 1) + 1 := by omega
  rw [this, Int.mul_add, Int.mul_one]
theorem reg_nn (w : WF c) : ∀ r ∈ c.regs, 0 ≤ r.e1 + r.o1 + r.su + 1 := fun r hr => by
  obtain ⟨_, _, _, _, _, _, _, ⟨_, _⟩, _, _⟩ := w.reg r hr
  omega
theorem ab_nn (i : Int) : 0 ≤ ab i ∧ i ≤ ab i ∧ -i ≤ ab i := by unfold ab; split <;> omega
theorem hs_nn : ∀ p ∈ hs, 0 ≤ ab p.1 + ab p.2 := fun p _ => by
  have := ab_nn p.1
  have := ab_nn p.2
  omega
/-- a setup's room -/
theorem su_room (h : LpOk c hs) {T : Int} {i j : Nat} {g : Reg} {w0 : Int × Int} {s : Str} {a b : Int} (hg : c.regs[j]? = some g) (hw : (wins ⟨c, T, hs⟩)[i]? = some w0) (p : Pth c s g.net a b) : g.su + w0.1 + b ≤ T0 c hs := by
  have hb := p.le_sum h.wf
  have wn := wid_nn h.wf
  unfold wins at hw
  unfold T0
  have r0 := isum_mem (f := fun r : Reg => r.e1 + r.o1 + r.su + 1) (reg_nn h.wf) (List.mem_of_getElem? hg)
  have r0 : g.e1 + g.o1 + g.su + 1 ≤ (c.regs.map fun r => r.e1 + r.o1 + r.su + 1).sum := r0
  have gk := h.wf.reg g (List.mem_of_getElem? hg)
  have g1 := gk.su
  have g2 := gk.o1
  have g3 := gk.o0
  have g4 := gk.e0
  have g5 := gk.e1
  have hn := isum_nn (f := fun p : Int × Int => ab p.1 + ab p.2) (l := hs) hs_nn
  by_cases q : i < hs.length
  · rw [List.getElem?_append_left (by rw [List.length_map]; exact q), List.getElem?_map] at hw
    cases e : hs[i]? with
    | none => rw [e] at hw; cases hw
    | some p0 =>
      rw [e] at hw
      cases hw
      have m := isum_mem (f := fun p : Int × Int => ab p.1 + ab p.2) (l := hs) hs_nn (List.mem_of_getElem? e)
      have := ab_nn p0.1
      have := ab_nn p0.2
      dsimp only at m ⊢
      omega
  · rw [List.getElem?_append_right (by rw [List.length_map]; show hs.length ≤ i; omega), List.length_map, List.getElem?_map] at hw
    dsimp only at hw
    cases e : c.regs[i - hs.length]? with
    | none => rw [e] at hw; cases hw
    | some r =>
      rw [e] at hw
      cases hw
      have rk := h.wf.reg r (List.mem_of_getElem? e)
      have k1 := rk.su
      dsimp only
      by_cases z : i - hs.length = j
      · rw [z, hg] at e
        cases e
        omega
      · have m := isum_two (f := fun r : Reg => r.e1 + r.o1 + r.su + 1) (reg_nn h.wf) e hg z
        have m : r.e1 + r.o1 + r.su + 1 + (g.e1 + g.o1 + g.su + 1) ≤ (c.regs.map fun r => r.e1 + r.o1 + r.su + 1).sum := m
        omega
/-- what serves the holds and floors, not beyond (n + 1) T0, serves all at hi0 -/
theorem none_no (h : LpOk c hs) {p : Int → Int} (h0 : p (-1) = 0) (hp : ∀ v ∈ nodes c.regs.length, 0 ≤ p v ∧ p v ≤ T0 c hs * (c.regs.length + 1 : Int)) (hh : ∀ i j m, HoC ⟨c, hi0 c hs, hs⟩ i j m → SatE p (eg c.ins.length (.ho i j m))) : ¬ NoF ⟨c, hi0 c hs, hs⟩ := fun hn => by
  have hk := h.ck h.lo h.hi
  have f : Feas ⟨c, hi0 c hs, hs⟩ p := by
    refine ⟨fun v hv => (hp v hv).1, fun x hx => ?_⟩
    obtain ⟨n1, n2⟩ := eg_nodes hk hx
    cases x with
    | ho i j m => exact hh i j m hx
    | fl r =>
      have := (hp _ n2).1
      show p (-1) - p r ≤ 0
      have this : 0 ≤ p r := this
      omega
    | su i j m =>
      obtain ⟨s, g, w0, v, e1, e2, e3, lv, e⟩ := hx
      obtain ⟨a, b, pt, ev⟩ := lv.ex
      have room := su_room h e2 e3 pt
      have q1 := (hp _ n1).2
      have q2 := (hp _ n2).1
      have g4 := (h.wf.reg g (List.mem_of_getElem? e2)).e0
      have he := hi0_eq (c := c) (hs := hs)
      have ev : v = b := ev
      have e : m = hi0 c hs + g.e0 - g.su - w0.1 - v := e
      unfold SatE
      show p (eg c.ins.length (.su i j m)).1 - p (eg c.ins.length (.su i j m)).2.1 ≤ m
      have q1 : p (eg c.ins.length (.su i j m)).1 ≤ T0 c hs * (c.regs.length + 1 : Int) := q1
      have q2 : 0 ≤ p (eg c.ins.length (.su i j m)).2.1 := q2
      omega
  have := NoF.no hk hn f
  omega
end
end Sg
/-! W13: the law's sides, sources. -/
namespace Sg
open PySem PySem.Spec PyProof.Rows L2 Dn
variable {P : Program} {w : World} {K : PySem.W.Frag} {mg : Str → Option Value} {base : Heap}
def p__law_sides (K : PySem.W.Frag) : Prm (Con × Nat) := .fn (fun x => [.dat (conD x.1), .dat (.int x.2)]) fun x => .dat (egD (eg x.2 x.1))
theorem sc__law_sides : FnScope ["_law_row", "_law_inputs", "_law_source"] ["_law_row", "_law_inputs"] (defScope (top 80)) := ⟨rfl, rfl, rfl, by decide +kernel, rfl, by decide +kernel, by decide +kernel⟩
theorem cal__law_sides (G : Gs K mg) : C8.Cal P w K mg base 1 "_law_sides" (p__law_sides K).sp [] := by
  refine Prm.cal (p__law_sides K) G.d__law_sides G.g__law_sides sc__law_sides (fun _ _ _ _ _ _ us hl => match us, hl with | [_, _], _ => rfl) (fun _ => rfl) (fun cdv A' outer s H E hr => ⟨_, (PSs.nox (pss_cons (ps_if (pt_cmpR op_eq (pe_ix (k_ix (K := K)) (pvx 0) pe_int (fun _ _ => rfl)) pe_str (nomark _)) (pss_one (ps_ret (pe_tup (pa_cons (pe_un un_neg pe_int) (pa_cons (pe_ix (k_ix (K := K)) (pvx 0) pe_int (fun _ _ => rfl)) (pa_cons pe_int pa_nil)))))) pss_nil) (pss_cons (psx 2 sc__law_sides.nd (pe_ifExp (pt_cmpR op_lt (pe_ix (k_ix (K := K)) (pvx 0) pe_int (fun _ _ => rfl)) (pvx 1) (nomark _)) (pe_un un_neg pe_int) (pe_op op_sub (pe_ix (k_ix (K := K)) (pvx 0) pe_int (fun _ _ => rfl)) (pvx 1)))) (pss_one (ps_ret (pe_ifExp (pt_cmpR op_eq (pe_ix (k_ix (K := K)) (pvx 0) pe_int (fun _ _ => rfl)) pe_str (nomark _)) (pe_tup (pa_cons (pvx 2) (pa_cons (pe_ix (k_ix (K := K)) (pvx 0) pe_int (fun _ _ => rfl)) (pa_cons (pe_ix (k_ix (K := K)) (pvx 0) pe_int (fun _ _ => rfl)) pa_nil)))) (pe_tup (pa_cons (pe_ix (k_ix (K := K)) (pvx 0) pe_int (fun _ _ => rfl)) (pa_cons (pvx 2) (pa_cons (pe_ix (k_ix (K := K)) (pvx 0) pe_int (fun _ _ => rfl)) pa_nil)))))))))), ?_⟩)
  rintro ⟨x, ni⟩ F H
  cases x with
  | fl r =>
    show Ec _ _ [.dat (flD r), .dat (.int ni), .no] _
    refine ec_seq (M := fun _ => False) (ec_if (b := true) ((et_test (ev_op (ev_ixT (d := .str "floor") (ev_var rfl) ev_int rfl) ev_str oe_eqS)).to (by decide)) (fun _ => ?_) fun h => nomatch h) fun _ h => h.elim
    exact ec_ret (ev_tup (ds := [.int (-1), .int r, .int 0]) (ea_cons (ev_neg ev_int) (ea_cons (ev_ixT (ev_var rfl) ev_int rfl) (ea_1 ev_int))) (by simp)) rfl
  | su i r m =>
    show Ec _ _ [.dat (suD (i, r, m)), .dat (.int ni), .no] _
    refine ec_noS ((et_test (ev_op (ev_ixT (d := .str "setup") (ev_var rfl) ev_int rfl) ev_str oe_eqS)).to (by decide)) ?_
    refine ec_set (s := .dat (.int (so ni i))) (ev_if (et_bb (ev_ixT (d := .int i) (ev_var rfl) ev_int rfl) (ev_var rfl)) (fun h => (ev_neg ev_int).to (by unfold so; rw [if_pos (of_decide_eq_true h)])) fun h => (ev_bi (ev_ixT (d := .int i) (ev_var rfl) ev_int rfl) (ev_var rfl)).to (by unfold so; rw [if_neg (of_decide_eq_false h)])) ?_
    exact ec_ret (s := .dat (egD (so ni i, r, m))) (ev_if (b := true) ((et_test (ev_op (ev_ixT (d := .str "setup") (ev_var rfl) ev_int rfl) ev_str oe_eqS)).to (by decide)) (fun _ => ev_tup (ds := [.int (so ni i), .int r, .int m]) (ea_cons (ev_var rfl) (ea_cons (ev_ixT (ev_var rfl) ev_int rfl) (ea_1 (ev_ixT (ev_var rfl) ev_int rfl)))) (by simp)) fun h => nomatch h) rfl
  | ho i r m =>
    show Ec _ _ [.dat (hoD (i, r, m)), .dat (.int ni), .no] _
    refine ec_noS ((et_test (ev_op (ev_ixT (d := .str "hold") (ev_var rfl) ev_int rfl) ev_str oe_eqS)).to (by decide)) ?_
    refine ec_set (s := .dat (.int (so ni i))) (ev_if (et_bb (ev_ixT (d := .int i) (ev_var rfl) ev_int rfl) (ev_var rfl)) (fun h => (ev_neg ev_int).to (by unfold so; rw [if_pos (of_decide_eq_true h)])) fun h => (ev_bi (ev_ixT (d := .int i) (ev_var rfl) ev_int rfl) (ev_var rfl)).to (by unfold so; rw [if_neg (of_decide_eq_false h)])) ?_
    exact ec_ret (s := .dat (egD (r, so ni i, m))) (ev_if (b := false) ((et_test (ev_op (ev_ixT (d := .str "hold") (ev_var rfl) ev_int rfl) ev_str oe_eqS)).to (by decide)) (fun h => nomatch h) fun _ => ev_tup (ds := [.int r, .int (so ni i), .int m]) (ea_cons (ev_ixT (ev_var rfl) ev_int rfl) (ea_cons (ev_var rfl) (ea_1 (ev_ixT (ev_var rfl) ev_int rfl)))) (by simp)) rfl
def p__law_sources (K : PySem.W.Frag) : Prm A_sz := .fn (fun x => [.dat (cD x.1)]) fun x => .own (.lst ((src x.1).map .str))
theorem sc__law_sources : FnScope ["_law_circuit_here", "_law_row"] ["_law_circuit_here"] (defScope (top 57)) := ⟨rfl, rfl, rfl, by decide +kernel, rfl, by decide +kernel, by decide +kernel⟩
theorem cal__law_sources (G : Gs K mg) : C8.Cal P w K mg base 1 "_law_sources" (p__law_sources K).sp [] := by
  refine Prm.cal (p__law_sources K) G.d__law_sources G.g__law_sources sc__law_sources (fun _ _ _ _ _ _ us hl => match us, hl with | [_], _ => rfl) (fun _ => rfl) (fun cdv A' outer s H E hr => ⟨_, (PSs.nox (pss_one (ps_ret (pe_op (k_plus (K := K)) (pe_callTy (k_list (K := K)) (by rfl) G.f_list (by decide +kernel) (pa_cons (pe_ix (k_ix (K := K)) (pvx 0) pe_int (fun _ _ => rfl)) pa_nil)) (pe_lc (own := [("_law_row", 1)]) (g := (gName 1)) (by rfl) sc__law_sources.nd (k_seq (K := K) (pe_ix (k_ix (K := K)) (pvx 0) pe_int (fun _ _ => rfl))) (blkOk_by (by kernel_rfl)) (fun _ _ _ _ _ => (pgx 1 sc__law_sources.nd)) (fun _ _ _ _ _ => pts_nil) (fun _ _ _ _ _ => (pe_ix (k_ix (K := K)) (pvx 1) pe_int (fun _ _ => rfl)))))))), ?_⟩)
  rintro ⟨c, hc⟩ F H
  show Ec _ _ [.dat (cD c), .no] _
  refine ec_ret (ev_addL (xs := c.ins.map .str) (ev_own_bor (ev_listT (ev_ixT (ev_var rfl) ev_int rfl))) (ev_own_bor (ev_lcX c.regs rD (fun r => .str r.nm) (it_tup (ev_ixT (ev_var rfl) ev_int rfl)) (Nat.le_trans hc.r (by decide)) fun i r hr => ⟨_, _, tg_name, fun _ h => h, ev_ixT (ev_var rfl) ev_int rfl⟩)) ?_) ?_
  · have := hc.i
    have := hc.r
    rw [List.length_map, List.length_map]; omega
  · refine congrArg (fun l => Sl.own (Ow.lst l)) ?_
    show _ = (src c).map D.str
    unfold src
    rw [List.map_append, List.map_map]
    rfl
/-! the law's windows -/
abbrev A_lw := {k : Ck // k.hs.length ≤ 100 ∧ k.c.regs.length ≤ 100}
def p__law_windows (K : PySem.W.Frag) : Prm A_lw := .fn (fun x => [.dat (cD x.1.c), .dat (.int x.1.T), .dat (hD x.1.hs), .dat (.int 0)]) fun x => .own (.lst ((wins x.1).map pD))
theorem sc__law_windows : FnScope ["_law_circuit_here", "_law_period_here", "_law_holds", "_law_cycle", "_law_found", "_law_row", "_law_pair"] ["_law_circuit_here", "_law_period_here", "_law_holds", "_law_cycle"] (defScope (top 72)) := ⟨rfl, rfl, rfl, by decide +kernel, rfl, by decide +kernel, by decide +kernel⟩
theorem cal__law_windows (G : Gs K mg) : C8.Cal P w K mg base 1 "_law_windows" (p__law_windows K).sp [] := by
  refine Prm.cal (p__law_windows K) G.d__law_windows G.g__law_windows sc__law_windows (fun _ _ _ _ _ _ us hl => match us, hl with | [_, _, _, _], _ => rfl) (fun _ => rfl) (fun cdv A' outer s H E hr => ⟨_, (PSs.nox (pss_cons (ps_setLc (i := 4) (own := [("_law_pair", 6)]) (g := (gName 6)) (by rfl) sc__law_windows.nd (by rfl) (by rfl) (by rfl) (k_seq (K := K) (pvx 2)) (blkOk_by (by kernel_rfl)) (fun _ _ _ _ _ => (pgx 6 sc__law_windows.nd)) (fun _ _ _ _ _ => pts_nil) (fun _ _ _ _ _ => (pe_tup (pa_cons (pe_op (k_plus (K := K)) (pe_op op_times (pvx 3) (pvx 1)) (pe_ix (k_ix (K := K)) (pvx 6) pe_int (fun _ _ => rfl))) (pa_cons (pe_op (k_plus (K := K)) (pe_op op_times (pe_op (k_plus (K := K)) (pvx 3) pe_int) (pvx 1)) (pe_ix (k_ix (K := K)) (pvx 6) pe_int (fun _ _ => rfl))) pa_nil))))) (pss_cons (ps_for PassesOwn.never (by rfl) (k_seq (K := K) (pe_ix (k_ix (K := K)) (pvx 0) pe_int (fun _ _ => rfl))) (pgx 5 sc__law_windows.nd) (pss_one (ps_expr (k_app (K := K) (pvx 4) (pa_cons (pe_tup (pa_cons (pe_op (k_plus (K := K)) (pe_op (k_plus (K := K)) (pe_op op_times (pvx 3) (pvx 1)) (pe_ix (k_ix (K := K)) (pe_ix (k_ix (K := K)) (pvx 5) pe_int (fun _ _ => rfl)) pe_int (fun _ _ => rfl))) (pe_ix (k_ix (K := K)) (pe_ix (k_ix (K := K)) (pvx 5) pe_int (fun _ _ => rfl)) pe_int (fun _ _ => rfl))) (pa_cons (pe_op (k_plus (K := K)) (pe_op (k_plus (K := K)) (pe_op op_times (pe_op (k_plus (K := K)) (pvx 3) pe_int) (pvx 1)) (pe_ix (k_ix (K := K)) (pe_ix (k_ix (K := K)) (pvx 5) pe_int (fun _ _ => rfl)) pe_int (fun _ _ => rfl))) (pe_ix (k_ix (K := K)) (pe_ix (k_ix (K := K)) (pvx 5) pe_int (fun _ _ => rfl)) pe_int (fun _ _ => rfl))) pa_nil))) pa_nil))))) (pss_one (ps_ret (pvx 4)))))), ?_⟩)
  rintro ⟨k, h1, h2⟩ F H
  show Ec _ _ [.dat (cD k.c), .dat (.int k.T), .dat (hD k.hs), .dat (.int 0), .no, .no, .no] _
  have z : ∀ {W : Wd} {Γ : List Sl}, Γ[3]? = some (.dat (.int 0)) → Γ[1]? = some (.dat (.int k.T)) → EvE W (tOp rTimes (tVar 3) (tVar 1)) Γ (.dat (.int 0)) := fun e3 e1 => (ev_mul (ev_var e3) (ev_var e1) (.inl ⟨by decide, by decide⟩)).to (by rw [Int.zero_mul])
  have o : ∀ {W : Wd} {Γ : List Sl}, Γ[3]? = some (.dat (.int 0)) → Γ[1]? = some (.dat (.int k.T)) → EvE W (tOp rTimes (tOp (rPlus K) (tVar 3) (tC (.int 1))) (tVar 1)) Γ (.dat (.int k.T)) := fun e3 e1 => (ev_mul (ev_add (ev_var e3) ev_int) (ev_var e1) (.inl ⟨by decide, by decide⟩)).to (by rw [Int.zero_add, Int.one_mul])
  refine ec_set (ev_lcX k.hs pD (fun p => pD (p.1, k.T + p.2)) (it_list (ev_var rfl)) (by omega) fun i p hp => ⟨_, _, tg_name, fun _ h => h, (ev_tup (ds := [.int (0 + p.1), .int (k.T + p.2)]) (ea_cons (ev_add (z rfl rfl) (ev_ixT (ev_var rfl) ev_int rfl)) (ea_1 (ev_add (o rfl rfl) (ev_ixT (ev_var rfl) ev_int rfl)))) (by simp)).to (by rw [Int.zero_add]; rfl)⟩) ?_
  refine ec_seq (M := fun Γ => ∃ s5 s6, Γ = [.dat (cD k.c), .dat (.int k.T), .dat (hD k.hs), .dat (.int 0), .own (.lst ((wins k).map pD)), s5, s6]) ?_ ?_
  · refine ec_forX k.c.regs (fun _ r => rD r) (ds := k.c.regs.map rD) (it_tup (ev_ixT (ev_var rfl) ev_int rfl)) (fun i d h => map_get h) (by rw [List.length_map]) (fun i Γ => ∃ s5 s6, Γ = [.dat (cD k.c), .dat (.int k.T), .dat (hD k.hs), .dat (.int 0), .own (.lst ((k.hs.map fun p => pD (p.1, k.T + p.2)) ++ ((k.c.regs.take i).map fun r => pD (r.e1 + r.o1, k.T + r.e0 + r.o0)))), s5, s6]) ⟨_, _, by rw [List.take_zero, List.map_nil, List.append_nil]; rfl⟩ ?_ ?_
    · rintro i r _ hr ⟨s5, s6, rfl⟩
      have hi := (List.getElem?_eq_some_iff.mp hr).1
      refine ⟨_, _, tg_name, ?_⟩
      refine ec_app (d := pD (r.e1 + r.o1, k.T + r.e0 + r.o0)) rfl ((ev_tup (ds := [.int (0 + r.e1 + r.o1), .int (k.T + r.e0 + r.o0)]) (ea_cons (ev_add (ev_add (z rfl rfl) (ev_ixT (ev_ixT (ev_var rfl) ev_int rfl) ev_int rfl)) (ev_ixT (ev_ixT (ev_var rfl) ev_int rfl) ev_int rfl)) (ea_1 (ev_add (ev_add (o rfl rfl) (ev_ixT (ev_ixT (ev_var rfl) ev_int rfl) ev_int rfl)) (ev_ixT (ev_ixT (ev_var rfl) ev_int rfl) ev_int rfl)))) (by simp)).to (by rw [Int.zero_add]; rfl)) ?_ ⟨_, _, by rw [take_snoc hr, List.map_append, ← List.append_assoc]; rfl⟩
      rw [List.length_append, List.length_map, List.length_map, List.length_take]
      omega
    · rintro _ ⟨s5, s6, rfl⟩
      refine ⟨s5, s6, ?_⟩
      rw [List.take_length]
      unfold wins
      rw [List.map_append, List.map_map, List.map_map]
      rfl
  · rintro _ ⟨s5, s6, rfl⟩
    exact ec_retO rfl rfl
end Sg
/-! W14: _law_broken. -/
namespace Sg
open PySem PySem.Spec PyProof.Rows L2 Dn
variable {P : Program} {w : World} {K : PySem.W.Frag} {mg : Str → Option Value} {base : Heap}
def vl (l : List Int) (v : Int) : Int := if v < 0 then 0 else l.getD v.toNat 0
def brk (ni : Nat) (l : List Int) (x : Con) : Bool := decide ((eg ni x).2.2 < vl l (eg ni x).1 - vl l (eg ni x).2.1)
def brkD (ni : Nat) (l : List Int) (x : Con) : D := .tup [egD (eg ni x), .int (vl l (eg ni x).1 - (eg ni x).2.2)]
structure BrA where
  cs : List Con
  ni : Nat
  l : List Int
structure BrOk (y : BrA) : Prop where
  len : y.cs.length ≤ 100
  e : ∀ x ∈ y.cs, (eg y.ni x).1 < y.l.length ∧ (eg y.ni x).2.1 < y.l.length
abbrev A_br := {y : BrA // BrOk y}
def p__law_broken (K : PySem.W.Frag) : Prm A_br := .fn (fun y => [.dat (.lst (y.1.cs.map conD)), .dat (.int y.1.ni), .bor (.lst (y.1.l.map .int))]) fun y => .own (.lst ((y.1.cs.filter (brk y.1.ni y.1.l)).map (brkD y.1.ni y.1.l)))
theorem vl_at {l : List Int} {v : Int} (h : v < l.length) (h0 : ¬ v < 0) : atI (l.map D.int) v = some (.int (vl l v)) := by
  have e : (l.map D.int)[v.toNat]? = some (.int (vl l v)) := by
    unfold vl
    rw [if_neg h0, List.getElem?_map, List.getD_eq_getElem?_getD]
    rw [List.getElem?_eq_getElem (by omega)]
    rfl
  have e2 : v = ((v.toNat : Nat) : Int) := by omega
  have e3 := atI_n e
  rwa [← e2] at e3
theorem sc__law_broken : FnScope ["_law_rows", "_law_inputs", "_law_shifts", "_law_found", "_law_row", "_law_sides_here", "_law_one", "_law_two"] ["_law_rows", "_law_inputs", "_law_shifts"] (defScope (top 81)) := ⟨rfl, rfl, rfl, by decide +kernel, rfl, by decide +kernel, by decide +kernel⟩
theorem cal__law_broken (G : Gs K mg) : C8.Cal P w K mg base 2 "_law_broken" (p__law_broken K).sp [] := by
  have c__law_sides := cal__law_sides (P := P) (w := w) (base := base) G
  refine Prm.cal (p__law_broken K) G.d__law_broken G.g__law_broken sc__law_broken (fun _ _ _ _ _ _ us hl => match us, hl with | [_, _, _], _ => rfl) (fun _ => rfl) (fun cdv A' outer s H E hr => ⟨_, (PSs.nox (pss_cons (psx 3 sc__law_broken.nd (pe_lst pa_nil)) (pss_cons (ps_for PassesOwn.never (by rfl) (k_seq (K := K) (pvx 0)) (pgx 4 sc__law_broken.nd) (pss_cons (psx 5 sc__law_broken.nd (C8.pe_c c__law_sides hr (by decide) (by rfl) (pa_cons (pvx 4) (pa_cons (pvx 1) pa_nil)))) (pss_cons (psx 6 sc__law_broken.nd (pe_ifExp (pt_cmpR op_lt (pe_ix (k_ix (K := K)) (pvx 5) pe_int (fun _ _ => rfl)) pe_int (nomark _)) pe_int (pe_ix (k_ix (K := K)) (pvx 2) (pe_ix (k_ix (K := K)) (pvx 5) pe_int (fun _ _ => rfl)) (fun _ _ => rfl)))) (pss_cons (psx 7 sc__law_broken.nd (pe_ifExp (pt_cmpR op_lt (pe_ix (k_ix (K := K)) (pvx 5) pe_int (fun _ _ => rfl)) pe_int (nomark _)) pe_int (pe_ix (k_ix (K := K)) (pvx 2) (pe_ix (k_ix (K := K)) (pvx 5) pe_int (fun _ _ => rfl)) (fun _ _ => rfl)))) (pss_one (ps_if (pt_cmpR op_gt (pe_op op_sub (pvx 6) (pvx 7)) (pe_ix (k_ix (K := K)) (pvx 5) pe_int (fun _ _ => rfl)) (nomark _)) (pss_one (ps_expr (k_app (K := K) (pvx 3) (pa_cons (pe_tup (pa_cons (pvx 5) (pa_cons (pe_op op_sub (pvx 6) (pe_ix (k_ix (K := K)) (pvx 5) pe_int (fun _ _ => rfl))) pa_nil))) pa_nil)))) pss_nil)))))) (pss_one (ps_ret (pvx 3)))))), ?_⟩)
  rintro ⟨⟨cs, ni, l⟩, h⟩ F H
  have hl : cs.length ≤ 100 := h.len
  have he : ∀ x ∈ cs, (eg ni x).1 < l.length ∧ (eg ni x).2.1 < l.length := h.e
  show Ec _ _ [.dat (.lst (cs.map conD)), .dat (.int ni), .bor (.lst (l.map .int)), .no, .no, .no, .no, .no] _
  refine ec_set (ev_lst (ds := []) ea_nil (by decide)) ?_
  refine ec_seq (M := fun Γ => ∃ s4 s5 s6 s7, Γ = [.dat (.lst (cs.map conD)), .dat (.int ni), .bor (.lst (l.map .int)), .own (.lst ((cs.filter (brk ni l)).map (brkD ni l))), s4, s5, s6, s7]) ?_ ?_
  · refine ec_forP cs conD (it_list (ev_var rfl)) (fun pre Γ => ∃ s4 s5 s6 s7, Γ = [.dat (.lst (cs.map conD)), .dat (.int ni), .bor (.lst (l.map .int)), .own (.lst ((pre.filter (brk ni l)).map (brkD ni l))), s4, s5, s6, s7]) ⟨_, _, _, _, rfl⟩ ?_ fun _ h => h
    rintro pre x post _ ec ⟨s4, s5, s6, s7, rfl⟩
    obtain ⟨n1, n2⟩ := he x (by rw [ec]; exact List.mem_append_right _ (List.mem_cons_self ..))
    have hp : (pre.filter (brk ni l)).length ≤ 100 := by
      have h1 := List.length_filter_le (brk ni l) pre
      rw [ec, List.length_append] at hl
      omega
    generalize hg : eg ni x = e at n1 n2
    obtain ⟨a, b, m⟩ := e
    refine ⟨_, _, tg_name, ?_⟩
    refine ec_set (s := .dat (egD (a, b, m))) ((evf_call (args := fun x : Con × Nat => [.dat (conD x.1), .dat (.int x.2)]) (res := fun x : Con × Nat => .dat (egD (eg x.2 x.1))) ((x, ni) : Con × Nat) (ea_cons (ev_var rfl) (ea_1 (ev_var rfl))) rfl).to (by rw [← hg])) ?_
    have rd : ∀ {W : Wd} {Γ : List Sl} {v : Int} {te : TE}, Γ[2]? = some (.bor (.lst (l.map .int))) → v < l.length → EvE W te Γ (.dat (.int v)) → EvE W (tIf (tTest (tOp (rI0 fun i j => .bl (decide (i < j))) te (tC (.int 0)))) (tC (.int 0)) (tOp (rIx K) (tVar 2) te)) Γ (.dat (.int (vl l v))) := fun {W Γ v te} e2 hv ht =>
      ev_if (et_bb ht ev_int) (fun h => ev_int.to (by unfold vl; rw [if_pos (of_decide_eq_true h)])) fun h => ev_ixL (ev_bor e2) ht (vl_at hv (of_decide_eq_false h))
    refine ec_set (rd rfl n1 (ev_ixT (ev_var rfl) ev_int rfl)) ?_
    refine ec_set (rd rfl n2 (ev_ixT (ev_var rfl) ev_int rfl)) ?_
    have hb : brk ni l x = decide (m < vl l a - vl l b) := by unfold brk; rw [hg]
    refine ec_if (b := decide (m < vl l a - vl l b)) (et_bb (ev_bi (ev_var rfl) (ev_var rfl)) (ev_ixT (ev_var rfl) ev_int rfl)) (fun hlt => ?_) fun hlt => ec_next ⟨_, _, _, _, by rw [List.filter_append, List.filter_cons_of_neg (by rw [hb, hlt]; exact Bool.false_ne_true), List.filter_nil, List.append_nil]; rfl⟩
    refine ec_app (d := brkD ni l x) rfl ((ev_tup (ds := [egD (a, b, m), .int (vl l a - m)]) (ea_cons (ev_var rfl) (ea_1 (ev_bi (ev_var rfl) (ev_ixT (ev_var rfl) ev_int rfl)))) (by simp)).to (by unfold brkD; rw [hg])) (by rw [List.length_map]; omega) ⟨_, _, _, _, by rw [List.filter_append, List.filter_cons_of_pos (by rw [hb]; exact hlt), List.map_append]; rfl⟩
  · rintro _ ⟨s4, s5, s6, s7, rfl⟩
    exact ec_retO rfl rfl
end Sg
/-! W15: _law_least_shifts. -/
namespace Sg
open PySem PySem.Spec PyProof.Rows L2 Dn
variable {P : Program} {w : World} {K : PySem.W.Frag} {mg : Str → Option Value} {base : Heap}
structure LsA where
  cs : List Con
  ni : Nat
  n : Nat
  M : Int
structure LsaOk (y : LsA) : Prop where
  len : y.cs.length ≤ 100
  n3 : y.n ≤ 3
  M0 : 0 ≤ y.M
  e : ∀ x ∈ y.cs, (eg y.ni x).1 < y.n ∧ (eg y.ni x).2.1 < y.n
  m : ∀ x ∈ y.cs, -y.M ≤ (eg y.ni x).2.2
abbrev A_lsa := {y : LsA // LsaOk y}
def InB (n : Nat) (B : Int) (l : List Int) : Prop := l.length = n ∧ ∀ v ∈ l, 0 ≤ v ∧ v ≤ B
theorem InB.vl {n : Nat} {B : Int} {l : List Int} (h : InB n B l) (hB : 0 ≤ B) {v : Int} : 0 ≤ vl l v ∧ vl l v ≤ B := by
  unfold Sg.vl
  split
  · omega
  · rw [List.getD_eq_getElem?_getD]
    cases e : l[v.toNat]? with
    | none => exact ⟨Int.le_refl _, hB⟩
    | some u => exact h.2 u (List.mem_of_getElem? e)
theorem InB.set {n : Nat} {B : Int} {l : List Int} (h : InB n B l) {j : Nat} {v : Int} (h0 : 0 ≤ v) (h1 : v ≤ B) : InB n B (l.set j v) := ⟨by rw [List.length_set]; exact h.1, fun u hu => by
  rcases List.mem_or_eq_of_mem_set hu with q | q
  · exact h.2 u q
  · rw [q]; exact ⟨h0, h1⟩⟩
def p__law_least_shifts (K : PySem.W.Frag) : Prm A_lsa := .pu (fun y => [.dat (.lst (y.1.cs.map conD)), .dat (.int y.1.ni), .dat (.int y.1.n)]) fun y s => s = .dat .non ∨ ∃ l, s = .own (.lst (l.map .int)) ∧ InB y.1.n (y.1.M * (y.1.n + 1 : Int)) l ∧ ∀ x ∈ y.1.cs, brk y.1.ni l x = false
theorem sc__law_least_shifts : FnScope ["_law_rows", "_law_inputs", "_law_many", "_law_shifts", "_law_turn", "_law_broken_here", "_law_row"] ["_law_rows", "_law_inputs", "_law_many"] (defScope (top 82)) := ⟨rfl, rfl, rfl, by decide +kernel, rfl, by decide +kernel, by decide +kernel⟩
theorem cal__law_least_shifts (G : Gs K mg) : C8.Cal P w K mg base 3 "_law_least_shifts" (p__law_least_shifts K).sp [] := by
  have c__law_broken := cal__law_broken (P := P) (w := w) (base := base) G
  refine Prm.cal (p__law_least_shifts K) G.d__law_least_shifts G.g__law_least_shifts sc__law_least_shifts (fun _ _ _ _ _ _ us hl => match us, hl with | [_, _, _], _ => rfl) (fun _ => rfl) (fun cdv A' outer s H E hr => ⟨_, (PSs.nox (pss_cons (psx 3 sc__law_least_shifts.nd (pe_op op_times (pe_lst (pa_cons pe_int pa_nil)) (pvx 2))) (pss_cons (ps_for PassesOwn.never (by rfl) (pi_range1 (by rfl) G.f_range (pa_cons (pe_op (k_plus (K := K)) (pvx 2) pe_int) pa_nil)) (pgx 4 sc__law_least_shifts.nd) (pss_cons (psx 5 sc__law_least_shifts.nd (C8.pe_c c__law_broken hr (by decide) (by rfl) (pa_cons (pvx 0) (pa_cons (pvx 1) (pa_cons (pvx 3) pa_nil))))) (pss_cons (ps_if (pt_cmpR op_eq (pe_callB (k_len (K := K)) (by rfl) G.f_len (by decide +kernel) (pa_cons (pvx 5) pa_nil)) pe_int (nomark _)) (pss_one (ps_ret (pvx 3))) pss_nil) (pss_one (ps_for PassesOwn.never (by rfl) (k_seq (K := K) (pvx 5)) (pgx 6 sc__law_least_shifts.nd) (pss_cons (ps_if (pt_cmpR op_lt (pe_ix (k_ix (K := K)) (pe_ix (k_ix (K := K)) (pvx 6) pe_int (fun _ _ => rfl)) pe_int (fun _ _ => rfl)) pe_int (nomark _)) (pss_one (ps_ret pe_non)) pss_nil) (pss_one (ps_asg (pe_callB (k_max (K := K)) (by rfl) G.f_max (by decide +kernel) (pa_cons (pe_ix (k_ix (K := K)) (pvx 3) (pe_ix (k_ix (K := K)) (pe_ix (k_ix (K := K)) (pvx 6) pe_int (fun _ _ => rfl)) pe_int (fun _ _ => rfl)) (fun _ _ => rfl)) (pa_cons (pe_ix (k_ix (K := K)) (pvx 6) pe_int (fun _ _ => rfl)) pa_nil))) (pg_sub (pvx 3) (pe_ix (k_ix (K := K)) (pe_ix (k_ix (K := K)) (pvx 6) pe_int (fun _ _ => rfl)) pe_int (fun _ _ => rfl)) set_list))))))))) (pss_one (ps_ret pe_non))))), ?_⟩)
  rintro ⟨⟨cs, ni, n, M⟩, h⟩ F H
  have hl : cs.length ≤ 100 := h.len
  have h3 : n ≤ 3 := h.n3
  have hM : 0 ≤ M := h.M0
  have he : ∀ x ∈ cs, (eg ni x).1 < n ∧ (eg ni x).2.1 < n := h.e
  have hm : ∀ x ∈ cs, -M ≤ (eg ni x).2.2 := h.m
  show Ec _ _ [.dat (.lst (cs.map conD)), .dat (.int ni), .dat (.int n), .no, .no, .no, .no] _
  refine ec_set (s := .own (.lst ((List.replicate n (0 : Int)).map .int))) ((ev_op (ev_own_bor (ev_lst (ds := [.int 0]) (ea_1 ev_int) (by decide))) (ev_var rfl) (oe_rep (i := [.int 0]) (n := n) (by show 1 * n ≤ 1000; omega) (by omega))).to (by rw [List.map_replicate, List.flatten_replicate_singleton])) ?_
  refine ec_seq (M := fun _ => True) ?_ fun Γ _ => ec_ret ev_non (.inl rfl)
  refine ec_forX (List.range (n + 2)) (fun r _ => .int (0 + (r : Nat))) (ds := rngD 0 (n + 2)) (it_rng1 (n := n + 2) (ea_1 ((ev_add (ev_var rfl) ev_int).to (congrArg (fun i => Sl.dat (.int i)) (by omega)))) (by omega)) (rng_at 0 _) (by rw [rngD_len, List.length_range])
    (fun t Γ => ∃ l s4 s5 s6, Γ = [.dat (.lst (cs.map conD)), .dat (.int ni), .dat (.int n), .own (.lst (l.map .int)), s4, s5, s6] ∧ InB n (M * (t : Int)) l) ⟨_, _, _, _, rfl, List.length_replicate, fun v hv => by rw [(List.mem_replicate.mp hv).2]; omega⟩ ?_ fun _ _ => trivial
  rintro t r _ ht ⟨l, s4, s5, s6, rfl, hb⟩
  have htn : t ≤ n + 1 := by
    have := (List.getElem?_eq_some_iff.mp ht).1
    rw [List.length_range] at this
    omega
  have hB0 : 0 ≤ M * (t : Int) := Int.mul_nonneg hM (by omega)
  have hBs : M * ((t + 1 : Nat) : Int) = M * (t : Int) + M := by rw [show ((t + 1 : Nat) : Int) = (t : Int) + 1 by omega, Int.mul_add, Int.mul_one]
  have hBn : M * (t : Int) ≤ M * ((n : Int) + 1) := Int.mul_le_mul_of_nonneg_left (by omega) hM
  refine ⟨_, _, tg_name, ?_⟩
  refine ec_set (evf_call (⟨⟨cs, ni, l⟩, ⟨hl, fun x hx => by rw [show (BrA.mk cs ni l).l.length = n from hb.1]; exact he x hx⟩⟩ : A_br) (ea_cons (ev_var rfl) (ea_cons (ev_var rfl) (ea_1 (ev_own rfl)))) rfl) ?_
  refine ec_seq (M := fun Γ => Γ = [.dat (.lst (cs.map conD)), .dat (.int ni), .dat (.int n), .own (.lst (l.map .int)), .dat (.int (0 + (t : Nat))), .own (.lst ((cs.filter (brk ni l)).map (brkD ni l))), s6]) ?_ ?_
  · refine ec_if (b := decide (((cs.filter (brk ni l)).length : Int) = 0)) ((et_test (ev_eqI (ev_lenL (ds := (cs.filter (brk ni l)).map (brkD ni l)) (ev_own rfl)) ev_int)).to (by rw [List.length_map])) (fun h0 => ?_) fun _ => ec_next rfl
    have h0 := of_decide_eq_true h0
    refine ec_retO rfl (.inr ⟨l, rfl, ⟨hb.1, fun v hv => ⟨(hb.2 v hv).1, Int.le_trans (hb.2 v hv).2 hBn⟩⟩, fun x hx => ?_⟩)
    have e0 : cs.filter (brk ni l) = [] := List.length_eq_zero_iff.mp (by omega)
    have := List.filter_eq_nil_iff.mp e0 x hx
    simpa using this
  rintro _ rfl
  refine ec_frz 5 rfl ?_
  refine ec_forP (cs.filter (brk ni l)) (brkD ni l) (it_list (ev_var rfl)) (fun _ Γ => ∃ l2 s6, Γ = [.dat (.lst (cs.map conD)), .dat (.int ni), .dat (.int n), .own (.lst (l2.map .int)), .dat (.int (0 + (t : Nat))), .dat (.lst ((cs.filter (brk ni l)).map (brkD ni l))), s6] ∧ InB n (M * (t : Int) + M) l2) ⟨l, _, rfl, hb.1, fun v hv => ⟨(hb.2 v hv).1, by have := (hb.2 v hv).2; omega⟩⟩ ?_ ?_
  · rintro pre x post _ ec ⟨l2, s6, rfl, h2⟩
    have hx : x ∈ cs := (List.mem_filter.mp (by rw [ec]; exact List.mem_append_right _ (List.mem_cons_self ..))).1
    obtain ⟨n1, n2⟩ := he x hx
    have hmx := hm x hx
    have v1 := hb.vl hB0 (v := (eg ni x).1)
    unfold brkD
    generalize eg ni x = e at n1 n2 hmx v1
    obtain ⟨a, b, m⟩ := e
    have n2 : b < n := n2
    have hmx : -M ≤ m := hmx
    have v1 : 0 ≤ vl l a ∧ vl l a ≤ M * (t : Int) := v1
    refine ⟨_, _, tg_name, ?_⟩
    have y1 : ∀ {W : Wd} {Γ : List Sl}, Γ[6]? = some (.dat (.tup [egD (a, b, m), .int (vl l a - m)])) → EvE W (tOp (rIx K) (tOp (rIx K) (tVar 6) (tC (.int 0))) (tC (.int 1))) Γ (.dat (.int b)) := fun e6 => ev_ixT (ds := [.int a, .int b, .int m]) (ev_ixT (d := egD (a, b, m)) (ev_var e6) ev_int rfl) ev_int rfl
    refine ec_seq (M := fun Γ => Γ = [.dat (.lst (cs.map conD)), .dat (.int ni), .dat (.int n), .own (.lst (l2.map .int)), .dat (.int (0 + (t : Nat))), .dat (.lst ((cs.filter (brk ni l)).map fun x => .tup [egD (eg ni x), .int (vl l (eg ni x).1 - (eg ni x).2.2)])), .dat (.tup [egD (a, b, m), .int (vl l a - m)])] ∧ 0 ≤ b) (ec_if (b := decide (b < 0)) (et_bb (y1 rfl) ev_int) (fun _ => ec_ret ev_non (.inl rfl)) fun hb0 => ec_next ⟨rfl, by have := of_decide_eq_false hb0; omega⟩) ?_
    rintro _ ⟨rfl, b0⟩
    have bj : b = ((b.toNat : Nat) : Int) := by omega
    have bl : b < l2.length := by rw [h2.1]; exact n2
    refine ec_setL (j := b.toNat) (d := .int (max (vl l2 b) (vl l a - m))) rfl (ev_max2 (ea_cons (ev_ixL (ev_own rfl) (y1 rfl) (vl_at bl (by omega))) (ea_1 (ev_ixT (ev_var rfl) ev_int rfl)))) ((y1 rfl).to (congrArg (fun i => Sl.dat (.int i)) bj)) (by rw [List.length_map]; omega) ⟨l2.set b.toNat (max (vl l2 b) (vl l a - m)), _, by rw [List.map_set]; rfl, ?_⟩
    have v2 := h2.vl (by omega) (v := b)
    exact h2.set (by omega) (by omega)
  · rintro _ ⟨l2, s6, rfl, h2⟩
    exact ⟨l2, _, _, _, rfl, by rw [hBs]; exact h2⟩
end Sg
/-! W16: _law_same of a thing with itself. -/
namespace Sg
open PySem PySem.Spec PyProof.Rows L2 Dn
variable {P : Program} {w : World} {K : PySem.W.Frag} {mg : Str → Option Value} {base : Heap}
def SD : Nat → D → Prop
  | 0, _ => False
  | r + 1, d => (∃ b, d = .bl b) ∨ ∃ (b : Bool) (ds : List D), d = seqD b ds ∧ ds.length ≤ 1000 ∧ ∀ x ∈ ds, SD r x
def p__law_same (K : PySem.W.Frag) (r : Nat) : Prm {d : D // SD r d} := .fn (fun x => [.dat x.1, .dat x.1]) fun _ => .dat (.bl true)
theorem ev_tyC {W : Wd} {Γ : List Sl} {v : V} : EvE W (tC v) Γ (.raw v) := fun σ F H k Q q => q v F H (.refl k.ok) rfl
theorem sc__law_same : FnScope ["_law_actual", "_law_due", "_law_k"] ["_law_actual", "_law_due"] (defScope (top 48)) := ⟨rfl, rfl, rfl, by decide +kernel, rfl, by decide +kernel, by decide +kernel⟩
theorem cal__law_same (G : Gs K mg) : ∀ r : Nat, C8.Cal P w K mg base (r + 1) "_law_same" (p__law_same K r).sp []
  | 0 => Prm.cal (p__law_same K 0) G.d__law_same G.g__law_same sc__law_same (fun _ _ _ _ _ _ us hl => match us, hl with | [_, _], _ => rfl) (fun _ => rfl) (fun cdv A' outer s H E hr => ⟨_, pss_never, fun y => y.2.elim⟩)
  | r + 1 => by
    have c__law_same := cal__law_same G r
    refine Prm.cal (k := r + 1) (p__law_same K (r + 1)) G.d__law_same G.g__law_same sc__law_same (fun _ _ _ _ _ _ us hl => match us, hl with | [_, _], _ => rfl) (fun _ => rfl) (fun cdv A' outer s H E hr => ⟨_, (PSs.nox (pss_cons (ps_if (PW.pt (pw_or (pt_val (pe_callB (k_isi (K := K)) (by rfl) G.f_isinstance (by decide +kernel) (pa_cons (pvx 1) (pa_cons (pe_bltn (v := .ty "tuple") (by rfl) G.f_tuple (by decide +kernel) rfl) pa_nil)))) (pw_or1 (pt_val (pe_callB (k_isi (K := K)) (by rfl) G.f_isinstance (by decide +kernel) (pa_cons (pvx 1) (pa_cons (pe_bltn (v := .ty "list") (by rfl) G.f_list (by decide +kernel) rfl) pa_nil))))))) (pss_cons (ps_if (PW.pt (pw_or (pt_cmpR op_ne (pe_callB (k_isi (K := K)) (by rfl) G.f_isinstance (by decide +kernel) (pa_cons (pvx 1) (pa_cons (pe_bltn (v := .ty "tuple") (by rfl) G.f_tuple (by decide +kernel) rfl) pa_nil))) (pe_callB (k_isi (K := K)) (by rfl) G.f_isinstance (by decide +kernel) (pa_cons (pvx 0) (pa_cons (pe_bltn (v := .ty "tuple") (by rfl) G.f_tuple (by decide +kernel) rfl) pa_nil))) (nomark _)) (pw_or1 (pt_cmpR op_ne (pe_callB (k_isi (K := K)) (by rfl) G.f_isinstance (by decide +kernel) (pa_cons (pvx 1) (pa_cons (pe_bltn (v := .ty "list") (by rfl) G.f_list (by decide +kernel) rfl) pa_nil))) (pe_callB (k_isi (K := K)) (by rfl) G.f_isinstance (by decide +kernel) (pa_cons (pvx 0) (pa_cons (pe_bltn (v := .ty "list") (by rfl) G.f_list (by decide +kernel) rfl) pa_nil))) (nomark _))))) (pss_one (ps_ret pe_bl)) pss_nil) (pss_cons (ps_if (pt_cmpR op_ne (pe_callB (k_len (K := K)) (by rfl) G.f_len (by decide +kernel) (pa_cons (pvx 0) pa_nil)) (pe_callB (k_len (K := K)) (by rfl) G.f_len (by decide +kernel) (pa_cons (pvx 1) pa_nil)) (nomark _)) (pss_one (ps_ret pe_bl)) pss_nil) (pss_cons (ps_for PassesOwn.never (by rfl) (pi_range1 (by rfl) G.f_range (pa_cons (pe_callB (k_len (K := K)) (by rfl) G.f_len (by decide +kernel) (pa_cons (pvx 1) pa_nil)) pa_nil)) (pgx 2 sc__law_same.nd) (pss_one (ps_if (pt_not (pt_val (C8.pe_c c__law_same hr (by omega) (by rfl) (pa_cons (pe_ix (k_ix (K := K)) (pvx 0) (pvx 2) (fun _ _ => rfl)) (pa_cons (pe_ix (k_ix (K := K)) (pvx 1) (pvx 2) (fun _ _ => rfl)) pa_nil))))) (pss_one (ps_ret pe_bl)) pss_nil))) (pss_one (ps_ret pe_bl))))) pss_nil) (pss_cons (ps_if (pt_cmp (pc_isN (pvx 1))) (pss_one (ps_ret (pe_cmp (pc_isN (pvx 0))))) pss_nil) (pss_cons (ps_if (pt_val (pe_callB (k_isi (K := K)) (by rfl) G.f_isinstance (by decide +kernel) (pa_cons (pvx 1) (pa_cons (pe_bltn (v := .ty "bool") (by rfl) G.f_bool (by decide +kernel) rfl) pa_nil)))) (pss_one (ps_ret (pe_and (pe_callB (k_isi (K := K)) (by rfl) G.f_isinstance (by decide +kernel) (pa_cons (pvx 0) (pa_cons (pe_bltn (v := .ty "bool") (by rfl) G.f_bool (by decide +kernel) rfl) pa_nil))) (pe_one (pe_cmpR op_eq (pvx 0) (pvx 1) (nomark _)))))) pss_nil) (pss_cons (ps_if (pt_val (pe_callB (k_isi (K := K)) (by rfl) G.f_isinstance (by decide +kernel) (pa_cons (pvx 1) (pa_cons (pe_bltn (v := .ty "int") (by rfl) G.f_int (by decide +kernel) rfl) pa_nil)))) (pss_one (ps_ret (pe_and (pe_callB (k_isi (K := K)) (by rfl) G.f_isinstance (by decide +kernel) (pa_cons (pvx 0) (pa_cons (pe_bltn (v := .ty "int") (by rfl) G.f_int (by decide +kernel) rfl) pa_nil))) (pe_and (pe_not (pe_callB (k_isi (K := K)) (by rfl) G.f_isinstance (by decide +kernel) (pa_cons (pvx 0) (pa_cons (pe_bltn (v := .ty "bool") (by rfl) G.f_bool (by decide +kernel) rfl) pa_nil)))) (pe_one (pe_cmpR op_eq (pvx 0) (pvx 1) (nomark _))))))) pss_nil) (pss_one (ps_ret (pe_and (pe_callB (k_isi (K := K)) (by rfl) G.f_isinstance (by decide +kernel) (pa_cons (pvx 0) (pa_cons (pe_bltn (v := .ty "str") (by rfl) G.f_str (by decide +kernel) rfl) pa_nil))) (pe_one (pe_cmpR op_eq (pvx 0) (pvx 1) (nomark _))))))))))), ?_⟩)
    rintro ⟨d, hd⟩ F H
    show Ec _ _ [.dat d, .dat d, .no] _
    have isi : ∀ {W : Wd} {Γ : List Sl} {i : Nat} {n : String} {b : Bool}, Γ[i]? = some (.dat d) → tyD d ≠ "" → kitB (tyD d) n = some b → EvE W (tCB (rIsi K) (tCons (tVar i) (tCons (tC (.ty n)) tNil))) Γ (.dat (.bl b)) := fun e h1 h2 => ev_isi (ea_cons (ev_var e) (ea_1 ev_tyC)) h1 h2
    rcases hd with ⟨b, rfl⟩ | ⟨b, ds, rfl, hl, hds⟩
    · have ty1 : tyD (.bl b) ≠ "" := by show "bool" ≠ ""; decide
      refine ec_noS ((et_or (b := false) (c := false) (et_test (isi rfl ty1 rfl)) fun _ => et_test (isi rfl ty1 rfl)).to rfl) ?_
      refine ec_noS (et_B (ev_isN (ev_var rfl) rfl)) ?_
      refine ec_seq (M := fun _ => False) (ec_if (b := true) (et_test (isi rfl ty1 rfl)) (fun _ => ?_) fun h => nomatch h) fun _ h => h.elim
      exact ec_ret ((ev_andV (b := true) (c := true) (isi rfl ty1 rfl) fun _ => (ev_op (ev_var rfl) (ev_var rfl) oe_eqB).to (by rw [decide_eq_true rfl])).to rfl) rfl
    · cases b with
      | false =>
        have ty1 : tyD (.tup ds) ≠ "" := by show "tuple" ≠ ""; decide
        have isi : ∀ {W : Wd} {Γ : List Sl} {i : Nat} {n : String} {b : Bool}, Γ[i]? = some (.dat (.tup ds)) → tyD (.tup ds) ≠ "" → kitB (tyD (.tup ds)) n = some b → EvE W (tCB (rIsi K) (tCons (tVar i) (tCons (tC (.ty n)) tNil))) Γ (.dat (.bl b)) := isi
        show Ec _ _ [.dat (.tup ds), .dat (.tup ds), .no] _
        refine ec_seq (M := fun _ => False) (ec_if (b := true) ((et_or (b := true) (c := true) (et_test (isi rfl ty1 rfl)) fun h => nomatch h).to rfl) (fun _ => ?_) fun h => nomatch h) fun _ h => h.elim
        refine ec_noS ((et_or (b := false) (c := false) ((et_test (ev_op (isi rfl ty1 rfl) (isi rfl ty1 rfl) oe_neB)).to (by rw [decide_eq_true rfl]; rfl)) fun _ => (et_test (ev_op (isi rfl ty1 rfl) (isi rfl ty1 rfl) oe_neB)).to (by rw [decide_eq_true rfl]; rfl)).to rfl) ?_
        refine ec_noS ((et_test (ev_neI (ev_lenT (ds := ds) (ev_var rfl)) (ev_lenT (ds := ds) (ev_var rfl)))).to (by rw [decide_eq_true rfl]; rfl)) ?_
        refine ec_seq (M := fun _ => True) ?_ fun Γ _ => ec_ret ev_bl rfl
        refine ec_for (it_rng1 (n := ds.length) (ea_1 (ev_lenT (ds := ds) (ev_var rfl))) (Nat.lt_of_le_of_lt hl (by decide))) (fun _ Γ => ∃ s2, Γ = [.dat (.tup ds), .dat (.tup ds), s2]) ⟨_, rfl⟩ ?_ fun _ _ => trivial
        rintro i d _ hdi ⟨s2, rfl⟩
        obtain ⟨hi, rfl⟩ := rngD_get hdi
        have hat : atI ds (0 + (i : Int)) = some ds[i] := by rw [Int.zero_add]; exact atI_n (List.getElem?_eq_getElem hi)
        refine ⟨_, _, tg_name, ?_⟩
        exact ec_no ((et_not (et_test (evf_call (args := fun x : {d : D // SD r d} => [.dat x.1, .dat x.1]) (res := fun _ : {d : D // SD r d} => .dat (.bl true)) (⟨ds[i], hds _ (List.getElem_mem hi)⟩ : {d : D // SD r d}) (ea_cons (ev_ixT (ev_var rfl) (ev_var rfl) hat) (ea_1 (ev_ixT (ev_var rfl) (ev_var rfl) hat))) rfl))).to rfl) ⟨_, rfl⟩
      | true =>
        have ty1 : tyD (.lst ds) ≠ "" := by show "list" ≠ ""; decide
        have isi : ∀ {W : Wd} {Γ : List Sl} {i : Nat} {n : String} {b : Bool}, Γ[i]? = some (.dat (.lst ds)) → tyD (.lst ds) ≠ "" → kitB (tyD (.lst ds)) n = some b → EvE W (tCB (rIsi K) (tCons (tVar i) (tCons (tC (.ty n)) tNil))) Γ (.dat (.bl b)) := isi
        show Ec _ _ [.dat (.lst ds), .dat (.lst ds), .no] _
        refine ec_seq (M := fun _ => False) (ec_if (b := true) ((et_or (b := false) (c := true) (et_test (isi rfl ty1 rfl)) fun _ => et_test (isi rfl ty1 rfl)).to rfl) (fun _ => ?_) fun h => nomatch h) fun _ h => h.elim
        refine ec_noS ((et_or (b := false) (c := false) ((et_test (ev_op (isi rfl ty1 rfl) (isi rfl ty1 rfl) oe_neB)).to (by rw [decide_eq_true rfl]; rfl)) fun _ => (et_test (ev_op (isi rfl ty1 rfl) (isi rfl ty1 rfl) oe_neB)).to (by rw [decide_eq_true rfl]; rfl)).to rfl) ?_
        refine ec_noS ((et_test (ev_neI (ev_lenL (ds := ds) (ev_bL (ev_var rfl))) (ev_lenL (ds := ds) (ev_bL (ev_var rfl))))).to (by rw [decide_eq_true rfl]; rfl)) ?_
        refine ec_seq (M := fun _ => True) ?_ fun Γ _ => ec_ret ev_bl rfl
        refine ec_for (it_rng1 (n := ds.length) (ea_1 (ev_lenL (ds := ds) (ev_bL (ev_var rfl)))) (Nat.lt_of_le_of_lt hl (by decide))) (fun _ Γ => ∃ s2, Γ = [.dat (.lst ds), .dat (.lst ds), s2]) ⟨_, rfl⟩ ?_ fun _ _ => trivial
        rintro i d _ hdi ⟨s2, rfl⟩
        obtain ⟨hi, rfl⟩ := rngD_get hdi
        have hat : atI ds (0 + (i : Int)) = some ds[i] := by rw [Int.zero_add]; exact atI_n (List.getElem?_eq_getElem hi)
        refine ⟨_, _, tg_name, ?_⟩
        exact ec_no ((et_not (et_test (evf_call (args := fun x : {d : D // SD r d} => [.dat x.1, .dat x.1]) (res := fun _ : {d : D // SD r d} => .dat (.bl true)) (⟨ds[i], hds _ (List.getElem_mem hi)⟩ : {d : D // SD r d}) (ea_cons (ev_ixL (ev_bL (ev_var rfl)) (ev_var rfl) hat) (ea_1 (ev_ixL (ev_bL (ev_var rfl)) (ev_var rfl) hat))) rfl))).to rfl) ⟨_, rfl⟩
end Sg
/-! W17: _law_sorted_gates. -/
namespace Sg
open PySem PySem.Spec PyProof.Rows L2 Dn
variable {P : Program} {w : World} {K : PySem.W.Frag} {mg : Str → Option Value} {base : Heap}
theorem Topo.snoc : ∀ {gs : List Gate} {k : List Str} {g : Gate}, Topo k gs → (∀ n ∈ g.nets, n ∈ k ++ gs.map (·.nm)) → Topo k (gs ++ [g])
  | [], k, g, _, h => ⟨fun n hn => by have := h n hn; simpa using this, trivial⟩
  | p :: gs, k, g, ht, h => ⟨ht.1, Topo.snoc ht.2 fun n hn => by
      have := h n hn
      rw [List.map_cons] at this
      rw [List.append_assoc]
      exact this⟩
/-- gates found so far, in an order -/
structure FG (c : Circ) (gs : List Gate) : Prop where
  sub : ∀ g ∈ gs, g ∈ c.gates
  nd : (gs.map (·.nm)).Nodup
  tp : Topo (src c) gs
def plc (c : Circ) (gs : List Gate) : List Str := src c ++ gs.map (·.nm)
theorem FG.len {c : Circ} {gs : List Gate} (h : FG c gs) : gs.length ≤ c.gates.length := by
  have := List.Nodup.length_le_of_subset h.nd (l₂ := c.gates.map (·.nm)) fun n hn => by
    obtain ⟨g, hg, e⟩ := List.mem_map.mp hn
    exact List.mem_map.mpr ⟨g, h.sub g hg, e⟩
  rwa [List.length_map, List.length_map] at this
theorem FG.add {c : Circ} {gs : List Gate} (h : FG c gs) {g : Gate} (hg : g ∈ c.gates) (h1 : g.nm ∉ plc c gs) (h2 : ∀ n ∈ g.nets, n ∈ plc c gs) : FG c (gs ++ [g]) := by
  refine ⟨fun x hx => ?_, ?_, h.tp.snoc h2⟩
  · rcases List.mem_append.mp hx with q | q
    · exact h.sub x q
    · rw [List.mem_singleton.mp q]; exact hg
  · rw [List.map_append, List.nodup_append]
    refine ⟨h.nd, List.pairwise_singleton .., fun a ha b hb e => h1 ?_⟩
    rw [List.map_cons, List.map_nil] at hb
    rw [← List.mem_singleton.mp hb, ← e]
    exact List.mem_append_right _ ha
theorem FG.next {c : Circ} {gs : List Gate} (w : WF c) (h : FG c gs) (hl : gs.length < c.gates.length) : ∃ g ∈ c.gates, g.nm ∉ plc c gs ∧ ∀ n ∈ g.nets, n ∈ plc c gs := by
  have ex : ∃ g ∈ c.gates, ¬ g.nm ∈ gs.map (·.nm) := by
    refine Classical.byContradiction fun q => ?_
    have := List.Nodup.length_le_of_subset (nd_gates w.nd) (l₂ := gs.map (·.nm)) fun n hn => by
      obtain ⟨g, hg, e⟩ := List.mem_map.mp hn
      exact Classical.byContradiction fun z => q ⟨g, hg, fun y => z (by rw [← e]; exact y)⟩
    rw [List.length_map, List.length_map] at this
    omega
  obtain ⟨g, hg, np, hn⟩ := w.next (fun g => g.nm ∈ gs.map (·.nm)) ex
  refine ⟨g, hg, fun q => ?_, fun n hm => ?_⟩
  · rcases List.mem_append.mp q with z | z
    · exact src_gate w.nd z g hg rfl
    · exact np z
  · rcases hn n hm with q | ⟨g', _, h1, e⟩
    · exact List.mem_append_left _ q
    · rw [← e]; exact List.mem_append_right _ h1
def p__law_sorted_gates (K : PySem.W.Frag) : Prm A_wf := .pu (fun x => [.dat (cD x.1)]) fun x s => ∃ gs, s = .own (.lst (gs.map gD)) ∧ FG x.1 gs ∧ gs.length = x.1.gates.length
theorem sc__law_sorted_gates : FnScope ["_law_circuit_here", "_law_placed", "_law_found", "_law_k", "_law_gate_here", "_law_net"] ["_law_circuit_here"] (defScope (top 59)) := ⟨rfl, rfl, rfl, by decide +kernel, rfl, by decide +kernel, by decide +kernel⟩
theorem cal__law_sorted_gates (G : Gs K mg) : C8.Cal P w K mg base 2 "_law_sorted_gates" (p__law_sorted_gates K).sp [] := by
  have c__law_sources := cal__law_sources (P := P) (w := w) (base := base) G
  refine Prm.cal (p__law_sorted_gates K) G.d__law_sorted_gates G.g__law_sorted_gates sc__law_sorted_gates (fun _ _ _ _ _ _ us hl => match us, hl with | [_], _ => rfl) (fun _ => rfl) (fun cdv A' outer s H E hr => ⟨_, (PSs.nox (pss_cons (psx 1 sc__law_sorted_gates.nd (C8.pe_c c__law_sources hr (by decide) (by rfl) (pa_cons (pvx 0) pa_nil))) (pss_cons (psx 2 sc__law_sorted_gates.nd (pe_lst pa_nil)) (pss_cons (ps_for PassesOwn.never (by rfl) (pi_range1 (by rfl) G.f_range (pa_cons (pe_callB (k_len (K := K)) (by rfl) G.f_len (by decide +kernel) (pa_cons (pe_ix (k_ix (K := K)) (pvx 0) pe_int (fun _ _ => rfl)) pa_nil)) pa_nil)) (pgx 3 sc__law_sorted_gates.nd) (pss_one (ps_for PassesOwn.never (by rfl) (k_seq (K := K) (pe_ix (k_ix (K := K)) (pvx 0) pe_int (fun _ _ => rfl))) (pgx 4 sc__law_sorted_gates.nd) (pss_one (ps_if (PW.pt (pw_and (pt_cmpR (k_notIn (K := K)) (pe_ix (k_ix (K := K)) (pvx 4) pe_int (fun _ _ => rfl)) (pvx 1) (by with_unfolding_all rfl)) (pw_and1 (pt_cmpR op_eq (pe_callB (k_len (K := K)) (by rfl) G.f_len (by decide +kernel) (pa_cons (pe_lc (own := [("_law_net", 5)]) (g := (gName 5)) (by rfl) sc__law_sorted_gates.nd (k_seq (K := K) (pe_ix (k_ix (K := K)) (pvx 4) pe_int (fun _ _ => rfl))) (blkOk_by (by kernel_rfl)) (fun _ _ _ _ _ => (pgx 5 sc__law_sorted_gates.nd)) (fun _ _ _ _ _ => (pts_one (pt_cmpR (k_notIn (K := K)) (pvx 5) (pvx 1) (by with_unfolding_all rfl)))) (fun _ _ _ _ _ => (pvx 5))) pa_nil)) pe_int (nomark _))))) (pss_cons (ps_expr (k_app (K := K) (pvx 1) (pa_cons (pe_ix (k_ix (K := K)) (pvx 4) pe_int (fun _ _ => rfl)) pa_nil))) (pss_one (ps_expr (k_app (K := K) (pvx 2) (pa_cons (pvx 4) pa_nil))))) pss_nil))))) (pss_one (ps_ret (pvx 2))))))), ?_⟩)
  rintro ⟨c, hc⟩ F H
  have hg5 := hc.g
  have hi2 := hc.i
  have h3 := hc.r
  have sl : (src c).length ≤ 5 := by unfold src; rw [List.length_append, List.length_map]; omega
  show Ec _ _ [.dat (cD c), .no, .no, .no, .no, .no] _
  refine ec_set (evf_call (⟨c, hc.sz⟩ : A_sz) (ea_1 (ev_var rfl)) rfl) ?_
  refine ec_set (ev_lst (ds := []) ea_nil (by decide)) ?_
  refine ec_seq (M := fun Γ => ∃ gs s3 s4 s5, Γ = [.dat (cD c), .own (.lst ((plc c gs).map .str)), .own (.lst (gs.map gD)), s3, s4, s5] ∧ FG c gs ∧ gs.length = c.gates.length) ?_ ?_
  · refine ec_forX (List.range c.gates.length) (fun r _ => .int (0 + (r : Nat))) (ds := rngD 0 c.gates.length) (it_rng1 (n := c.gates.length) (ea_1 ((ev_lenT (ds := c.gates.map gD) (ev_ixT (ev_var rfl) ev_int rfl)).to (by rw [List.length_map]))) (by omega)) (rng_at 0 _) (by rw [rngD_len, List.length_range])
      (fun t Γ => ∃ gs s3 s4 s5, Γ = [.dat (cD c), .own (.lst ((plc c gs).map .str)), .own (.lst (gs.map gD)), s3, s4, s5] ∧ FG c gs ∧ t ≤ gs.length) ⟨[], _, _, _, by unfold plc; rw [List.map_nil, List.append_nil]; rfl, ⟨fun _ h => (nomatch h), List.nodup_nil, trivial⟩, Nat.zero_le _⟩ ?_ ?_
    · rintro t r _ ht ⟨gs, s3, s4, s5, rfl, hf, hl⟩
      have htn : t < c.gates.length := by
        have := (List.getElem?_eq_some_iff.mp ht).1
        rwa [List.length_range] at this
      refine ⟨_, _, tg_name, ?_⟩
      refine ec_forP c.gates gD (it_tup (ev_ixT (ev_var rfl) ev_int rfl)) (fun pre Γ => ∃ ext s3 s4 s5, Γ = [.dat (cD c), .own (.lst ((plc c (gs ++ ext)).map .str)), .own (.lst ((gs ++ ext).map gD)), s3, s4, s5] ∧ FG c (gs ++ ext) ∧ ∀ g ∈ pre, g.nm ∉ plc c gs → (∀ n ∈ g.nets, n ∈ plc c gs) → ext ≠ []) ⟨[], _, _, _, by rw [List.append_nil]; rfl, by rw [List.append_nil]; exact hf, fun _ h => nomatch h⟩ ?_ ?_
      · rintro pre g post _ ec ⟨ext, s3, s4, s5, rfl, h2, hx⟩
        have hg : g ∈ c.gates := by rw [ec]; exact List.mem_append_right _ (List.mem_cons_self ..)
        have hlen := h2.len
        have pl : (plc c (gs ++ ext)).length ≤ 10 := by unfold plc; rw [List.length_append, List.length_map]; omega
        have fl : ∀ l : List Str, (l.map D.str).all flatD = true := fun l => by rw [List.all_map]; exact List.all_eq_true.mpr fun _ _ => rfl
        have ok := hc.gate g hg
        refine ⟨_, _, tg_name, ?_⟩
        refine ec_if (b := (!decide (g.nm ∈ plc c (gs ++ ext))) && decide (((g.nets.filter fun n => !decide (n ∈ plc c (gs ++ ext))).length : Int) = 0))
          (et_and ((et_test (ev_inL (neg := true) (ev_ixT (d := .str g.nm) (ev_var rfl) ev_int rfl) (ev_own rfl) rfl (fl _))).to (by rw [inD_str]; rfl)) fun _ => (et_test (ev_eqI (ev_lenL (ev_own_bor (ev_lcF g.nets .str .str (fun n => !decide (n ∈ plc c (gs ++ ext))) (it_tup (ev_ixT (ev_var rfl) ev_int rfl)) (by have := ok.pins; omega) fun i n hn => ⟨_, _, tg_name, fun _ h => h, (et_test (ev_inL (neg := true) (ev_var rfl) (ev_own rfl) rfl (fl _))).to (by rw [inD_str]; rfl), fun _ => ev_var rfl⟩))) ev_int)).to (by rw [List.length_map])) (fun hb => ?_) fun hb => ec_next ⟨ext, _, _, _, rfl, h2, fun x hxm a b => ?_⟩
        · rw [Bool.and_eq_true] at hb
          have b1 : g.nm ∉ plc c (gs ++ ext) := by have := hb.1; simpa using this
          have b2 : ∀ n ∈ g.nets, n ∈ plc c (gs ++ ext) := fun n hn => by
            have e0 := List.length_eq_zero_iff.mp (show (g.nets.filter fun n => !decide (n ∈ plc c (gs ++ ext))).length = 0 by have := of_decide_eq_true hb.2; omega)
            have := List.filter_eq_nil_iff.mp e0 n hn
            simpa using this
          refine ec_seq (M := fun Γ => ∃ s3 s5, Γ = [.dat (cD c), .own (.lst ((plc c (gs ++ (ext ++ [g]))).map .str)), .own (.lst ((gs ++ ext).map gD)), s3, .dat (gD g), s5]) (ec_app (d := .str g.nm) rfl (ev_ixT (ev_var rfl) ev_int rfl) (by rw [List.length_map]; omega) ⟨s3, s5, by rw [show plc c (gs ++ (ext ++ [g])) = plc c (gs ++ ext) ++ [g.nm] by unfold plc; simp, List.map_append (l₁ := plc c (gs ++ ext))]; rfl⟩) ?_
          rintro _ ⟨s3, s5, rfl⟩
          exact ec_app (d := gD g) rfl (ev_var rfl) (by rw [List.length_map]; omega) ⟨ext ++ [g], _, _, _, by rw [← List.append_assoc, List.map_append (l₁ := gs ++ ext)]; rfl, by rw [← List.append_assoc]; exact h2.add hg b1 b2, fun _ _ _ _ => by simp⟩
        · rcases List.mem_append.mp hxm with q | q
          · exact hx x q a b
          · rw [List.mem_singleton.mp q] at a b
            intro e
            subst e
            rw [List.append_nil] at hb
            have c1 : (g.nets.filter fun n => !decide (n ∈ plc c gs)) = [] := List.filter_eq_nil_iff.mpr fun n hn => by simp [b n hn]
            rw [c1] at hb
            simp [a] at hb
      · rintro _ ⟨ext, s3, s4, s5, rfl, h2, hx⟩
        refine ⟨gs ++ ext, _, _, _, rfl, h2, ?_⟩
        by_cases q : gs.length < c.gates.length
        · obtain ⟨g, hg, a, b⟩ := hf.next hc q
          have := List.length_pos_iff.mpr (hx g hg a b)
          rw [List.length_append]; omega
        · rw [List.length_append]; omega
    · rintro _ ⟨gs, s3, s4, s5, rfl, hf, hl⟩
      rw [List.length_range] at hl
      exact ⟨gs, _, _, _, rfl, hf, Nat.le_antisymm hf.len hl⟩
  · rintro _ ⟨gs, s3, s4, s5, rfl, hf, hl⟩
    exact ec_retO rfl ⟨gs, rfl, hf, hl⟩
end Sg
/-! W18: _law_settle. -/
namespace Sg
open PySem PySem.Spec PyProof.Rows L2 Dn
variable {P : Program} {w : World} {K : PySem.W.Frag} {mg : Str → Option Value} {base : Heap}
def shs (bs : List Bool) : List Int := (List.range bs.length).map fun k => (if bs.getD k false then 1 else 0) * 2 ^ k
theorem shs_sum : ∀ bs : List Bool, (shs bs).sum = (idx bs : Int) := by
  have : ∀ (n : Nat) (bs : List Bool), n ≤ bs.length → ((List.range n).map fun k => ((if bs.getD k false then 1 else 0) * 2 ^ k : Int)).sum = (idx (bs.take n) : Int) := by
    intro n
    induction n with
    | zero => intro bs _; rfl
    | succ n ih =>
      intro bs h
      have hb : bs[n]? = some bs[n] := List.getElem?_eq_getElem (by omega)
      rw [List.range_succ, List.map_append, List.sum_append, ih bs (by omega), take_snoc hb, idx_snoc, List.length_take, Nat.min_eq_left (by omega)]
      show _ + ((if bs.getD n false then 1 else 0) * 2 ^ n + 0 : Int) = _
      rw [List.getD_eq_getElem?_getD, hb]
      show _ + ((if bs[n] then 1 else 0) * 2 ^ n + 0 : Int) = _
      cases bs[n]
      · simp
      · simp
  intro bs
  have := this bs.length bs (Nat.le_refl _)
  rw [List.take_length] at this
  exact this
def p__law_settle (K : PySem.W.Frag) : Prm A_sol := .pu (fun x => [.dat (cD x.1.1), .dat (.tup (x.1.2.1.map .bl))]) fun x s => ∃ kvs, s = .own (.dic kvs) ∧ ∀ n ∈ nets x.1.1, lk kvs (.inr n) = some (.bl (x.1.2.2 n))
theorem sc__law_settle : FnScope ["_law_circuit_here", "_law_vector_here", "_law_names_here", "_law_values", "_law_k", "_law_gate_here", "_law_index"] ["_law_circuit_here", "_law_vector_here"] (defScope (top 60)) := ⟨rfl, rfl, rfl, by decide +kernel, rfl, by decide +kernel, by decide +kernel⟩
theorem cal__law_settle (G : Gs K mg) : C8.Cal P w K mg base 3 "_law_settle" (p__law_settle K).sp [] := by
  have c__law_sorted_gates := cal__law_sorted_gates (P := P) (w := w) (base := base) G
  have c__law_sources := cal__law_sources (P := P) (w := w) (base := base) G
  refine Prm.cal (p__law_settle K) G.d__law_settle G.g__law_settle sc__law_settle (fun _ _ _ _ _ _ us hl => match us, hl with | [_, _], _ => rfl) (fun _ => rfl) (fun cdv A' outer s H E hr => ⟨_, (PSs.nox (pss_cons (psx 2 sc__law_settle.nd (C8.pe_c c__law_sources hr (by decide) (by rfl) (pa_cons (pvx 0) pa_nil))) (pss_cons (psx 3 sc__law_settle.nd pe_dnewK) (pss_cons (ps_for PassesOwn.never (by rfl) (pi_range1 (by rfl) G.f_range (pa_cons (pe_callB (k_len (K := K)) (by rfl) G.f_len (by decide +kernel) (pa_cons (pvx 2) pa_nil)) pa_nil)) (pgx 4 sc__law_settle.nd) (pss_one (ps_dput (hu_of hr) (pvx 3) (pe_ix (k_ix (K := K)) (pvx 2) (pvx 4) (fun _ _ => rfl)) (pe_ix (k_ix (K := K)) (pvx 1) (pvx 4) (fun _ _ => rfl)) (by rfl)))) (pss_cons (ps_for PassesOwn.never (by rfl) (k_seq (K := K) (C8.pe_c c__law_sorted_gates hr (by decide) (by rfl) (pa_cons (pvx 0) pa_nil))) (pgx 5 sc__law_settle.nd) (pss_cons (psx 6 sc__law_settle.nd (pe_callB (k_sum (K := K)) (by rfl) G.f_sum (by decide +kernel) (pa_cons (pe_lc (own := [("_law_k", 4)]) (g := (gName 4)) (by rfl) sc__law_settle.nd (pi_range1 (by rfl) G.f_range (pa_cons (pe_callB (k_len (K := K)) (by rfl) G.f_len (by decide +kernel) (pa_cons (pe_ix (k_ix (K := K)) (pvx 5) pe_int (fun _ _ => rfl)) pa_nil)) pa_nil)) (blkOk_by (by kernel_rfl)) (fun _ _ _ _ _ => (pgx 4 sc__law_settle.nd)) (fun _ _ _ _ _ => pts_nil) (fun _ _ _ _ _ => (pe_op op_shl (pe_callTy cr_int (by rfl) G.f_int (by decide +kernel) (pa_cons (pe_dget (hu_of hr) (pvx 3) (pe_ix (k_ix (K := K)) (pe_ix (k_ix (K := K)) (pvx 5) pe_int (fun _ _ => rfl)) (pvx 4) (fun _ _ => rfl)) (fun _ _ => rfl)) pa_nil)) (pvx 4)))) pa_nil))) (pss_one (ps_dput (hu_of hr) (pvx 3) (pe_ix (k_ix (K := K)) (pvx 5) pe_int (fun _ _ => rfl)) (pe_ix (k_ix (K := K)) (pe_ix (k_ix (K := K)) (pvx 5) pe_int (fun _ _ => rfl)) (pvx 6) (fun _ _ => rfl)) (by rfl))))) (pss_one (ps_ret (pvx 3)))))))), ?_⟩)
  rintro ⟨⟨c, vec, v⟩, hc, hv, hl⟩ F H
  have hc : WF c := hc
  have hv : Sol c vec v := hv
  have hl : vec.length = (src c).length := hl
  have h200 := src_len hc.sz
  have hg5 := hc.g
  show Ec _ _ [.dat (cD c), .dat (.tup (vec.map .bl)), .no, .no, .no, .no, .no] _
  refine ec_set (evf_call (⟨c, hc.sz⟩ : A_sz) (ea_1 (ev_var rfl)) rfl) ?_
  refine ec_set ev_dnew ?_
  refine ec_seq (M := fun Γ => ∃ kvs s4 s5 s6, Γ = [.dat (cD c), .dat (.tup (vec.map .bl)), .own (.lst ((src c).map .str)), .own (.dic kvs), s4, s5, s6] ∧ kvs.length ≤ 200 ∧ ∀ n ∈ src c, lk kvs (.inr n) = some (.bl (v n))) ?_ ?_
  · refine ec_forX (src c) (fun r _ => .int (0 + (r : Nat))) (ds := rngD 0 (src c).length) (it_rng1 (n := (src c).length) (ea_1 ((ev_lenL (ds := (src c).map .str) (ev_own rfl)).to (by rw [List.length_map]))) (by omega)) (fun i d h => by
        obtain ⟨hi, rfl⟩ := rngD_get h
        exact ⟨(src c)[i], List.getElem?_eq_getElem hi, rfl⟩) (by rw [rngD_len])
      (fun i Γ => ∃ kvs s4 s5 s6, Γ = [.dat (cD c), .dat (.tup (vec.map .bl)), .own (.lst ((src c).map .str)), .own (.dic kvs), s4, s5, s6] ∧ kvs.length ≤ i ∧ ∀ n ∈ (src c).take i, lk kvs (.inr n) = some (.bl (v n))) ⟨[], _, _, _, rfl, Nat.zero_le _, fun _ h => by rw [List.take_zero] at h; cases h⟩ ?_ ?_
    · rintro i n _ hn ⟨kvs, s4, s5, s6, rfl, hk, hs⟩
      have hi := (List.getElem?_eq_some_iff.mp hn).1
      refine ⟨_, _, tg_name, ?_⟩
      refine ec_putD (ky := .inr n) (d := .bl (v n)) rfl (ev_ixT (ev_var rfl) (ev_var rfl) (by rw [Int.zero_add]; exact atI_map (hv.s i n hn))) (ev_ixL (ev_own rfl) (ev_var rfl) (by rw [Int.zero_add]; exact atI_map hn)) (by omega) ⟨pt kvs (.inr n) (.bl (v n)), _, _, _, rfl, ?_, fun m hm => ?_⟩
      · rw [pt_len2]; split <;> omega
      · rw [lk_pt]
        by_cases e : n = m
        · subst e; rw [if_pos rfl]
        · rw [if_neg (fun z => e (Sum.inr.inj z))]
          rw [take_snoc hn] at hm
          rcases List.mem_append.mp hm with q | q
          · exact hs m q
          · exact absurd (List.mem_singleton.mp q).symm e
    · rintro _ ⟨kvs, s4, s5, s6, rfl, hk, hs⟩
      rw [List.take_length] at hs
      exact ⟨kvs, _, _, _, rfl, by omega, hs⟩
  rintro _ ⟨kv0, s4, s5, s6, rfl, hk0, hs0⟩
  refine ec_seq (M := fun Γ => ∃ kvs s4 s5 s6, Γ = [.dat (cD c), .dat (.tup (vec.map .bl)), .own (.lst ((src c).map .str)), .own (.dic kvs), s4, s5, s6] ∧ ∀ n ∈ nets c, lk kvs (.inr n) = some (.bl (v n))) ?_ ?_
  · refine ec_forR (S := fun ds => ∃ gs, ds = gs.map gD ∧ FG c gs ∧ gs.length = c.gates.length) (itR_seq ((ev_call (p := p__law_sorted_gates K) (⟨c, hc⟩ : A_wf) (ea_1 (ev_var rfl)) fits_pure rfl).fz (R' := fun s => ∃ gs, s = .dat (.lst (gs.map gD)) ∧ FG c gs ∧ gs.length = c.gates.length) ?_) ?_)
      (fun ds i Γ => ∃ gs kvs s4 s5 s6, ds = gs.map gD ∧ FG c gs ∧ gs.length = c.gates.length ∧ Γ = [.dat (cD c), .dat (.tup (vec.map .bl)), .own (.lst ((src c).map .str)), .own (.dic kvs), s4, s5, s6] ∧ kvs.length ≤ 200 + i ∧ ∀ n ∈ plc c (gs.take i), lk kvs (.inr n) = some (.bl (v n))) ?_ ?_ ?_
    · rintro s ⟨⟨gs, rfl, h1, h2⟩, _⟩
      exact .inr ⟨_, rfl, gs, rfl, h1, h2⟩
    · rintro s ⟨gs, rfl, h1, h2⟩
      exact ⟨_, gs.map gD, ⟨gs, rfl, h1, h2⟩, rfl, .inl ⟨true, rfl⟩⟩
    · rintro ds ⟨gs, rfl, h1, h2⟩
      exact ⟨gs, kv0, _, _, _, rfl, h1, h2, rfl, hk0, fun n hn => hs0 n (by unfold plc at hn; rw [List.take_zero, List.map_nil, List.append_nil] at hn; exact hn)⟩
    · rintro ds i d _ _ hd ⟨gs, kvs, s4, s5, s6, rfl, hF, hL, rfl, hkl, hs⟩
      obtain ⟨g, hg, rfl⟩ := map_get hd
      have hi := (List.getElem?_eq_some_iff.mp hg).1
      have hgm := hF.sub g (List.mem_of_getElem? hg)
      have ok := hc.gate g hgm
      have p3 := ok.pins
      have rdy : ∀ n ∈ g.nets, n ∈ plc c (gs.take i) := fun n hn => by
        have e := split_at hg
        have tp := hF.tp
        rw [e] at tp
        rcases topo_split tp n hn with q | ⟨g', hg', en⟩
        · exact List.mem_append_left _ q
        · exact List.mem_append_right _ (List.mem_map.mpr ⟨g', hg', en⟩)
      refine ⟨_, _, tg_name, ?_⟩
      refine ec_set (s := .dat (.int (idx (g.nets.map v)))) ((ev_sum (ns := shs (g.nets.map v)) (ev_own_bor ((ev_lcX (List.range g.nets.length) (fun k => .int (0 + (k : Nat))) (fun k => .int ((if (g.nets.map v).getD k false then 1 else 0) * 2 ^ k)) (it_rng1 (n := g.nets.length) (ea_1 ((ev_lenT (ds := g.nets.map .str) (ev_ixT (ev_var rfl) ev_int rfl)).to (by rw [List.length_map]))) (by omega)) (by rw [List.length_range]; omega) fun j k hk => ⟨_, _, tg_name, fun _ h => h, ?_⟩).to (by unfold shs; rw [List.map_map, List.length_map]; rfl)))).to (by rw [shs_sum])) ?_
      · have hkl : k < g.nets.length := List.mem_range.mp (List.mem_of_getElem? hk)
        have hn : g.nets[k]? = some g.nets[k] := List.getElem?_eq_getElem hkl
        generalize g.nets[k] = n at hn
        have hgd : (g.nets.map v).getD k false = v n := by rw [List.getD_eq_getElem?_getD, List.getElem?_map, hn]; rfl
        rw [hgd]
        refine (ev_bc (g := fun i j => i * 2 ^ j.toNat) (ev_intB (ev_dget (k := .inr n) (ev_own rfl) (ev_ixT (ev_ixT (d := .tup (g.nets.map .str)) (ev_var rfl) ev_int rfl) (ev_var rfl) (by rw [Int.zero_add]; exact atI_map hn)) (hs n (rdy n (List.mem_of_getElem? hn))))) (ev_var rfl) ⟨by omega, by omega, by split <;> decide⟩).to ?_
        rw [Int.zero_add, Int.toNat_natCast]
      · have hlook := hv.g g hgm
        refine ec_putD (ky := .inr g.nm) (d := .bl (v g.nm)) rfl (ev_ixT (ds := g.tab.map .bl) (ev_ixT (ev_var rfl) ev_int rfl) (ev_var rfl) (atI_map hlook)) (ev_ixT (ev_var rfl) ev_int rfl) (by omega) ⟨gs, pt kvs (.inr g.nm) (.bl (v g.nm)), _, _, _, rfl, hF, hL, rfl, ?_, fun m hm => ?_⟩
        · rw [pt_len2]; split <;> omega
        · rw [lk_pt]
          by_cases e : g.nm = m
          · subst e; rw [if_pos rfl]
          · rw [if_neg (fun z => e (Sum.inr.inj z))]
            unfold plc at hm
            rw [take_snoc hg, List.map_append, ← List.append_assoc] at hm
            rcases List.mem_append.mp hm with q | q
            · exact hs m q
            · rw [List.map_cons, List.map_nil] at q
              exact absurd (List.mem_singleton.mp q).symm e
    · rintro ds _ _ ⟨gs, kvs, s4, s5, s6, rfl, hF, hL, rfl, hkl, hs⟩
      rw [List.length_map, List.take_length] at hs
      refine ⟨kvs, _, _, _, rfl, fun n hn => ?_⟩
      rcases List.mem_append.mp hn with q | q
      · exact hs n (List.mem_append_left _ q)
      · refine hs n (List.mem_append_right _ (Classical.byContradiction fun z => ?_))
        obtain ⟨g, hg, e⟩ := List.mem_map.mp q
        have := List.Nodup.length_le_of_subset (l₁ := n :: gs.map (·.nm)) (l₂ := c.gates.map (·.nm)) (List.nodup_cons.mpr ⟨z, hF.nd⟩) fun m hm => by
          rcases List.mem_cons.mp hm with y | y
          · rw [y]; exact q
          · obtain ⟨g', hg', e'⟩ := List.mem_map.mp y
            exact List.mem_map.mpr ⟨g', hF.sub g' hg', e'⟩
        rw [List.length_cons, List.length_map, List.length_map] at this
        omega
  · rintro _ ⟨kvs, s4, s5, s6, rfl, h⟩
    exact ec_retO rfl ⟨kvs, rfl, h⟩
end Sg
/-! W19: _law_trace. -/
namespace Sg
open PySem PySem.Spec PyProof.Rows L2 Dn
variable {P : Program} {w : World} {K : PySem.W.Frag} {mg : Str → Option Value} {base : Heap}
open Classical in
noncomputable def VS (c : Circ) (vec : List Bool) : Str → Bool := if h : ∃ v, Sol c vec v then h.choose else fun _ => false
theorem VS_sol {c : Circ} {vec : List Bool} (h : WF c) (hl : vec.length = (src c).length) : Sol c vec (VS c vec) := by
  have e := h.sol hl
  unfold VS
  rw [dif_pos e]
  exact e.choose_spec
/-- the states that the registers store -/
noncomputable def tr (c : Circ) (rows : List (List Bool)) : Nat → List Bool
  | 0 => c.regs.map (·.ini)
  | k + 1 => c.regs.map fun r => VS c (rows.getD k [] ++ tr c rows k) r.net
theorem tr_len {c : Circ} {rows : List (List Bool)} : ∀ k, (tr c rows k).length = c.regs.length
  | 0 => List.length_map ..
  | k + 1 => List.length_map ..
/-- the values of the nets in cycle k -/
noncomputable def Vc (c : Circ) (rows : List (List Bool)) (k : Nat) : Str → Bool := VS c (rows.getD k [] ++ tr c rows k)
theorem Vc_sol {c : Circ} {rows : List (List Bool)} {k : Nat} (h : WF c) {row : List Bool} (hr : rows[k]? = some row) (hl : row.length = c.ins.length) : Sol c (row ++ tr c rows k) (Vc c rows k) := by
  have e : rows.getD k [] = row := by rw [List.getD_eq_getElem?_getD, hr]; rfl
  unfold Vc
  rw [e]
  refine VS_sol h ?_
  unfold src
  rw [List.length_append, List.length_append, List.length_map, tr_len, hl]
def bT (b : List Bool) : D := .tup (b.map .bl)
abbrev A_tr := {x : Circ × List (List Bool) // WF x.1 ∧ x.2.length ≤ 10 ∧ ∀ row ∈ x.2, row.length = x.1.ins.length}
noncomputable def trs (c : Circ) (rows : List (List Bool)) (n : Nat) : List D := (List.range (n + 1)).map fun k => bT (tr c rows k)
theorem trs_succ {c : Circ} {rows : List (List Bool)} {n : Nat} : trs c rows (n + 1) = trs c rows n ++ [bT (tr c rows (n + 1))] := by
  unfold trs
  rw [List.range_succ, List.map_append]
  rfl
theorem atI_last {ds : List D} {d : D} : atI (ds ++ [d]) (-1) = some d := by
  unfold atI ixN
  rw [if_neg (by decide), List.length_append, if_pos (by show -((ds.length + 1 : Nat) : Int) ≤ -1; omega)]
  show (ds ++ [d])[((-1 : Int) + ((ds.length + 1 : Nat) : Int)).toNat]? = some d
  rw [show ((-1 : Int) + ((ds.length + 1 : Nat) : Int)).toNat = ds.length by omega]
  exact List.getElem?_concat_length
theorem trs_last {c : Circ} {rows : List (List Bool)} : ∀ n, atI (trs c rows n) (-1) = some (bT (tr c rows n))
  | 0 => rfl
  | n + 1 => by rw [trs_succ]; exact atI_last
theorem trs_len {c : Circ} {rows : List (List Bool)} {n : Nat} : (trs c rows n).length = n + 1 := by unfold trs; rw [List.length_map, List.length_range]
noncomputable def p__law_trace (K : PySem.W.Frag) : Prm A_tr := .fn (fun x => [.dat (cD x.1.1), .dat (.lst (x.1.2.map bT))]) fun x => .own (.lst (trs x.1.1 x.1.2 x.1.2.length))
theorem sc__law_trace : FnScope ["_law_circuit_here", "_law_rows", "_law_states", "_law_bits", "_law_values", "_law_row"] ["_law_circuit_here", "_law_rows"] (defScope (top 77)) := ⟨rfl, rfl, rfl, by decide +kernel, rfl, by decide +kernel, by decide +kernel⟩
theorem cal__law_trace (G : Gs K mg) : C8.Cal P w K mg base 4 "_law_trace" (p__law_trace K).sp [] := by
  have c__law_settle := cal__law_settle (P := P) (w := w) (base := base) G
  refine Prm.cal (p__law_trace K) G.d__law_trace G.g__law_trace sc__law_trace (fun _ _ _ _ _ _ us hl => match us, hl with | [_, _], _ => rfl) (fun _ => rfl) (fun cdv A' outer s H E hr => ⟨_, (PSs.nox (pss_cons (psx 2 sc__law_trace.nd (pe_lst (pa_cons (pe_callTy (k_tuple (K := K)) (by rfl) G.f_tuple (by decide +kernel) (pa_cons (pe_lc (own := [("_law_row", 5)]) (g := (gName 5)) (by rfl) sc__law_trace.nd (k_seq (K := K) (pe_ix (k_ix (K := K)) (pvx 0) pe_int (fun _ _ => rfl))) (blkOk_by (by kernel_rfl)) (fun _ _ _ _ _ => (pgx 5 sc__law_trace.nd)) (fun _ _ _ _ _ => pts_nil) (fun _ _ _ _ _ => (pe_ix (k_ix (K := K)) (pvx 5) pe_int (fun _ _ => rfl)))) pa_nil)) pa_nil))) (pss_cons (ps_for PassesOwn.never (by rfl) (k_seq (K := K) (pvx 1)) (pgx 3 sc__law_trace.nd) (pss_cons (psx 4 sc__law_trace.nd (C8.pe_c c__law_settle hr (by decide) (by rfl) (pa_cons (pvx 0) (pa_cons (pe_op (k_plus (K := K)) (pe_callTy (k_tuple (K := K)) (by rfl) G.f_tuple (by decide +kernel) (pa_cons (pvx 3) pa_nil)) (pe_ix (k_ix (K := K)) (pvx 2) (pe_un un_neg pe_int) (fun _ _ => rfl))) pa_nil)))) (pss_one (ps_expr (k_app (K := K) (pvx 2) (pa_cons (pe_callTy (k_tuple (K := K)) (by rfl) G.f_tuple (by decide +kernel) (pa_cons (pe_lc (own := [("_law_row", 5)]) (g := (gName 5)) (by rfl) sc__law_trace.nd (k_seq (K := K) (pe_ix (k_ix (K := K)) (pvx 0) pe_int (fun _ _ => rfl))) (blkOk_by (by kernel_rfl)) (fun _ _ _ _ _ => (pgx 5 sc__law_trace.nd)) (fun _ _ _ _ _ => pts_nil) (fun _ _ _ _ _ => (pe_dget (hu_of hr) (pvx 4) (pe_ix (k_ix (K := K)) (pvx 5) pe_int (fun _ _ => rfl)) (fun _ _ => rfl)))) pa_nil)) pa_nil)))))) (pss_one (ps_ret (pvx 2)))))), ?_⟩)
  rintro ⟨⟨c, rows⟩, hc, h10, hrow⟩ F H
  have hc : WF c := hc
  have h10 : rows.length ≤ 10 := h10
  have hrow : ∀ row ∈ rows, row.length = c.ins.length := hrow
  have h3 := hc.r
  have hi2 := hc.i
  show Ec _ _ [.dat (cD c), .dat (.lst (rows.map bT)), .no, .no, .no, .no] _
  refine ec_set (s := .own (.lst (trs c rows 0))) ((ev_lst (ds := [.tup ((c.regs.map fun r => D.bl r.ini))]) (ea_1 (ev_tupL (ev_own_bor (ev_lcX c.regs rD (fun r => .bl r.ini) (it_tup (ev_ixT (ev_var rfl) ev_int rfl)) (by omega) fun i r hr => ⟨_, _, tg_name, fun _ h => h, ev_ixT (ev_var rfl) ev_int rfl⟩)))) (by simp)).to ?_) ?_
  · show _ = Sl.own (.lst [.tup ((c.regs.map (·.ini)).map D.bl)])
    rw [List.map_map]; rfl
  refine ec_seq (M := fun Γ => ∃ s3 s4 s5, Γ = [.dat (cD c), .dat (.lst (rows.map bT)), .own (.lst (trs c rows rows.length)), s3, s4, s5]) ?_ ?_
  · refine ec_forX rows (fun _ b => bT b) (ds := rows.map bT) (it_list (ev_var rfl)) (fun i d h => map_get h) (by rw [List.length_map]) (fun i Γ => ∃ s3 s4 s5, Γ = [.dat (cD c), .dat (.lst (rows.map bT)), .own (.lst (trs c rows i)), s3, s4, s5]) ⟨_, _, _, rfl⟩ ?_ ?_
    · rintro i row _ hr ⟨s3, s4, s5, rfl⟩
      have hi := (List.getElem?_eq_some_iff.mp hr).1
      have hl := hrow row (List.mem_of_getElem? hr)
      have sol := Vc_sol hc hr hl
      have hlen : (row ++ tr c rows i).length = (src c).length := by
        unfold src
        rw [List.length_append, List.length_append, List.length_map, tr_len, hl]
      have htl : (tr c rows i).length ≤ 3 := by rw [tr_len]; exact h3
      refine ⟨_, _, tg_name, ?_⟩
      refine ec_setR (ev_call (p := p__law_settle K) (⟨(c, row ++ tr c rows i, Vc c rows i), hc, sol, hlen⟩ : A_sol) (ea_cons (ev_var rfl) (ea_1 ((ev_op (ev_tupT (ds := row.map .bl) (ev_var rfl)) (ev_ixL (ev_own rfl) (ev_neg ev_int) (trs_last i)) (oe_addU (by rw [List.length_map, List.length_map]; omega))).to ?_))) fits_pure rfl) ?_
      · rw [← List.map_append]
      rintro _ ⟨⟨kvs, rfl, hs⟩, _⟩
      refine ⟨(fun o h => nomatch h), ?_⟩
      refine ec_app (d := bT (tr c rows (i + 1))) rfl ((ev_tupL (ev_own_bor (ev_lcX c.regs rD (fun r => .bl (Vc c rows i r.net)) (it_tup (ev_ixT (ev_var rfl) ev_int rfl)) (by omega) fun j r hr => ⟨_, _, tg_name, fun _ h => h, ev_dget (k := .inr r.net) (ev_own rfl) (ev_ixT (d := .str r.net) (ev_var rfl) ev_int rfl) (hs r.net (hc.reg r (List.mem_of_getElem? hr)).net)⟩))).to ?_) (by rw [trs_len]; omega) ⟨_, _, _, by rw [trs_succ]; rfl⟩
      unfold bT
      show _ = Sl.dat (.tup ((c.regs.map fun r => VS c (rows.getD i [] ++ tr c rows i) r.net).map D.bl))
      rw [List.map_map]; rfl
    · rintro _ ⟨s3, s4, s5, rfl⟩
      exact ⟨_, _, _, rfl⟩
  · rintro _ ⟨s3, s4, s5, rfl⟩
    exact ec_retO rfl rfl
end Sg
/-! W20: the pool of the draws: _law_pool, _law_spread, _law_draw. -/
namespace Sg
open PySem PySem.Spec PyProof.Rows L2 Dn
variable {P : Program} {w : World} {K : PySem.W.Frag} {mg : Str → Option Value} {base : Heap}
def pl (a : Addr) (i r n s : Int) : List V := [.ref a, .int i, .int r, .int n, .int s]
/-- the pool at p -/
def PoolJ (p : Addr) (F H : Hp) : Prop := ∃ a ns i r n s, H p = some (.lst (pl a i r n s)) ∧ F a = some (.lst (List.map V.int ns)) ∧ 0 ≤ i
theorem PoolJ.st {p : Addr} {F H F' H' : Hp} (h : PoolJ p F H) (l : Le F F') (k : ∀ a, a = p → H' a = H a) : PoolJ p F' H' := by
  obtain ⟨a, ns, i, r, n, s, e, f, h0⟩ := h
  exact ⟨a, ns, i, r, n, s, by rw [k p rfl]; exact e, l _ _ f, h0⟩
def plW (p : Addr) (F H : Hp) : Wd := ⟨fun a => a = p, PoolJ p, fun {_ _ _ _} h l k => h.st l k, F, H⟩
/-- a def that draws from the pool, its first parameter -/
def plP {A : Type} (args : A → List Sl) (res : A → Sl → Prop) : Prm (Addr × A) := ⟨fun x a => a = x.1, fun x => PoolJ x.1, fun _ {_ _ _ _} h l k => h.st l k, fun x => .raw (.ref x.1) :: args x.2, fun x => res x.2⟩
theorem fits_pl {A : Type} {args : A → List Sl} {res : A → Sl → Prop} {p : Addr} {x : A} {F H : Hp} : Fits (plW p F H) (plP args res) (p, x) := ⟨fun _ h => h, fun _ _ s => s.j, fun _ _ _ _ _ g => g.ok.j⟩

/-! ### readings with the pool known -/
section
variable {W : Wd} {p a : Addr} {ns : List Int} {i r n s : Int}
def RdX (W : Wd) (p a : Addr) (ns : List Int) (i r n s : Int) (te : TE) (Γ : List Sl) (v : V) : Prop := ∀ σ F H, Ok W Γ σ F H → H p = some (.lst (pl a i r n s)) → F a = some (.lst (ns.map .int)) → ∀ Q : VK, Q v H → te σ H Q
def TdX (W : Wd) (p a : Addr) (ns : List Int) (i r n s : Int) (tt : TT) (Γ : List Sl) (b : Bool) : Prop := ∀ σ F H, Ok W Γ σ F H → H p = some (.lst (pl a i r n s)) → F a = some (.lst (ns.map .int)) → ∀ Q : Bool → Hp → Prop, Q b H → tt σ H Q
def EcX (W : Wd) (p a : Addr) (ns : List Int) (i r n s : Int) (t : TS) (Γ : List Sl) (R : Int → Prop) : Prop := ∀ σ F H, Ok W Γ σ F H → H p = some (.lst (pl a i r n s)) → F a = some (.lst (ns.map .int)) → ∀ Z : Ends, (∀ w F' H', Gr W W.F0 W.H0 F' H' → R w → Z.rt (.int w) H') → t Z σ H
variable {Γ : List Sl} {te tu : TE} {x y : Int} {R : Int → Prop} {u t : TS}
theorem rx_var {k : Nat} (h : Γ[k]? = some (.dat (.int x))) : RdX W p a ns i r n s (tVar k) Γ (.int x) := fun σ F H ko hp ha Q q => by
  obtain ⟨v, e, rv⟩ := ko.sl k _ h
  cases rv
  exact ⟨_, e, q⟩
theorem rx_c : RdX W p a ns i r n s (tC (.int x)) Γ (.int x) := fun σ F H ko hp ha Q q => q
theorem rx_at (j : Nat) {ji : Int} {v : V} (h0 : Γ[0]? = some (.raw (.ref p))) (h : (pl a i r n s)[j]? = some v) (hj : ji = (j : Int)) : RdX W p a ns i r n s (tOp (rIx K) (tVar 0) (tC (.int ji))) Γ v := fun σ F H ko hp ha Q q =>
  ⟨_, ko.sl 0 _ h0, .inl ⟨p, _, ji, v, rfl, rfl, SqL.of hp, by rw [hj]; exact atI_n h, q⟩⟩
theorem rx_cell {x : Int} (h0 : Γ[0]? = some (.raw (.ref p))) (h : atI (ns.map V.int) i = some (.int x)) : RdX W p a ns i r n s (tOp (rIx K) (tOp (rIx K) (tVar 0) (tC (.int 0))) (tOp (rIx K) (tVar 0) (tC (.int 1)))) Γ (.int x) := fun σ F H ko hp ha Q q =>
  rx_at 0 (v := .ref a) h0 rfl rfl σ F H ko hp ha _ (rx_at 1 (v := .int i) h0 rfl rfl σ F H ko hp ha _ (.inl ⟨a, _, i, _, rfl, rfl, SqL.of (ko.ok.le _ _ ha), h, q⟩))
theorem rx_len (h0 : Γ[0]? = some (.raw (.ref p))) : RdX W p a ns i r n s (tCB (Dn.rLen K) (tCons (tOp (rIx K) (tVar 0) (tC (.int 0))) tNil)) Γ (.int ns.length) := fun σ F H ko hp ha Q q =>
  rx_at 0 (v := .ref a) h0 rfl rfl σ F H ko hp ha _ (.inl ⟨a, _, rfl, .inl (SqL.of (ko.ok.le _ _ ha)), by rw [List.length_map]; exact q⟩)
theorem rx_0 {g : Int → Int → V} (h : RdX W p a ns i r n s te Γ (.int x)) (h2 : RdX W p a ns i r n s tu Γ (.int y)) : RdX W p a ns i r n s (tOp (rI0 g) te tu) Γ (g x y) := fun σ F H ko hp ha Q q =>
  h σ F H ko hp ha _ (h2 σ F H ko hp ha _ ⟨x, y, rfl, rfl, q⟩)
theorem rx_C {C : Int → Int → Prop} {g : Int → Int → V} (h : RdX W p a ns i r n s te Γ (.int x)) (h2 : RdX W p a ns i r n s tu Γ (.int y)) (hc : C x y) : RdX W p a ns i r n s (tOp (rI C g) te tu) Γ (g x y) := fun σ F H ko hp ha Q q =>
  h σ F H ko hp ha _ (h2 σ F H ko hp ha _ ⟨x, y, rfl, rfl, hc, q⟩)
theorem rx_M (h : RdX W p a ns i r n s te Γ (.int x)) (h2 : RdX W p a ns i r n s tu Γ (.int y)) (hc : 0 < y) : RdX W p a ns i r n s (tOp (rI (fun _ j => 0 < j) fun i j => .int (i % j)) te tu) Γ (.int (x % y)) := rx_C (g := fun i j => .int (i % j)) h h2 hc
theorem rx_D (h : RdX W p a ns i r n s te Γ (.int x)) (h2 : RdX W p a ns i r n s tu Γ (.int y)) (hc : CDiv x y) : RdX W p a ns i r n s (tOp (rI CDiv fun i j => .int (i / j)) te tu) Γ (.int (x / y)) := rx_C (g := fun i j => .int (i / j)) h h2 hc
theorem rx_add (h : RdX W p a ns i r n s te Γ (.int x)) (h2 : RdX W p a ns i r n s tu Γ (.int y)) : RdX W p a ns i r n s (tOp (rPlus K) te tu) Γ (.int (x + y)) := fun σ F H ko hp ha Q q =>
  h σ F H ko hp ha _ (h2 σ F H ko hp ha _ (.inl ⟨x, y, rfl, rfl, q⟩))
theorem rx_mul (h : RdX W p a ns i r n s te Γ (.int x)) (h2 : RdX W p a ns i r n s tu Γ (.int y)) (hc : CMul x y) : RdX W p a ns i r n s (tOp rTimes te tu) Γ (.int (x * y)) := fun σ F H ko hp ha Q q =>
  h σ F H ko hp ha _ (h2 σ F H ko hp ha _ (.inl ⟨x, y, rfl, rfl, hc, q⟩))
theorem rx_int (h : RdX W p a ns i r n s te Γ (.int x)) : RdX W p a ns i r n s (tCB rInt (tCons te tNil)) Γ (.int x) := fun σ F H ko hp ha Q q => h σ F H ko hp ha _ (.inl ⟨x, rfl, q⟩)
theorem tx_test {b : Bool} (h : RdX W p a ns i r n s te Γ (.bl b)) : TdX W p a ns i r n s (tTest te) Γ b := fun σ F H ko hp ha Q q => h σ F H ko hp ha _ ⟨b, rfl, q⟩
theorem tx_and {t u : TT} {b c : Bool} (h : TdX W p a ns i r n s t Γ b) (h2 : TdX W p a ns i r n s u Γ c) : TdX W p a ns i r n s (tAnd t u) Γ (b && c) := fun σ F H ko hp ha Q q => h σ F H ko hp ha _ (by
  cases b with
  | true => exact h2 σ F H ko hp ha _ q
  | false => exact q)
theorem ex_set {k : Nat} (h : RdX W p a ns i r n s te Γ (.int x)) (e : EcX W p a ns i r n s u (Γ.set k (.dat (.int x))) R) : EcX W p a ns i r n s (tSeq (tAsg te (gName k)) u) Γ R := fun σ F H ko hp ha Z q =>
  h σ F H ko hp ha _ (e _ F H (ko.set (s := .dat (.int x)) (.refl ko.ok) (.int x) (fun _ h => nomatch h) k) hp ha Z q)
theorem ex_ret (h : RdX W p a ns i r n s te Γ (.int x)) (e : R x) : EcX W p a ns i r n s (tRet te) Γ R := fun σ F H ko hp ha Z q => h σ F H ko hp ha _ (q x F H ko.g e)
theorem ex_retS (h : RdX W p a ns i r n s te Γ (.int x)) (e : R x) : EcX W p a ns i r n s (tSeq (tRet te) u) Γ R := fun σ F H ko hp ha Z q => h σ F H ko hp ha _ (q x F H ko.g e)
theorem ex_if {tt : TT} {b : Bool} (h : TdX W p a ns i r n s tt Γ b) (h1 : b = true → EcX W p a ns i r n s (tSeq t u) Γ R) (h2 : b = false → EcX W p a ns i r n s u Γ R) : EcX W p a ns i r n s (tSeq (tIfS tt t tNext) u) Γ R := fun σ F H ko hp ha Z q =>
  h σ F H ko hp ha _ (by
    cases b with
    | true => rw [if_pos rfl]; exact h1 rfl σ F H ko hp ha Z q
    | false => rw [if_neg Bool.false_ne_true]; exact h2 rfl σ F H ko hp ha Z q)
theorem pl_put {F H : Hp} (ko : Sok W F H) (hm : W.M p) (hJ : ∀ F H, PoolJ p F H → W.J F H) {i' r' n' s' : Int} (ha : F a = some (.lst (List.map V.int ns))) (h0 : 0 ≤ i') : Gr W F H F (upd H p (.lst (pl a i' r' n' s'))) :=
  .putM ko hm (hJ _ _ ⟨a, ns, i', r', n', s', upd_same, ha, h0⟩)
/-- pool[j] = e -/
theorem ex_put {i' r' n' s' ji : Int} (j : Nat) (hji : ji = (j : Int)) (h0 : Γ[0]? = some (.raw (.ref p))) (hm : W.M p) (hJ : ∀ F H, PoolJ p F H → W.J F H) (h : RdX W p a ns i r n s te Γ (.int x)) (hj : j < 5) (e1 : (pl a i r n s).set j (.int x) = pl a i' r' n' s') (hi : 0 ≤ i')
    (e : EcX W p a ns i' r' n' s' u Γ R) : EcX W p a ns i r n s (tSeq (tAsg te (gSub (tVar 0) (tC (.int ji)) rSetL)) u) Γ R := fun σ F H ko hp ha Z q =>
  h σ F H ko hp ha _ ⟨.ref p, ko.sl 0 _ h0, p, pl a i r n s, ji, j, rfl, rfl, hp, by rw [hji]; unfold ixN; rw [if_pos (Int.natCast_nonneg j), if_pos (by show (j : Int) < 5; omega), Int.toNat_natCast], by
    rw [e1]
    exact e σ F _ (ko.gr (pl_put ko.ok hm hJ ha hi)) upd_same ha Z q⟩
theorem ex_put1 (h0 : Γ[0]? = some (.raw (.ref p))) (hm : W.M p) (hJ : ∀ F H, PoolJ p F H → W.J F H) (h : RdX W p a ns i r n s te Γ (.int x)) (hi : 0 ≤ x) (e : EcX W p a ns x r n s u Γ R) : EcX W p a ns i r n s (tSeq (tAsg te (gSub (tVar 0) (tC (.int 1)) rSetL)) u) Γ R := ex_put (i' := x) (r' := r) (n' := n) (s' := s) 1 rfl h0 hm hJ h (by decide) rfl hi e
theorem ex_put2 (h0 : Γ[0]? = some (.raw (.ref p))) (hm : W.M p) (hJ : ∀ F H, PoolJ p F H → W.J F H) (h : RdX W p a ns i r n s te Γ (.int x)) (hi : 0 ≤ i) (e : EcX W p a ns i x n s u Γ R) : EcX W p a ns i r n s (tSeq (tAsg te (gSub (tVar 0) (tC (.int 2)) rSetL)) u) Γ R := ex_put (i' := i) (r' := x) (n' := n) (s' := s) 2 rfl h0 hm hJ h (by decide) rfl hi e
theorem ex_put3 (h0 : Γ[0]? = some (.raw (.ref p))) (hm : W.M p) (hJ : ∀ F H, PoolJ p F H → W.J F H) (h : RdX W p a ns i r n s te Γ (.int x)) (hi : 0 ≤ i) (e : EcX W p a ns i r x s u Γ R) : EcX W p a ns i r n s (tSeq (tAsg te (gSub (tVar 0) (tC (.int 3)) rSetL)) u) Γ R := ex_put (i' := i) (r' := r) (n' := x) (s' := s) 3 rfl h0 hm hJ h (by decide) rfl hi e
theorem ex_as {b : TS} (e : EcX W p a ns i r n s (tSeq t (tSeq b u)) Γ R) : EcX W p a ns i r n s (tSeq (tSeq t b) u) Γ R := e
/-- pool[2] = a call -/
theorem ex_putR (h0 : Γ[0]? = some (.raw (.ref p))) (hm : W.M p) (hJ : ∀ F H, PoolJ p F H → W.J F H) (hJ2 : ∀ F H, Sok W F H → PoolJ p F H) (h : Ev W te Γ fun t => ∃ x : Int, t = .dat (.int x))
    (e : ∀ a ns i r n s, 0 ≤ i → EcX W p a ns i r n s u Γ R) : EcX W p a ns i r n s (tSeq (tAsg te (gSub (tVar 0) (tC (.int 2)) rSetL)) u) Γ R := fun σ F H ko hp ha Z q =>
  h σ F H ko _ fun v F1 H1 t g ⟨x, et⟩ z => by
    subst et
    cases (show Rep F1 v (.int x) from z)
    have k1 := ko.gr g
    obtain ⟨a1, ns1, i1, r1, n1, s1, hp1, ha1, h01⟩ := hJ2 _ _ k1.ok
    refine ⟨.ref p, k1.sl 0 _ h0, p, pl a1 i1 r1 n1 s1, 2, 2, rfl, rfl, hp1, rfl, ?_⟩
    exact e a1 ns1 i1 x n1 s1 h01 σ F1 _ (k1.gr (pl_put k1.ok hm hJ ha1 h01)) upd_same ha1 Z q
theorem ex_cut {m : Int} (hu : ∀ a ns i r n s s2 s3 s4, 0 ≤ i → EcX W p a ns i r n s u [.raw (.ref p), .dat (.int m), s2, s3, s4] R) (h : (∀ a ns i r n s s2 s3 s4, 0 ≤ i → EcX W p a ns i r n s u [.raw (.ref p), .dat (.int m), s2, s3, s4] R) → EcX W p a ns i r n s (tSeq t u) Γ R) : EcX W p a ns i r n s (tSeq t u) Γ R := h hu
end
def p__law_spread (K : PySem.W.Frag) : Prm Int := .pu (fun i => [.dat (.int i)]) fun _ s => ∃ v : Int, s = .dat (.int v)
theorem sc__law_spread : FnScope ["_law_cell", "_law_mixed", "_law_total", "_law_k"] ["_law_cell"] (defScope (top 50)) := ⟨rfl, rfl, rfl, by decide +kernel, rfl, by decide +kernel, by decide +kernel⟩
theorem cal__law_spread (G : Gs K mg) : C8.Cal P w K mg base 1 "_law_spread" (p__law_spread K).sp [] := by
  refine Prm.cal (p__law_spread K) G.d__law_spread G.g__law_spread sc__law_spread (fun _ _ _ _ _ _ us hl => match us, hl with | [_], _ => rfl) (fun _ => rfl) (fun cdv A' outer s H E hr => ⟨_, (PSs.nox (pss_cons (psx 1 sc__law_spread.nd (pe_op op_mod (pe_callTy cr_int (by rfl) G.f_int (by decide +kernel) (pa_cons (pvx 0) pa_nil)) pe_int)) (pss_cons (psx 2 sc__law_spread.nd pe_int) (pss_cons (ps_for PassesOwn.never (by rfl) (pi_range1 (by rfl) G.f_range (pa_cons pe_int pa_nil)) (pgx 3 sc__law_spread.nd) (pss_cons (psx 1 sc__law_spread.nd (pe_op op_mod (pe_callTy cr_int (by rfl) G.f_int (by decide +kernel) (pa_cons (pe_op (k_plus (K := K)) (pe_op (k_plus (K := K)) (pe_op op_times (pvx 1) pe_int) pe_int) (pvx 3)) pa_nil)) pe_int)) (pss_one (psx 2 sc__law_spread.nd (pe_op (k_plus (K := K)) (pe_op op_times (pvx 2) pe_int) (pvx 1)))))) (pss_one (ps_ret (pvx 2))))))), ?_⟩)
  rintro i F H
  show Ec _ _ [.dat (.int i), .no, .no, .no] _
  refine ec_set (ev_bc (ev_intI (ev_var rfl)) ev_int (by show (0 : Int) < 2147483647; decide)) ?_
  refine ec_set ev_int ?_
  refine ec_seq (M := fun Γ => ∃ m t s3, Γ = [.dat (.int i), .dat (.int m), .dat (.int t), s3]) ?_ ?_
  · refine ec_forX (List.range 4) (fun r _ => .int (0 + (r : Nat))) (ds := rngD 0 4) (it_rng1 (n := 4) (ea_1 ev_int) (by decide)) (rng_at 0 _) (by rw [rngD_len, List.length_range]) (fun _ Γ => ∃ m t s3, Γ = [.dat (.int i), .dat (.int m), .dat (.int t), s3]) ⟨_, _, _, rfl⟩ ?_ fun _ h => h
    rintro k r _ hr ⟨m, t, s3, rfl⟩
    refine ⟨_, _, tg_name, ?_⟩
    refine ec_set (ev_bc (ev_intI (ev_add (ev_add (ev_mul (ev_var rfl) ev_int (.inr ⟨by decide, by decide⟩)) ev_int) (ev_var rfl))) ev_int (by show (0 : Int) < 2147483647; decide)) ?_
    exact ec_asg (s := .dat (.int (t * 2147483647 + _))) (ev_add (ev_mul (ev_var rfl) ev_int (.inr ⟨by decide, by decide⟩)) (ev_var rfl)) (fun o h => nomatch h) ⟨_, _, _, rfl⟩
  · rintro _ ⟨m, t, s3, rfl⟩
    exact ec_ret (ev_var rfl) ⟨t, rfl⟩
abbrev A_dr := {m : Int // 0 < m ∧ m < 1073741824}
def p__law_draw (K : PySem.W.Frag) : Prm (Addr × A_dr) := plP (fun m => [.dat (.int m.1)]) fun m s => ∃ v : Nat, s = .dat (.int v) ∧ (v : Int) < m.1
theorem sc__law_draw : FnScope ["_law_pool_here", "_law_many", "_law_value_here", "_law_cell", "_law_mixed"] ["_law_pool_here", "_law_many"] (defScope (top 51)) := ⟨rfl, rfl, rfl, by decide +kernel, rfl, by decide +kernel, by decide +kernel⟩
theorem cal__law_draw (G : Gs K mg) : C8.Cal P w K mg base 2 "_law_draw" (p__law_draw K).sp [] := by
  have c__law_spread := cal__law_spread (P := P) (w := w) (base := base) G
  refine Prm.cal (p__law_draw K) G.d__law_draw G.g__law_draw sc__law_draw (fun _ _ _ _ _ _ us hl => match us, hl with | [_, _], _ => rfl) (fun _ => rfl) (fun cdv A' outer s H E hr => ⟨_, (PSs.nox (pss_cons (ps_if (PW.pt (pw_and (pt_cmpR op_le (pe_ix (k_ix (K := K)) (pvx 0) pe_int (fun _ _ => rfl)) pe_int (nomark _)) (pw_and1 (pt_cmpR op_lt (pe_ix (k_ix (K := K)) (pvx 0) pe_int (fun _ _ => rfl)) (pe_callB (k_len (K := K)) (by rfl) G.f_len (by decide +kernel) (pa_cons (pe_ix (k_ix (K := K)) (pvx 0) pe_int (fun _ _ => rfl)) pa_nil)) (nomark _))))) (pss_cons (psx 3 sc__law_draw.nd (pe_ix (k_ix (K := K)) (pe_ix (k_ix (K := K)) (pvx 0) pe_int (fun _ _ => rfl)) (pe_ix (k_ix (K := K)) (pvx 0) pe_int (fun _ _ => rfl)) (fun _ _ => rfl))) (pss_cons (ps_asg (pe_op (k_plus (K := K)) (pe_ix (k_ix (K := K)) (pvx 0) pe_int (fun _ _ => rfl)) pe_int) (pg_sub (pvx 0) pe_int set_list)) (pss_cons (ps_asg (pvx 3) (pg_sub (pvx 0) pe_int set_list)) (pss_one (ps_if (pt_cmpR op_lt (pvx 3) pe_int (nomark _)) (pss_one (ps_asg (C8.pe_c c__law_spread hr (by decide) (by rfl) (pa_cons (pvx 3) pa_nil)) (pg_sub (pvx 0) pe_int set_list))) pss_nil))))) pss_nil) (pss_cons (ps_asg (pe_op (k_plus (K := K)) (pe_ix (k_ix (K := K)) (pvx 0) pe_int (fun _ _ => rfl)) pe_int) (pg_sub (pvx 0) pe_int set_list)) (pss_cons (ps_if (pt_cmpR op_le (pe_ix (k_ix (K := K)) (pvx 0) pe_int (fun _ _ => rfl)) pe_int (nomark _)) (pss_cons (psx 4 sc__law_draw.nd (pe_op op_mod (pe_callTy cr_int (by rfl) G.f_int (by decide +kernel) (pa_cons (pe_op (k_plus (K := K)) (pe_op (k_plus (K := K)) (pe_op op_times (pe_ix (k_ix (K := K)) (pvx 0) pe_int (fun _ _ => rfl)) pe_int) (pe_op op_times (pe_ix (k_ix (K := K)) (pvx 0) pe_int (fun _ _ => rfl)) pe_int)) pe_int) pa_nil)) pe_int)) (pss_cons (psx 4 sc__law_draw.nd (pe_op op_mod (pe_callTy cr_int (by rfl) G.f_int (by decide +kernel) (pa_cons (pe_op (k_plus (K := K)) (pe_op op_times (pvx 4) pe_int) (pe_ix (k_ix (K := K)) (pvx 0) pe_int (fun _ _ => rfl))) pa_nil)) pe_int)) (pss_one (ps_ret (pe_op op_mod (pe_op op_fdiv (pvx 4) pe_int) (pvx 1)))))) pss_nil) (pss_cons (psx 2 sc__law_draw.nd (pe_op op_mod (pe_callTy cr_int (by rfl) G.f_int (by decide +kernel) (pa_cons (pe_ix (k_ix (K := K)) (pvx 0) pe_int (fun _ _ => rfl)) pa_nil)) (pvx 1))) (pss_cons (ps_asg (pe_op op_fdiv (pe_ix (k_ix (K := K)) (pvx 0) pe_int (fun _ _ => rfl)) (pvx 1)) (pg_sub (pvx 0) pe_int set_list)) (pss_one (ps_ret (pvx 2))))))))), ?_⟩)
  rintro ⟨p, m, hm, hm2⟩ F0 H0
  show Ec (plW p F0 H0) _ [.raw (.ref p), .dat (.int m), .no, .no, .no] _
  intro σ F H ko Z nx rt br ct
  obtain ⟨a, ns, i, r, n, s, hp, ha, h0⟩ := ko.ok.j
  have M : (plW p F0 H0).M p := rfl
  have J : ∀ F H, PoolJ p F H → (plW p F0 H0).J F H := fun _ _ h => h
  have md : ∀ x : Int, 0 ≤ x % m ∧ x % m < m := fun x => ⟨Int.emod_nonneg _ (by omega), Int.emod_lt_of_pos _ hm⟩
  refine (?_ : EcX (plW p F0 H0) p a ns i r n s _ _ (fun w => 0 ≤ w ∧ w < m)) σ F H ko hp ha Z fun w F' H' g hw => rt _ F' H' (.dat (.int w)) g (fun o h => nomatch h) ⟨w.toNat, by rw [Int.toNat_of_nonneg hw.1], by show ((w.toNat : Nat) : Int) < m; have := hw.1; have := hw.2; omega⟩ (.int w)
  refine ex_cut (m := m) ?_ fun fin => ?_
  · intro a ns i r n s s2 s3 s4 h0
    refine ex_put3 (x := n + 1) rfl M J (by exact rx_add (rx_at 3 rfl rfl rfl) rx_c) h0 ?_
    refine ex_if (b := decide (r ≤ 0)) (by exact tx_test (rx_0 (g := fun i j => .bl (decide (i ≤ j))) (rx_at 2 rfl rfl rfl) rx_c)) (fun _ => ?_) fun _ => ?_
    · refine ex_as (ex_set (x := (s * 48271 + (n + 1) * 69621 + 1) % 2147483647) (by exact rx_M (rx_int (rx_add (rx_add (rx_mul (rx_at 4 rfl rfl rfl) rx_c (.inr ⟨by decide, by decide⟩)) (rx_mul (rx_at 3 rfl rfl rfl) rx_c (.inr ⟨by decide, by decide⟩))) rx_c)) rx_c (by decide)) ?_)
      generalize (s * 48271 + (n + 1) * 69621 + 1) % 2147483647 = y1
      refine ex_as (ex_set (x := (y1 * 16807 + (n + 1)) % 2147483629) (by exact rx_M (rx_int (rx_add (rx_mul (rx_var rfl) rx_c (.inr ⟨by decide, by decide⟩)) (rx_at 3 rfl rfl rfl))) rx_c (by decide)) ?_)
      generalize (y1 * 16807 + (n + 1)) % 2147483629 = y2
      exact ex_retS (x := y2 / 5 % m) (by exact rx_M (rx_D (rx_var rfl) rx_c ⟨by decide, by decide⟩) (rx_var rfl) hm) (md _)
    · refine ex_set (x := r % m) (by exact rx_M (rx_int (rx_at 2 rfl rfl rfl)) (rx_var rfl) hm) ?_
      refine ex_put2 (x := r / m) rfl M J (by exact rx_D (rx_at 2 rfl rfl rfl) (rx_var rfl) ⟨hm, hm2⟩) h0 ?_
      exact ex_ret (x := r % m) (by exact rx_var rfl) (md _)
  · refine ex_if (b := decide (r ≤ 0) && decide (i < (ns.length : Int))) (by exact tx_and (tx_test (rx_0 (g := fun i j => .bl (decide (i ≤ j))) (rx_at 2 rfl rfl rfl) rx_c)) (tx_test (rx_0 (g := fun i j => .bl (decide (i < j))) (rx_at 1 rfl rfl rfl) (rx_len rfl)))) (fun hb => ?_) fun _ => fin _ _ _ _ _ _ _ _ _ h0
    rw [Bool.and_eq_true] at hb
    have hi := of_decide_eq_true hb.2
    have hin : i.toNat < ns.length := by omega
    have at_ : atI (ns.map V.int) i = some (.int ns[i.toNat]) := by
      have := atI_n (xs := ns.map V.int) (n := i.toNat) (d := .int ns[i.toNat]) (by rw [List.getElem?_map, List.getElem?_eq_getElem hin]; rfl)
      rwa [Int.toNat_of_nonneg h0] at this
    generalize ns[i.toNat] = x at at_
    refine ex_as (ex_set (x := x) (by exact rx_cell rfl at_) ?_)
    refine ex_as (ex_put1 (x := i + 1) rfl M J (by exact rx_add (rx_at 1 rfl rfl rfl) rx_c) (by omega) ?_)
    refine ex_as (ex_put2 (x := x) rfl M J (by exact rx_var rfl) (by omega) ?_)
    refine ex_if (b := decide (x < 1000000000000000000)) (by exact tx_test (rx_0 (g := fun i j => .bl (decide (i < j))) (rx_var rfl) rx_c)) (fun _ => ?_) fun _ => fin _ _ _ _ _ _ _ _ _ (by omega)
    exact ex_putR rfl M J (fun _ _ s => s.j) ((ev_call (p := p__law_spread K) x (ea_1 (ev_var rfl)) fits_pure rfl).imp fun s h => h.1) fun a ns i r n s h => fin _ _ _ _ _ _ _ _ _ h
/-! the pool laid out -/
abbrev A_po := {ns : List Int // ns.length ≤ 1000}
def p__law_pool (K : PySem.W.Frag) : Prm A_po := .pu (fun ns => [.dat (.lst (ns.1.map .int))]) fun ns s => ∃ x : Int, s = .own (.lst [.lst (ns.1.map .int), .int 0, .int 0, .int 0, .int x])
theorem sc__law_pool : FnScope ["_law_script", "_law_salt", "_law_cell"] ["_law_script"] (defScope (top 49)) := ⟨rfl, rfl, rfl, by decide +kernel, rfl, by decide +kernel, by decide +kernel⟩
theorem cal__law_pool (G : Gs K mg) : C8.Cal P w K mg base 1 "_law_pool" (p__law_pool K).sp [] := by
  refine Prm.cal (p__law_pool K) G.d__law_pool G.g__law_pool sc__law_pool (fun _ _ _ _ _ _ us hl => match us, hl with | [_], _ => rfl) (fun _ => rfl) (fun cdv A' outer s H E hr => ⟨_, (PSs.nox (pss_cons (psx 1 sc__law_pool.nd pe_int) (pss_cons (ps_for PassesOwn.never (by rfl) (k_seq (K := K) (pe_slice (k_slL (K := K)) (pvx 0) po_none (po_some pe_int))) (pgx 2 sc__law_pool.nd) (pss_one (psx 1 sc__law_pool.nd (pe_op op_mod (pe_callTy cr_int (by rfl) G.f_int (by decide +kernel) (pa_cons (pe_op (k_plus (K := K)) (pe_op op_times (pvx 1) pe_int) (pvx 2)) pa_nil)) pe_int)))) (pss_one (ps_ret (pe_lst (pa_cons (pe_callTy (k_list (K := K)) (by rfl) G.f_list (by decide +kernel) (pa_cons (pvx 0) pa_nil)) (pa_cons pe_int (pa_cons pe_int (pa_cons pe_int (pa_cons (pvx 1) pa_nil))))))))))), ?_⟩)
  rintro ⟨ns, hn⟩ F H
  show Ec _ _ [.dat (.lst (ns.map .int)), .no, .no] _
  refine ec_set ev_int ?_
  refine ec_seq (M := fun Γ => ∃ x s2, Γ = [.dat (.lst (ns.map .int)), .dat (.int x), s2]) ?_ ?_
  · refine ec_forR (S := fun ds => ∃ ms : List Int, ds = ms.map .int) ((it_list (ev_fL (ev_slL (ev_bL (ev_var rfl)) eo_none (eo_some ev_int)))).imp fun ds e => ?_) (fun _ _ Γ => ∃ x s2, Γ = [.dat (.lst (ns.map .int)), .dat (.int x), s2]) (fun _ _ => ⟨_, _, rfl⟩) ?_ fun _ _ _ h => h
    · subst e
      rw [← List.map_drop, ← List.map_take]
      exact ⟨_, rfl⟩
    · rintro ds i d _ ⟨ms, rfl⟩ hd ⟨x, s2, rfl⟩
      obtain ⟨y, _, rfl⟩ := map_get hd
      refine ⟨_, _, tg_name, ?_⟩
      exact ec_asg (ev_bc (ev_intI (ev_add (ev_mul (ev_var rfl) ev_int (.inr ⟨by decide, by decide⟩)) (ev_var rfl))) ev_int (by show (0 : Int) < 1000003; decide)) (fun o h => nomatch h) ⟨_, _, rfl⟩
  · rintro _ ⟨x, s2, rfl⟩
    exact ec_ret (s := .own (.lst [.lst (ns.map .int), .int 0, .int 0, .int 0, .int x])) (ev_lst (ea_cons (ev_fL (ev_listL (ev_bL (ev_var rfl)))) (ea_cons ev_int (ea_cons ev_int (ea_cons ev_int (ea_1 (ev_var rfl)))))) (by simp)) ⟨x, rfl⟩
end Sg
/-! W21: draws of names, spans, times. -/
namespace Sg
open PySem PySem.Spec PyProof.Rows L2 Dn
variable {P : Program} {w : World} {K : PySem.W.Frag} {mg : Str → Option Value} {base : Heap}
/-- a number below m -/
def ltN (m : Int) : Sl → Prop := fun s => ∃ v : Nat, s = .dat (.int v) ∧ (v : Int) < m
def isI (S : Int → Prop) : Sl → Prop := fun s => ∃ i, s = .dat (.int i) ∧ S i
def isS (S : Str → Prop) : Sl → Prop := fun s => ∃ i, s = .dat (.str i) ∧ S i
section
variable {W : Wd} {Γ : List Sl} {ta tb : TE} {S T U : Int → Prop}
theorem ev_draw {p : Addr} {F H : Hp} {m : Int} (h0 : Γ[0]? = some (.raw (.ref p))) (h : EvE (plW p F H) ta Γ (.dat (.int m))) (h1 : 0 < m) (h2 : m < 1073741824) : Ev (plW p F H) (tCall (p__law_draw K).sp [] C8.E0 (tCons (tVar 0) (tCons ta tNil))) Γ (ltN m) :=
  (ev_call (p := p__law_draw K) ((p, ⟨m, h1, h2⟩) : Addr × A_dr) (ea_cons (ev_raw h0) (ea_1 h)) fits_pl rfl).imp fun s h => h.1
theorem ir_of {i : Int} (h : EvE W ta Γ (.dat (.int i))) (hs : S i) : Ev W ta Γ (isI S) := h.ev ⟨i, rfl, hs⟩
theorem ir_lt {m : Int} (h : Ev W ta Γ (ltN m)) (hs : ∀ v : Nat, (v : Int) < m → S v) : Ev W ta Γ (isI S) := h.imp fun s ⟨v, e, hv⟩ => ⟨v, e, hs v hv⟩
theorem ir_add (h : Ev W ta Γ (isI S)) (h2 : Ev W tb Γ (isI T)) (hs : ∀ i j, S i → T j → U (i + j)) : Ev W (tOp (rPlus K) ta tb) Γ (isI U) :=
  ev_opR h h2 fun a b ⟨i, e1, q1⟩ ⟨j, e2, q2⟩ => by subst e1 e2; exact ⟨_, ⟨_, rfl, hs i j q1 q2⟩, oe_addI⟩
theorem ev_pick {m : Int} {ds : List D} (ha : EvE W ta Γ (.dat (.tup ds))) (hb : Ev W tb Γ (ltN m)) (hl : m ≤ ds.length) : Ev W (tOp (rIx K) ta tb) Γ fun s => ∃ d ∈ ds, s = .dat d :=
  ev_opR (A := fun s => s = .dat (.tup ds)) (ha.ev rfl) hb fun a b e1 ⟨v, e2, hv⟩ => by
    subst e1 e2
    have hv : v < ds.length := by omega
    exact ⟨.dat ds[v], ⟨ds[v], List.getElem_mem hv, rfl⟩, oe_ixT (atI_n (List.getElem?_eq_getElem hv))⟩
theorem ev_pickL {m : Int} {ds : List D} (ha : EvE W ta Γ (.bor (.lst ds))) (hb : Ev W tb Γ (ltN m)) (hl : m ≤ ds.length) : Ev W (tOp (rIx K) ta tb) Γ fun s => ∃ d ∈ ds, s = .dat d :=
  ev_opR (A := fun s => s = .bor (.lst ds)) (ha.ev rfl) hb fun a b e1 ⟨v, e2, hv⟩ => by
    subst e1 e2
    have hv : v < ds.length := by omega
    exact ⟨.dat ds[v], ⟨ds[v], List.getElem_mem hv, rfl⟩, oe_ixL (atI_n (List.getElem?_eq_getElem hv))⟩
theorem ir_pick {m : Int} {ns : List Int} (ha : EvE W ta Γ (.dat (.tup (ns.map .int)))) (hb : Ev W tb Γ (ltN m)) (hl : m ≤ ns.length) : Ev W (tOp (rIx K) ta tb) Γ (isI (· ∈ ns)) :=
  (ev_pick ha hb (by rw [List.length_map]; exact hl)).imp fun s ⟨d, hd, e⟩ => by
    obtain ⟨i, hi, rfl⟩ := List.mem_map.mp hd
    exact ⟨i, e, hi⟩
theorem sr_pick {m : Int} {ns : List Str} (ha : EvE W ta Γ (.dat (.tup (ns.map .str)))) (hb : Ev W tb Γ (ltN m)) (hl : m ≤ ns.length) : Ev W (tOp (rIx K) ta tb) Γ (isS (· ∈ ns)) :=
  (ev_pick ha hb (by rw [List.length_map]; exact hl)).imp fun s ⟨d, hd, e⟩ => by
    obtain ⟨i, hi, rfl⟩ := List.mem_map.mp hd
    exact ⟨i, e, hi⟩
theorem sr_of {i : Str} {S : Str → Prop} (h : EvE W ta Γ (.dat (.str i))) (hs : S i) : Ev W ta Γ (isS S) := h.ev ⟨i, rfl, hs⟩
theorem sr_add {S T U : Str → Prop} (h : Ev W ta Γ (isS S)) (h2 : Ev W tb Γ (isS T)) (hs : ∀ i j, S i → T j → i.length + j.length ≤ 1000 ∧ U (i ++ j)) : Ev W (tOp (rPlus K) ta tb) Γ (isS U) :=
  ev_opR h h2 fun a b ⟨i, e1, q1⟩ ⟨j, e2, q2⟩ => by subst e1 e2; exact ⟨_, ⟨_, rfl, (hs i j q1 q2).2⟩, oe_addS (hs i j q1 q2).1⟩
end
/-! names -/
/-- the k-th name ends in its number -/
def NameK (k : Nat) (x : Str) : Prop := ∃ l : List Nat, x.cps.toList = l ++ [48 + k] ∨ x.cps.toList = l ++ [48 + k, 98]
theorem NameK.inj {k j : Nat} {x : Str} (h : NameK k x) (h2 : NameK j x) (hk : k < 10) (hj : j < 10) : k = j := by
  obtain ⟨l, h⟩ := h
  obtain ⟨m, h2⟩ := h2
  rcases h with h | h <;> rcases h2 with h2 | h2 <;> rw [h] at h2
  · have := (List.append_inj' h2 rfl).2
    simp at this; omega
  · have e : l ++ [48 + k] = (m ++ [48 + j]) ++ [98] := by rw [h2, List.append_assoc]; rfl
    have := (List.append_inj' e rfl).2
    simp at this; omega
  · have e : (l ++ [48 + k]) ++ [98] = m ++ [48 + j] := by rw [← h2, List.append_assoc]; rfl
    have := (List.append_inj' e rfl).2
    simp at this; omega
  · have := (List.append_inj' h2 rfl).2
    simp at this; omega
theorem str_app (x y : Str) : (x ++ y).cps.toList = x.cps.toList ++ y.cps.toList := by
  show (x.cps ++ y.cps).toList = _
  rw [Array.toList_append]
theorem str_len (x : Str) : x.length = x.cps.toList.length := by
  show x.cps.size = _
  rw [Array.length_toList]
theorem digit : ∀ k, k < 10 → ((toString ((k : Nat) : Int) : String) : Str).cps.toList = [48 + k] := by decide +kernel
abbrev A_nm := {n : Nat // n ≤ 10}
structure NamesOk (xs : List Str) (n : Nat) : Prop where
  len : xs.length = n
  nm : ∀ k x, xs[k]? = some x → NameK k x
def p__law_names (K : PySem.W.Frag) : Prm (Addr × A_nm) := plP (fun n => [.dat (.int (n.1 : Nat))]) fun n s => ∃ xs : List Str, s = .own (.lst (xs.map .str)) ∧ NamesOk xs n.1
theorem sc__law_names : FnScope ["_law_pool_here", "_law_many", "_law_names_here", "_law_k", "_law_letter"] ["_law_pool_here", "_law_many"] (defScope (top 52)) := ⟨rfl, rfl, rfl, by decide +kernel, rfl, by decide +kernel, by decide +kernel⟩
theorem cal__law_names (G : Gs K mg) : C8.Cal P w K mg base 3 "_law_names" (p__law_names K).sp [] := by
  have c__law_draw := cal__law_draw (P := P) (w := w) (base := base) G
  refine Prm.cal (p__law_names K) G.d__law_names G.g__law_names sc__law_names (fun _ _ _ _ _ _ us hl => match us, hl with | [_, _], _ => rfl) (fun _ => rfl) (fun cdv A' outer s H E hr => ⟨_, (PSs.nox (pss_cons (psx 2 sc__law_names.nd (pe_lst pa_nil)) (pss_cons (ps_for PassesOwn.never (by rfl) (pi_range1 (by rfl) G.f_range (pa_cons (pvx 1) pa_nil)) (pgx 3 sc__law_names.nd) (pss_cons (psx 4 sc__law_names.nd (pe_ix (k_ix (K := K)) pe_str (C8.pe_c c__law_draw hr (by decide) (by rfl) (pa_cons (pvx 0) (pa_cons pe_int pa_nil))) (fun _ _ => rfl))) (pss_one (ps_expr (k_app (K := K) (pvx 2) (pa_cons (pe_op (k_plus (K := K)) (pe_op (k_plus (K := K)) (pe_op (k_plus (K := K)) (pvx 4) (pe_ix (k_ix (K := K)) (pe_tup (pa_cons pe_str (pa_cons pe_str (pa_cons pe_str (pa_cons pe_str pa_nil))))) (C8.pe_c c__law_draw hr (by decide) (by rfl) (pa_cons (pvx 0) (pa_cons pe_int pa_nil))) (fun _ _ => rfl))) (pe_callTy cr_str (by rfl) G.f_str (by decide +kernel) (pa_cons (pvx 3) pa_nil))) (pe_ix (k_ix (K := K)) (pe_tup (pa_cons pe_str (pa_cons pe_str pa_nil))) (C8.pe_c c__law_draw hr (by decide) (by rfl) (pa_cons (pvx 0) (pa_cons pe_int pa_nil))) (fun _ _ => rfl))) pa_nil)))))) (pss_one (ps_ret (pvx 2)))))), ?_⟩)
  rintro ⟨p, n, hn⟩ F H
  show Ec (plW p F H) _ [.raw (.ref p), .dat (.int (n : Nat)), .no, .no, .no] _
  refine ec_set (ev_lst (ds := []) ea_nil (by decide)) ?_
  refine ec_seq (M := fun Γ => ∃ (xs : List Str) (s3 s4 : Sl), Γ = [.raw (.ref p), .dat (.int (n : Nat)), .own (.lst (xs.map .str)), s3, s4] ∧ NamesOk xs n) ?_ ?_
  · refine ec_forX (List.range n) (fun r _ => .int (0 + (r : Nat))) (ds := rngD 0 n) (it_rng1 (n := n) (ea_1 (ev_var rfl)) (by omega)) (fun i d h => by
        obtain ⟨hi, rfl⟩ := rngD_get h
        exact ⟨i, by rw [List.getElem?_range hi], rfl⟩) (by rw [rngD_len, List.length_range])
      (fun i Γ => ∃ (xs : List Str) (s3 s4 : Sl), Γ = [.raw (.ref p), .dat (.int (n : Nat)), .own (.lst (xs.map .str)), s3, s4] ∧ NamesOk xs i) ⟨[], _, _, rfl, rfl, fun k x h => nomatch h⟩ ?_ ?_
    · rintro i k _ hk ⟨xs, s3, s4, rfl, hx⟩
      have hi := (List.getElem?_eq_some_iff.mp hk).1
      rw [List.length_range] at hi
      have hxl := hx.len
      refine ⟨_, _, tg_name, ?_⟩
      refine ec_setR (R := isS fun x => x.cps.toList.length = 1) (ev_opR (A := fun s => s = .dat (.str "abcdefghijklmnopqrstuvwxyz")) (ev_str.ev rfl) (ev_draw (m := 26) rfl ev_int (by decide) (by decide)) ?_) ?_
      · rintro a b rfl ⟨v, rfl, hv⟩
        have hv : v < ("abcdefghijklmnopqrstuvwxyz" : Str).cps.toList.length := by
          have : ("abcdefghijklmnopqrstuvwxyz" : Str).cps.toList.length = 26 := by decide +kernel
          omega
        exact ⟨_, ⟨_, rfl, rfl⟩, oe_ixS (c := ("abcdefghijklmnopqrstuvwxyz" : Str).cps.toList[v]) (by decide +kernel) (atI_n (List.getElem?_eq_getElem hv))⟩
      rintro _ ⟨x, rfl, hl⟩
      refine ⟨(fun o h => nomatch h), ?_⟩
      refine ec_appR (R := isS (NameK i)) rfl (sr_add (S := fun x => ∃ l : List Nat, x.cps.toList = l ++ [48 + i] ∧ l.length ≤ 3) (T := (· ∈ [("" : Str), "b"])) (sr_add (S := fun x => x.cps.toList.length ≤ 3) (T := fun x => x.cps.toList = [48 + i]) (sr_add (S := fun x => x.cps.toList.length = 1) (T := (· ∈ [("" : Str), "_", "x", "9q"])) (sr_of (ev_var rfl) hl)
        (sr_pick (ns := [("" : Str), "_", "x", "9q"]) (m := 4) (ev_tup (ds := [.str "", .str "_", .str "x", .str "9q"]) (ea_cons ev_str (ea_cons ev_str (ea_cons ev_str (ea_1 ev_str)))) (by decide)) (ev_draw rfl ev_int (by decide) (by decide)) (by decide)) ?_)
        (sr_of (ev_strI (ev_var rfl) ?_) ?_) ?_) (sr_pick (ns := [("" : Str), "b"]) (m := 2) (ev_tup (ds := [.str "", .str "b"]) (ea_cons ev_str (ea_1 ev_str)) (by decide)) (ev_draw rfl ev_int (by decide) (by decide)) (by decide)) ?_) (by rw [List.length_map]; omega) ?_
      · intro a b ha hb
        have hb : b.cps.toList.length ≤ 2 := by
          revert b
          decide +kernel
        rw [str_len, str_len, str_app, List.length_append]
        exact ⟨by omega, by omega⟩
      · have : (0 + (i : Int)).natAbs < 2 ^ 1920 := by
          have : (10 : Nat) < 2 ^ 1920 := by decide +kernel
          omega
        by_cases q : (0 + (i : Int)).natAbs = 0
        · rw [q]; decide +kernel
        · exact (Nat.log2_lt q).mpr this
      · show (((toString (0 + (i : Int)) : String) : Str)).cps.toList = [48 + i]
        rw [Int.zero_add]
        exact digit i (by omega)
      · rintro a b ha hb
        rw [str_len, str_len, str_app, hb]
        exact ⟨by show a.cps.toList.length + 1 ≤ 1000; omega, _, rfl, ha⟩
      · rintro a b ⟨l, ha, hl⟩ hb
        rw [str_len, str_len, ha, List.length_append]
        rcases List.mem_cons.mp hb with e | hb
        · subst e
          exact ⟨by show l.length + 1 + 0 ≤ 1000; omega, l, .inl (by rw [str_app, ha]; exact List.append_nil _)⟩
        · rw [List.mem_singleton.mp hb]
          exact ⟨by show l.length + 1 + 1 ≤ 1000; omega, l, .inr (by rw [str_app, ha, List.append_assoc]; rfl)⟩
      · rintro _ ⟨x, rfl, hx2⟩
        refine ⟨_, rfl, xs ++ [x], _, _, by rw [List.map_append]; rfl, by rw [List.length_append, hxl]; rfl, fun k y hy => ?_⟩
        by_cases q : k < xs.length
        · rw [List.getElem?_append_left q] at hy; exact hx.nm k y hy
        · rw [List.getElem?_append_right (by omega)] at hy
          have e : k = i := by
            have := (List.getElem?_eq_some_iff.mp hy).1
            simp at this
            omega
          subst e
          rw [hxl, Nat.sub_self] at hy
          cases hy
          exact hx2
    · rintro _ ⟨xs, s3, s4, rfl, hx⟩
      rw [List.length_range] at hx
      exact ⟨xs, _, _, rfl, hx⟩
  · rintro _ ⟨xs, s3, s4, rfl, hx⟩
    exact ec_retO rfl ⟨xs, rfl, hx⟩
/-! spans -/
def SpanOk (q : Int × Int) : Prop := 0 ≤ q.1 ∧ q.1 ≤ q.2 ∧ q.2 ≤ 10
def p__law_span (K : PySem.W.Frag) : Prm (Addr × Unit) := plP (fun _ => []) fun _ s => ∃ q, s = .dat (pD q) ∧ SpanOk q
theorem sc__law_span : FnScope ["_law_pool_here", "_law_low"] ["_law_pool_here"] (defScope (top 53)) := ⟨rfl, rfl, rfl, by decide +kernel, rfl, by decide +kernel, by decide +kernel⟩
theorem cal__law_span (G : Gs K mg) : C8.Cal P w K mg base 3 "_law_span" (p__law_span K).sp [] := by
  have c__law_draw := cal__law_draw (P := P) (w := w) (base := base) G
  refine Prm.cal (p__law_span K) G.d__law_span G.g__law_span sc__law_span (fun _ _ _ _ _ _ us hl => match us, hl with | [_], _ => rfl) (fun _ => rfl) (fun cdv A' outer s H E hr => ⟨_, (PSs.nox (pss_cons (psx 1 sc__law_span.nd (pe_ix (k_ix (K := K)) (pe_tup (pa_cons pe_int (pa_cons pe_int (pa_cons pe_int (pa_cons pe_int (pa_cons pe_int (pa_cons pe_int pa_nil))))))) (C8.pe_c c__law_draw hr (by decide) (by rfl) (pa_cons (pvx 0) (pa_cons pe_int pa_nil))) (fun _ _ => rfl))) (pss_one (ps_ret (pe_tup (pa_cons (pvx 1) (pa_cons (pe_op (k_plus (K := K)) (pe_op (k_plus (K := K)) (pvx 1) pe_int) (pe_ix (k_ix (K := K)) (pe_tup (pa_cons pe_int (pa_cons pe_int (pa_cons pe_int (pa_cons pe_int pa_nil))))) (C8.pe_c c__law_draw hr (by decide) (by rfl) (pa_cons (pvx 0) (pa_cons pe_int pa_nil))) (fun _ _ => rfl))) pa_nil))))))), ?_⟩)
  rintro ⟨p, u⟩ F H
  show Ec (plW p F H) _ [.raw (.ref p), .no] _
  refine ec_setR (ir_pick (ns := [0, 1, 2, 3, 5, 1]) (m := 6) (ev_tup (ds := [.int 0, .int 1, .int 2, .int 3, .int 5, .int 1]) (ea_cons ev_int (ea_cons ev_int (ea_cons ev_int (ea_cons ev_int (ea_cons ev_int (ea_1 ev_int)))))) (by decide)) (ev_draw rfl ev_int (by decide) (by decide)) (by decide)) ?_
  rintro _ ⟨lo, rfl, hlo⟩
  have hlo : 0 ≤ lo ∧ lo ≤ 5 := by
    revert lo
    decide
  refine ⟨(fun o h => nomatch h), ?_⟩
  refine ec_retR (R := fun s => ∃ q, s = .dat (pD q) ∧ SpanOk q) (ev_tupR (R := fun ss => ∃ hi, ss = [.dat (.int lo), .dat (.int hi)] ∧ lo ≤ hi ∧ hi ≤ 10) (eaR_cons (A := fun s => s = .dat (.int lo)) ((ev_var rfl).ev rfl) (eaR_cons (B := fun ss => ss = []) (R := fun ss => ∃ hi, ss = [.dat (.int hi)] ∧ lo ≤ hi ∧ hi ≤ 10)
    (ir_add (U := fun hi => lo ≤ hi ∧ hi ≤ 10) (S := fun x => x = lo + 2) (ir_of (ev_add (ev_var rfl) ev_int) rfl) (ir_pick (ns := [0, 0, 1, 3]) (m := 4) (ev_tup (ds := [.int 0, .int 0, .int 1, .int 3]) (ea_cons ev_int (ea_cons ev_int (ea_cons ev_int (ea_1 ev_int)))) (by decide)) (ev_draw rfl ev_int (by decide) (by decide)) (by decide)) ?_) (eaR_nil rfl) ?_) ?_) ?_) ?_
  · rintro i j rfl hj
    have hj : 0 ≤ j ∧ j ≤ 3 := by
      revert j
      decide
    omega
  · rintro _ _ ⟨i, rfl, h⟩ rfl
    exact ⟨i, rfl, h⟩
  · rintro _ _ rfl ⟨i, rfl, h⟩
    exact ⟨i, rfl, h⟩
  · rintro _ ⟨i, rfl, h⟩
    exact ⟨[.int lo, .int i], rfl, by simp, (lo, i), rfl, hlo.1, h.1, h.2⟩
  · rintro _ ⟨q, rfl, h⟩
    exact ⟨(fun o h => nomatch h), q, rfl, h⟩
end Sg
/-! W22: draws of times, gates. -/
namespace Sg
open PySem PySem.Spec PyProof.Rows L2 Dn
variable {P : Program} {w : World} {K : PySem.W.Frag} {mg : Str → Option Value} {base : Heap}
section
variable {W : Wd} {Γ : List Sl} {ta tb te : TE} {tr : TA}
theorem eaR_c {s : Sl} {B : List Sl → Prop} (h : EvE W te Γ s) (hr : EvA W tr Γ B) : EvA W (tCons te tr) Γ fun ss => ∃ r, ss = s :: r ∧ B r := eaR_cons (A := fun t => t = s) (h.ev rfl) hr fun t r e q => by subst e; exact ⟨r, rfl, q⟩
theorem eaR_d {A : Sl → Prop} {B : List Sl → Prop} (h : Ev W te Γ A) (hr : EvA W tr Γ B) : EvA W (tCons te tr) Γ fun ss => ∃ a r, ss = a :: r ∧ A a ∧ B r := eaR_cons h hr fun t r e q => ⟨t, r, rfl, e, q⟩
theorem eaR_n : EvA W tNil Γ fun ss => ss = [] := eaR_nil rfl
theorem et_andR {t u : TT} {B C : Bool → Prop} (h : EvT W t Γ B) (h2 : EvT W u Γ C) : EvT W (tAnd t u) Γ fun _ => True := fun σ F H k Q q => h σ F H k _ fun b F1 H1 g _ => by
  cases b with
  | true => exact h2 σ F1 H1 (k.gr g) _ fun c F2 H2 g2 _ => q c F2 H2 (g.trans g2) trivial
  | false => exact q false F1 H1 g trivial
theorem paired_map {α β : Type} {R : α → D → Prop} {f : β → D} {S : β → Prop} (h : ∀ x d, R x d → ∃ y, d = f y ∧ S y) : ∀ {xs : List α} {out : List D}, Paired R xs out → ∃ ys : List β, out = ys.map f ∧ ys.length = xs.length ∧ ∀ y ∈ ys, S y
  | _, _, .nil => ⟨[], rfl, rfl, fun _ h => nomatch h⟩
  | _, _, .cons r q => by
    obtain ⟨y, rfl, hy⟩ := h _ _ r
    obtain ⟨ys, rfl, hl, hs⟩ := paired_map h q
    exact ⟨y :: ys, rfl, by rw [List.length_cons, List.length_cons, hl], fun z hz => (List.mem_cons.mp hz).elim (fun e => e ▸ hy) (hs z)⟩
theorem isI_nat {m : Int} {s : Sl} (h : ltN m s) : ∃ v : Int, s = .dat (.int v) ∧ 0 ≤ v ∧ v < m := by
  obtain ⟨v, rfl, hv⟩ := h
  exact ⟨v, rfl, Int.natCast_nonneg v, hv⟩
theorem ev_eqR {m x : Int} (h : Ev W ta Γ (ltN m)) (h2 : EvE W tb Γ (.dat (.int x))) : Ev W (tOp rEq ta tb) Γ fun s => ∃ b, s = .dat (.bl b) :=
  ev_opR (B := fun s => s = .dat (.int x)) h (h2.ev rfl) fun a b ⟨v, e, _⟩ e2 => by subst e e2; exact ⟨_, ⟨_, rfl⟩, oe_eqI⟩
end
structure TimesOk (r : Reg) : Prop where
  e0 : 0 ≤ r.e0
  e1 : r.e0 ≤ r.e1
  e2 : r.e1 ≤ 4
  o0 : 0 ≤ r.o0
  o1 : r.o0 ≤ r.o1
  o2 : r.o1 ≤ 8
  su : 0 ≤ r.su ∧ r.su ≤ 2
  ho : 0 ≤ r.ho ∧ r.ho ≤ 2
  hh : r.ho < r.o1
def tmD (r : Reg) : D := .tup [.tup [.int r.e0, .int r.e1], .tup [.int r.o0, .int r.o1], .int r.su, .int r.ho]
def p__law_times (K : PySem.W.Frag) : Prm (Addr × Unit) := plP (fun _ => []) fun _ s => ∃ r, s = .dat (tmD r) ∧ TimesOk r
theorem sc__law_times : FnScope ["_law_pool_here", "_law_width", "_law_low", "_law_hold", "_law_first", "_law_last"] ["_law_pool_here"] (defScope (top 55)) := ⟨rfl, rfl, rfl, by decide +kernel, rfl, by decide +kernel, by decide +kernel⟩
theorem cal__law_times (G : Gs K mg) : C8.Cal P w K mg base 3 "_law_times" (p__law_times K).sp [] := by
  have c__law_draw := cal__law_draw (P := P) (w := w) (base := base) G
  refine Prm.cal (p__law_times K) G.d__law_times G.g__law_times sc__law_times (fun _ _ _ _ _ _ us hl => match us, hl with | [_], _ => rfl) (fun _ => rfl) (fun cdv A' outer s H E hr => ⟨_, (PSs.nox (pss_cons (psx 1 sc__law_times.nd (pe_ix (k_ix (K := K)) (pe_tup (pa_cons pe_int (pa_cons pe_int (pa_cons pe_int (pa_cons pe_int pa_nil))))) (C8.pe_c c__law_draw hr (by decide) (by rfl) (pa_cons (pvx 0) (pa_cons pe_int pa_nil))) (fun _ _ => rfl))) (pss_cons (psx 2 sc__law_times.nd (C8.pe_c c__law_draw hr (by decide) (by rfl) (pa_cons (pvx 0) (pa_cons pe_int pa_nil)))) (pss_cons (psx 3 sc__law_times.nd (pe_ix (k_ix (K := K)) (pe_tup (pa_cons pe_int (pa_cons pe_int (pa_cons pe_int (pa_cons pe_int pa_nil))))) (C8.pe_c c__law_draw hr (by decide) (by rfl) (pa_cons (pvx 0) (pa_cons pe_int pa_nil))) (fun _ _ => rfl))) (pss_cons (psx 4 sc__law_times.nd (pe_op (k_plus (K := K)) (pe_op (k_plus (K := K)) (pvx 1) (pvx 3)) (pe_ix (k_ix (K := K)) (pe_tup (pa_cons pe_int (pa_cons pe_int (pa_cons pe_int (pa_cons pe_int pa_nil))))) (C8.pe_c c__law_draw hr (by decide) (by rfl) (pa_cons (pvx 0) (pa_cons pe_int pa_nil))) (fun _ _ => rfl)))) (pss_cons (psx 5 sc__law_times.nd (pe_op (k_plus (K := K)) (pe_callB (k_max (K := K)) (by rfl) G.f_max (by decide +kernel) (pa_cons (pvx 4) (pa_cons (pe_op (k_plus (K := K)) (pvx 3) pe_int) pa_nil))) (C8.pe_c c__law_draw hr (by decide) (by rfl) (pa_cons (pvx 0) (pa_cons pe_int pa_nil))))) (pss_one (ps_ret (pe_tup (pa_cons (pe_tup (pa_cons (pvx 2) (pa_cons (pe_op (k_plus (K := K)) (pvx 2) (pvx 1)) pa_nil))) (pa_cons (pe_tup (pa_cons (pvx 4) (pa_cons (pvx 5) pa_nil))) (pa_cons (C8.pe_c c__law_draw hr (by decide) (by rfl) (pa_cons (pvx 0) (pa_cons pe_int pa_nil))) (pa_cons (pvx 3) pa_nil))))))))))))), ?_⟩)
  rintro ⟨p, u⟩ F H
  show Ec (plW p F H) _ [.raw (.ref p), .no, .no, .no, .no, .no] _
  have t4 : ∀ {W : Wd} {Γ : List Sl}, EvE W (tTup (tCons (tC (.int 0)) (tCons (tC (.int 0)) (tCons (tC (.int 1)) (tCons (tC (.int 2)) tNil))))) Γ (.dat (.tup (([0, 0, 1, 2] : List Int).map .int))) := fun {W Γ} => ev_tup (ds := [.int 0, .int 0, .int 1, .int 2]) (ea_cons ev_int (ea_cons ev_int (ea_cons ev_int (ea_1 ev_int)))) (by decide)
  refine ec_setR (ir_pick (ns := [0, 0, 1, 2]) (m := 4) t4 (ev_draw rfl ev_int (by decide) (by decide)) (by decide)) ?_
  rintro _ ⟨wd, rfl, hwd⟩
  have hwd : 0 ≤ wd ∧ wd ≤ 2 := by
    revert wd
    decide
  refine ⟨(fun o h => nomatch h), ?_⟩
  refine ec_setR (ev_draw (m := 3) rfl ev_int (by decide) (by decide)) fun s hs => ?_
  obtain ⟨lo, rfl, hlo⟩ := isI_nat hs
  refine ⟨(fun o h => nomatch h), ?_⟩
  refine ec_setR (ir_pick (ns := [0, 0, 1, 2]) (m := 4) t4 (ev_draw rfl ev_int (by decide) (by decide)) (by decide)) ?_
  rintro _ ⟨ho, rfl, hho⟩
  have hho : 0 ≤ ho ∧ ho ≤ 2 := by
    revert ho
    decide
  refine ⟨(fun o h => nomatch h), ?_⟩
  refine ec_setR (ir_add (U := fun x => wd + ho ≤ x ∧ x ≤ wd + ho + 2) (S := fun x => x = wd + ho) (ir_of (ev_add (ev_var rfl) (ev_var rfl)) rfl) (ir_pick (ns := [1, 1, 2, 0]) (m := 4) (ev_tup (ds := [.int 1, .int 1, .int 2, .int 0]) (ea_cons ev_int (ea_cons ev_int (ea_cons ev_int (ea_1 ev_int)))) (by decide)) (ev_draw rfl ev_int (by decide) (by decide)) (by decide)) ?_) ?_
  · rintro i j rfl hj
    have hj : 0 ≤ j ∧ j ≤ 2 := by
      revert j
      decide
    omega
  rintro _ ⟨fi, rfl, hfi⟩
  refine ⟨(fun o h => nomatch h), ?_⟩
  refine ec_setR (ir_add (U := fun x => max fi (ho + 1) ≤ x ∧ x ≤ max fi (ho + 1) + 2) (S := fun x => x = max fi (ho + 1)) (T := fun x => 0 ≤ x ∧ x ≤ 2) (ir_of (ev_max2 (ea_cons (ev_var rfl) (ea_1 (ev_add (ev_var rfl) ev_int)))) rfl) (ir_lt (ev_draw (m := 3) rfl ev_int (by decide) (by decide)) fun v hv => by omega) fun i j hi hj => by omega) ?_
  rintro _ ⟨la, rfl, hla⟩
  refine ⟨(fun o h => nomatch h), ?_⟩
  refine ec_retR (R := fun s => ∃ r, s = .dat (tmD r) ∧ TimesOk r) (ev_tupR (eaR_c (s := .dat (.tup [.int lo, .int (lo + wd)])) (ev_tup (ds := [.int lo, .int (lo + wd)]) (ea_cons (ev_var rfl) (ea_1 (ev_add (ev_var rfl) (ev_var rfl)))) (by simp)) (eaR_c (s := .dat (.tup [.int fi, .int la])) (ev_tup (ds := [.int fi, .int la]) (ea_cons (ev_var rfl) (ea_1 (ev_var rfl))) (by simp)) (eaR_d (ev_draw (m := 3) rfl ev_int (by decide) (by decide)) (eaR_c (ev_var rfl) eaR_n)))) ?_) ?_
  · rintro _ ⟨_, rfl, _, rfl, _, _, rfl, hs, _, rfl, rfl⟩
    obtain ⟨su, rfl, h1, h2⟩ := isI_nat hs
    refine ⟨[.tup [.int lo, .int (lo + wd)], .tup [.int fi, .int la], .int su, .int ho], rfl, by simp, ⟨"", "", lo, lo + wd, fi, la, su, ho, false⟩, rfl, ?_⟩
    exact ⟨hlo.1, by dsimp only; omega, by dsimp only; omega, by dsimp only; omega, by dsimp only; omega, by dsimp only; omega, ⟨h1, by dsimp only; omega⟩, hho, by dsimp only; omega⟩
  · rintro _ ⟨r, rfl, h⟩
    exact ⟨(fun o h => nomatch h), r, rfl, h⟩
/-! gates -/
abbrev A_ga := {x : Str × List Str // x.2.length ≤ 20}
structure GaOk (nm : Str) (xs : List Str) (g : Gate) : Prop where
  nm : g.nm = nm
  ok : GateOk g
  nets : ∀ n ∈ g.nets, n ∈ xs
  span : ∀ q ∈ g.rng, SpanOk q
def p__law_gate (K : PySem.W.Frag) : Prm (Addr × A_ga) := plP (fun x => [.dat (.str x.1.1), .bor (.lst (x.1.2.map .str))]) fun x s => ∃ g, s = .dat (gD g) ∧ GaOk x.1.1 x.1.2 g
theorem sc__law_gate : FnScope ["_law_pool_here", "_law_name", "_law_nets_here", "_law_pins", "_law_chosen", "_law_code", "_law_table", "_law_k"] ["_law_pool_here", "_law_name", "_law_nets_here"] (defScope (top 54)) := ⟨rfl, rfl, rfl, by decide +kernel, rfl, by decide +kernel, by decide +kernel⟩
theorem cal__law_gate (G : Gs K mg) : C8.Cal P w K mg base 4 "_law_gate" (p__law_gate K).sp [] := by
  have c__law_draw := cal__law_draw (P := P) (w := w) (base := base) G
  have c__law_span := cal__law_span (P := P) (w := w) (base := base) G
  refine Prm.cal (p__law_gate K) G.d__law_gate G.g__law_gate sc__law_gate (fun _ _ _ _ _ _ us hl => match us, hl with | [_, _, _], _ => rfl) (fun _ => rfl) (fun cdv A' outer s H E hr => ⟨_, (PSs.nox (pss_cons (psx 3 sc__law_gate.nd (pe_ifExp (pt_cmpR op_gt (pe_callB (k_len (K := K)) (by rfl) G.f_len (by decide +kernel) (pa_cons (pvx 2) pa_nil)) pe_int (nomark _)) (pe_ix (k_ix (K := K)) (pe_tup (pa_cons pe_int (pa_cons pe_int (pa_cons pe_int (pa_cons pe_int (pa_cons pe_int (pa_cons pe_int (pa_cons pe_int (pa_cons pe_int pa_nil))))))))) (C8.pe_c c__law_draw hr (by decide) (by rfl) (pa_cons (pvx 0) (pa_cons pe_int pa_nil))) (fun _ _ => rfl)) pe_int)) (pss_cons (psx 4 sc__law_gate.nd (pe_callTy (k_tuple (K := K)) (by rfl) G.f_tuple (by decide +kernel) (pa_cons (pe_lc (own := [("_law_k", 7)]) (g := (gName 7)) (by rfl) sc__law_gate.nd (pi_range1 (by rfl) G.f_range (pa_cons (pvx 3) pa_nil)) (blkOk_by (by kernel_rfl)) (fun _ _ _ _ _ => (pgx 7 sc__law_gate.nd)) (fun _ _ _ _ _ => pts_nil) (fun _ _ _ _ _ => (pe_ix (k_ix (K := K)) (pvx 2) (C8.pe_c c__law_draw hr (by decide) (by rfl) (pa_cons (pvx 0) (pa_cons (pe_callB (k_len (K := K)) (by rfl) G.f_len (by decide +kernel) (pa_cons (pvx 2) pa_nil)) pa_nil))) (fun _ _ => rfl)))) pa_nil))) (pss_cons (psx 5 sc__law_gate.nd (C8.pe_c c__law_draw hr (by decide) (by rfl) (pa_cons (pvx 0) (pa_cons (pe_op op_shl pe_int (pe_op op_shl pe_int (pvx 3))) pa_nil)))) (pss_cons (ps_if (PW.pt (pw_and (pt_cmpR op_eq (pvx 3) pe_int (nomark _)) (pw_and1 (pt_cmpR op_eq (C8.pe_c c__law_draw hr (by decide) (by rfl) (pa_cons (pvx 0) (pa_cons pe_int pa_nil))) pe_int (nomark _))))) (pss_one (psx 5 sc__law_gate.nd (pe_ix (k_ix (K := K)) (pe_tup (pa_cons pe_int (pa_cons pe_int (pa_cons pe_int (pa_cons pe_int (pa_cons pe_int (pa_cons pe_int pa_nil))))))) (C8.pe_c c__law_draw hr (by decide) (by rfl) (pa_cons (pvx 0) (pa_cons pe_int pa_nil))) (fun _ _ => rfl)))) pss_nil) (pss_cons (psx 6 sc__law_gate.nd (pe_callTy (k_tuple (K := K)) (by rfl) G.f_tuple (by decide +kernel) (pa_cons (pe_lc (own := [("_law_k", 7)]) (g := (gName 7)) (by rfl) sc__law_gate.nd (pi_range1 (by rfl) G.f_range (pa_cons (pe_op op_shl pe_int (pvx 3)) pa_nil)) (blkOk_by (by kernel_rfl)) (fun _ _ _ _ _ => (pgx 7 sc__law_gate.nd)) (fun _ _ _ _ _ => pts_nil) (fun _ _ _ _ _ => (pe_cmpR op_eq (pe_op op_and (pe_op op_shr (pvx 5) (pvx 7)) pe_int) pe_int (nomark _)))) pa_nil))) (pss_one (ps_ret (pe_tup (pa_cons (pvx 1) (pa_cons (pvx 6) (pa_cons (pvx 4) (pa_cons (pe_callTy (k_tuple (K := K)) (by rfl) G.f_tuple (by decide +kernel) (pa_cons (pe_lc (own := [("_law_k", 7)]) (g := (gName 7)) (by rfl) sc__law_gate.nd (pi_range1 (by rfl) G.f_range (pa_cons (pvx 3) pa_nil)) (blkOk_by (by kernel_rfl)) (fun _ _ _ _ _ => (pgx 7 sc__law_gate.nd)) (fun _ _ _ _ _ => pts_nil) (fun _ _ _ _ _ => (C8.pe_c c__law_span hr (by decide) (by rfl) (pa_cons (pvx 0) pa_nil)))) pa_nil)) pa_nil))))))))))))), ?_⟩)
  rintro ⟨p, ⟨nm, xs⟩, hx⟩ F H
  have hx : xs.length ≤ 20 := hx
  show Ec (plW p F H) _ [.raw (.ref p), .dat (.str nm), .bor (.lst (xs.map .str)), .no, .no, .no, .no, .no] _
  have ln : ∀ {W : Wd} {Γ : List Sl}, Γ[2]? = some (.bor (.lst (xs.map .str))) → EvE W (tCB (Dn.rLen K) (tCons (tVar 2) tNil)) Γ (.dat (.int xs.length)) := fun e => (ev_lenL (ds := xs.map .str) (ev_bor e)).to (by rw [List.length_map])
  refine ec_setR (R := isI fun i => ∃ n : Nat, i = n ∧ n ≤ 3 ∧ (n ≠ 0 → xs ≠ [])) (ev_ifR (B := fun b => b = decide ((xs.length : Int) > 0)) ((et_bb (g := fun i j => decide (i > j)) (ln rfl) ev_int).ev rfl) (fun hb => ?_) fun hb => (ir_of ev_int ⟨0, rfl, by omega, fun h => absurd rfl h⟩)) ?_
  · have hb := of_decide_eq_true hb.symm
    refine (ir_pick (ns := [0, 1, 1, 2, 2, 2, 2, 3]) (m := 8) (ev_tup (ds := [.int 0, .int 1, .int 1, .int 2, .int 2, .int 2, .int 2, .int 3]) (ea_cons ev_int (ea_cons ev_int (ea_cons ev_int (ea_cons ev_int (ea_cons ev_int (ea_cons ev_int (ea_cons ev_int (ea_1 ev_int)))))))) (by decide)) (ev_draw rfl ev_int (by decide) (by decide)) (by decide)).imp ?_
    rintro _ ⟨i, rfl, hi⟩
    have hi : 0 ≤ i ∧ i ≤ 3 := by
      revert i
      decide
    refine ⟨i, rfl, i.toNat, by omega, by omega, fun _ e => ?_⟩
    rw [e] at hb
    exact absurd hb (by decide)
  rintro _ ⟨_, rfl, n, rfl, hn, hne⟩
  refine ⟨(fun o h => nomatch h), ?_⟩
  refine ec_setR (R := fun s => ∃ cs : List Str, s = .dat (.tup (cs.map .str)) ∧ cs.length = n ∧ ∀ c ∈ cs, c ∈ xs) (ev_tupLR (ev_lcXR (List.range n) (fun k => .int (0 + (k : Nat))) (fun _ d => ∃ c, d = .str c ∧ c ∈ xs) (it_rng1 (n := n) (ea_1 (ev_var rfl)) (by omega)) (by rw [List.length_range]; omega) fun i k hk => ⟨_, _, tg_name, fun _ h => h, (ev_pickL (m := xs.length) (ds := xs.map .str) (ev_bor rfl) (ev_draw rfl (ln rfl) ?_ (by omega)) (by rw [List.length_map]; omega)).imp ?_⟩) ?_) ?_
  · have hk' := (List.getElem?_eq_some_iff.mp hk).1
    rw [List.length_range] at hk'
    have := List.length_pos_iff.mpr (hne (by omega))
    omega
  · rintro _ ⟨d, hd, rfl⟩
    obtain ⟨c, hc, rfl⟩ := List.mem_map.mp hd
    exact ⟨_, rfl, c, rfl, hc⟩
  · rintro _ ⟨out, rfl, hp⟩
    obtain ⟨cs, rfl, hl, hs⟩ := paired_map (f := D.str) (S := fun c => c ∈ xs) (fun x d h => h) hp
    rw [List.length_range] at hl
    exact ⟨_, rfl, cs, rfl, hl, hs⟩
  rintro _ ⟨cs, rfl, hcl, hcs⟩
  refine ⟨(fun o h => nomatch h), ?_⟩
  have n4 : n = 0 ∨ n = 1 ∨ n = 2 ∨ n = 3 := by omega
  have sh1 : ∀ {W : Wd} {Γ : List Sl}, Γ[3]? = some (.dat (.int n)) → EvE W (tOp (rI CPow fun i j => .int (i * 2 ^ j.toNat)) (tC (.int 1)) (tVar 3)) Γ (.dat (.int ((2 ^ n : Nat) : Int))) := fun e => (ev_bc (g := fun i j => i * 2 ^ j.toNat) ev_int (ev_var e) ⟨by omega, by omega, by decide⟩).to (congrArg (fun i => Sl.dat (.int i)) (by rcases n4 with rfl | rfl | rfl | rfl <;> decide))
  have q0 : (0 : Int) ≤ ((2 ^ n : Nat) : Int) := Int.natCast_nonneg _
  have q2 : ((2 ^ n : Nat) : Int) ≤ 1000000 := by rcases n4 with rfl | rfl | rfl | rfl <;> decide
  have q3 : (1 : Int) * 2 ^ (((2 ^ n : Nat) : Int)).toNat = ((2 ^ (2 ^ n) : Nat) : Int) := by rcases n4 with rfl | rfl | rfl | rfl <;> decide
  have q4 : (0 : Int) < ((2 ^ (2 ^ n) : Nat) : Int) := by rcases n4 with rfl | rfl | rfl | rfl <;> decide
  have q5 : ((2 ^ (2 ^ n) : Nat) : Int) < 1073741824 := by rcases n4 with rfl | rfl | rfl | rfl <;> decide
  refine ec_setR (R := isI (0 ≤ ·)) (ir_lt (ev_draw (m := ((2 ^ (2 ^ n) : Nat) : Int)) rfl ((ev_bc (g := fun i j => i * 2 ^ j.toNat) ev_int (sh1 rfl) ⟨q0, q2, by decide⟩).to (congrArg (fun i => Sl.dat (.int i)) q3)) q4 q5) fun v _ => Int.natCast_nonneg v) ?_
  rintro _ ⟨code, rfl, hc0⟩
  refine ⟨(fun o h => nomatch h), ?_⟩
  refine ec_seq (M := fun Γ => ∃ code : Int, Γ = [.raw (.ref p), .dat (.str nm), .bor (.lst (xs.map .str)), .dat (.int n), .dat (.tup (cs.map .str)), .dat (.int code), .no, .no]) ?_ ?_
  · refine ec_ifR (et_andR ((et_test (ev_eqI (ev_var rfl) ev_int)).ev (B := fun _ => True) trivial) (et_testR (B := fun _ => True) (ev_eqR (m := 2) (ev_draw rfl ev_int (by decide) (by decide)) ev_int) fun s ⟨b, e⟩ => ⟨b, e, trivial⟩)) (fun _ => ?_) fun _ => ec_next ⟨_, rfl⟩
    refine ec_asgR (ir_pick (ns := [8, 14, 6, 2, 7, 1]) (m := 6) (ev_tup (ds := [.int 8, .int 14, .int 6, .int 2, .int 7, .int 1]) (ea_cons ev_int (ea_cons ev_int (ea_cons ev_int (ea_cons ev_int (ea_cons ev_int (ea_1 ev_int)))))) (by decide)) (ev_draw rfl ev_int (by decide) (by decide)) (by decide)) ?_
    rintro _ ⟨i, rfl, _⟩
    exact ⟨(fun o h => nomatch h), i, rfl⟩
  rintro _ ⟨code, rfl⟩
  have p8 : 2 ^ n ≤ 8 := by rcases n4 with rfl | rfl | rfl | rfl <;> decide
  refine ec_set (s := .dat (.tup (((List.range (2 ^ n)).map fun (k : Nat) => decide (Builtin.bitAnd (code / 2 ^ (0 + (k : Int)).toNat) 1 = 1)).map .bl))) ((ev_tupL (ev_own_bor (ev_lcX (List.range (2 ^ n)) (fun k => .int (0 + (k : Nat))) (fun k => .bl (decide (Builtin.bitAnd (code / 2 ^ (0 + (k : Int)).toNat) 1 = 1))) (it_rng1 (n := 2 ^ n) (ea_1 (sh1 rfl)) (by omega)) (by rw [List.length_range]; omega) fun i k hk => ⟨_, _, tg_name, fun _ h => h, ev_eqI (ev_bi (g := fun i j => Builtin.bitAnd i j) (ev_bc (g := fun i j => i / 2 ^ j.toNat) (ev_var rfl) (ev_var rfl) (by show (0 : Int) ≤ 0 + (k : Int); omega)) ev_int) ev_int⟩))).to ?_) ?_
  · rw [List.map_map]; rfl
  generalize ht : ((List.range (2 ^ n)).map fun (k : Nat) => decide (Builtin.bitAnd (code / 2 ^ (0 + (k : Int)).toNat) 1 = 1)) = tab
  have htl : tab.length = 2 ^ n := by rw [← ht, List.length_map, List.length_range]
  refine ec_retR (R := fun s => ∃ g, s = .dat (gD g) ∧ GaOk nm xs g) (ev_tupR (eaR_c (ev_var rfl) (eaR_c (ev_var rfl) (eaR_c (ev_var rfl) (eaR_d (A := fun s => ∃ qs : List (Int × Int), s = .dat (.tup (qs.map pD)) ∧ qs.length = n ∧ ∀ q ∈ qs, SpanOk q) (ev_tupLR (ev_lcXR (List.range n) (fun k => .int (0 + (k : Nat))) (fun _ d => ∃ q, d = pD q ∧ SpanOk q) (it_rng1 (n := n) (ea_1 (ev_var rfl)) (by omega)) (by rw [List.length_range]; omega) fun i k hk => ⟨_, _, tg_name, fun _ h => h, (ev_call (p := p__law_span K) ((p, ()) : Addr × Unit) (ea_1 (ev_raw rfl)) fits_pl rfl).imp ?_⟩) ?_) eaR_n)))) ?_) ?_
  · rintro _ ⟨⟨q, rfl, hq⟩, _⟩
    exact ⟨_, rfl, q, rfl, hq⟩
  · rintro _ ⟨out, rfl, hp⟩
    obtain ⟨qs, rfl, hl, hs⟩ := paired_map (f := pD) (S := SpanOk) (fun x d h => h) hp
    rw [List.length_range] at hl
    exact ⟨_, rfl, qs, rfl, hl, hs⟩
  · rintro _ ⟨_, rfl, _, rfl, _, rfl, _, _, rfl, ⟨qs, rfl, hql, hqs⟩, rfl⟩
    refine ⟨[.str nm, .tup (tab.map .bl), .tup (cs.map .str), .tup (qs.map pD)], rfl, by simp, ⟨nm, tab, cs, qs⟩, rfl, rfl, ⟨?_, ?_, ?_, fun q hq => ?_⟩, hcs, hqs⟩
    · rw [htl]; show 2 ^ n = 2 ^ cs.length; rw [hcl]
    · show cs.length ≤ 3; omega
    · show qs.length = cs.length; omega
    · have := hqs q hq
      exact ⟨this.1, this.2.1, Int.le_trans this.2.2 (by decide)⟩
  · rintro _ ⟨g, rfl, h⟩
    exact ⟨(fun o h => nomatch h), g, rfl, h⟩
end Sg
/-! W23: the draw of a circuit. -/
namespace Sg
open PySem PySem.Spec PyProof.Rows L2 Dn
variable {P : Program} {w : World} {K : PySem.W.Frag} {mg : Str → Option Value} {base : Heap}
structure GenC (c : Circ) : Prop where
  wf : WF c
  span : ∀ g ∈ c.gates, ∀ q ∈ g.rng, SpanOk q
  tm : ∀ r ∈ c.regs, TimesOk r
section
variable {W : Wd} {Γ : List Sl} {ta tb te : TE} {S T U : Int → Prop}
theorem ir_op0 {g : Int → Int → Int} (h : Ev W ta Γ (isI S)) (h2 : Ev W tb Γ (isI T)) (hs : ∀ i j, S i → T j → U (g i j)) : Ev W (tOp (rI0 fun i j => .int (g i j)) ta tb) Γ (isI U) :=
  ev_opR h h2 fun a b ⟨i, e1, q1⟩ ⟨j, e2, q2⟩ => by subst e1 e2; exact ⟨_, ⟨_, rfl, hs i j q1 q2⟩, oe_I0 fun F => .int _⟩
theorem ir_opC {C : Int → Int → Prop} {g : Int → Int → Int} (h : Ev W ta Γ (isI S)) (h2 : Ev W tb Γ (isI T)) (hs : ∀ i j, S i → T j → C i j ∧ U (g i j)) : Ev W (tOp (rI C fun i j => .int (g i j)) ta tb) Γ (isI U) :=
  ev_opR h h2 fun a b ⟨i, e1, q1⟩ ⟨j, e2, q2⟩ => by subst e1 e2; exact ⟨_, ⟨_, rfl, (hs i j q1 q2).2⟩, oe_I (hs i j q1 q2).1 fun F => .int _⟩
theorem ev_ixLR {ds : List D} (ha : EvE W ta Γ (.bor (.lst ds))) (hb : Ev W tb Γ (isI fun i => 0 ≤ i ∧ i < ds.length)) : Ev W (tOp (rIx K) ta tb) Γ fun s => ∃ d ∈ ds, s = .dat d :=
  ev_opR (A := fun s => s = .bor (.lst ds)) (ha.ev rfl) hb fun a b e1 ⟨v, e2, hv, hl⟩ => by
    subst e1 e2
    have hl : v.toNat < ds.length := by omega
    refine ⟨.dat ds[v.toNat], ⟨ds[v.toNat], List.getElem_mem hl, rfl⟩, oe_ixL ?_⟩
    have := atI_n (List.getElem?_eq_getElem hl)
    rwa [Int.toNat_of_nonneg hv] at this
theorem cut_to {ds : List D} {k : Nat} (hk : k ≤ ds.length) : (ds.drop (HT.sIx ds.length 0 none)).take (HT.sIx ds.length ds.length (some (k : Int)) - HT.sIx ds.length 0 none) = ds.take k := by
  rw [HT.sIx_none, HT.sIx_nat, List.drop_zero, Nat.sub_zero, Nat.min_eq_left hk]
theorem ev_to {tb : TO} {xs : List Str} {k : Nat} {i : Int} (h : EvE W te Γ (.bor (.lst (xs.map .str)))) (h2 : EvO W tb Γ (some i)) (hi : i = (k : Int)) (hk : k ≤ xs.length) : EvE W (tSl (rSlL K) te tNoPart tb) Γ (.own (.lst ((xs.take k).map .str))) :=
  (ev_slL h eo_none h2).to (by rw [hi, cut_to (by rw [List.length_map]; exact hk), List.map_take])
theorem er_eqB {m x : Int} (h : Ev W ta Γ (ltN m)) (h2 : EvE W tb Γ (.dat (.int x))) : Ev W (tOp rEq ta tb) Γ fun s => ∃ b, s = .dat (.bl b) := ev_eqR h h2
end
theorem NamesOk.nd {xs : List Str} {n : Nat} (h : NamesOk xs n) (hn : n ≤ 10) : xs.Nodup := by
  refine List.pairwise_iff_getElem.mpr fun i j hi hj hij e => ?_
  have hl := h.len
  have hx : xs[j]? = some xs[j] := List.getElem?_eq_getElem hj
  have := (h.nm i xs[j] ((List.getElem?_eq_getElem hi).trans (by rw [e]))).inj (h.nm j xs[j] hx) (by omega) (by omega)
  omega
structure Gts (k : List Str) (ns : List Str) (gs : List Gate) : Prop where
  ok : ∀ g ∈ gs, GateOk g
  span : ∀ g ∈ gs, ∀ q ∈ g.rng, SpanOk q
  ord : ∃ o : List Gate, gs.Perm o ∧ o.map (·.nm) = ns ∧ Topo k o
theorem Gts.len {k ns : List Str} {gs : List Gate} (h : Gts k ns gs) : gs.length = ns.length := by
  obtain ⟨o, hp, e, _⟩ := h.ord
  rw [hp.length_eq, ← e, List.length_map]
abbrev A_ci := {x : Nat × Nat // x.1 ≤ 2 ∧ 1 ≤ x.2 ∧ x.2 ≤ 3}
def p__law_circuit (K : PySem.W.Frag) : Prm (Addr × A_ci) := plP (fun x => [.dat (.int x.1.1), .dat (.int x.1.2), .dat (.int 5)]) fun x s => ∃ c, s = .dat (cD c) ∧ GenC c ∧ c.ins.length = x.1.1
theorem sc__law_circuit : FnScope ["_law_pool_here", "_law_inputs", "_law_regs", "_law_most", "_law_names_here", "_law_nets_here", "_law_gates", "_law_k", "_law_rows", "_law_gate_here", "_law_net", "_law_times_here"] ["_law_pool_here", "_law_inputs", "_law_regs", "_law_most"] (defScope (top 56)) := ⟨rfl, rfl, rfl, by decide +kernel, rfl, by decide +kernel, by decide +kernel⟩
theorem cal__law_circuit (G : Gs K mg) : C8.Cal P w K mg base 5 "_law_circuit" (p__law_circuit K).sp [] := by
  have c__law_draw := cal__law_draw (P := P) (w := w) (base := base) G
  have c__law_gate := cal__law_gate (P := P) (w := w) (base := base) G
  have c__law_names := cal__law_names (P := P) (w := w) (base := base) G
  have c__law_times := cal__law_times (P := P) (w := w) (base := base) G
  refine Prm.cal (p__law_circuit K) G.d__law_circuit G.g__law_circuit sc__law_circuit (fun _ _ _ _ _ _ us hl => match us, hl with | [_, _, _, _], _ => rfl) (fun _ => rfl) (fun cdv A' outer s H E hr => ⟨_, (PSs.nox (pss_cons (psx 4 sc__law_circuit.nd (C8.pe_c c__law_names hr (by decide) (by rfl) (pa_cons (pvx 0) (pa_cons (pe_op (k_plus (K := K)) (pe_op (k_plus (K := K)) (pvx 1) (pvx 2)) (pvx 3)) pa_nil)))) (pss_cons (psx 5 sc__law_circuit.nd (pe_callTy (k_list (K := K)) (by rfl) G.f_list (by decide +kernel) (pa_cons (pe_slice (k_slL (K := K)) (pvx 4) po_none (po_some (pe_op (k_plus (K := K)) (pvx 1) (pvx 2)))) pa_nil))) (pss_cons (psx 6 sc__law_circuit.nd (pe_lst pa_nil)) (pss_cons (ps_for PassesOwn.never (by rfl) (pi_range1 (by rfl) G.f_range (pa_cons (C8.pe_c c__law_draw hr (by decide) (by rfl) (pa_cons (pvx 0) (pa_cons (pe_op (k_plus (K := K)) (pvx 3) pe_int) pa_nil))) pa_nil)) (pgx 7 sc__law_circuit.nd) (pss_cons (psx 9 sc__law_circuit.nd (C8.pe_c c__law_gate hr (by decide) (by rfl) (pa_cons (pvx 0) (pa_cons (pe_ix (k_ix (K := K)) (pvx 4) (pe_op (k_plus (K := K)) (pe_op (k_plus (K := K)) (pvx 1) (pvx 2)) (pvx 7)) (fun _ _ => rfl)) (pa_cons (pvx 5) pa_nil))))) (pss_cons (ps_expr (k_app (K := K) (pvx 5) (pa_cons (pe_ix (k_ix (K := K)) (pvx 9) pe_int (fun _ _ => rfl)) pa_nil))) (pss_one (ps_expr (k_ins (K := K) (pvx 6) (pa_cons (C8.pe_c c__law_draw hr (by decide) (by rfl) (pa_cons (pvx 0) (pa_cons (pe_op (k_plus (K := K)) (pe_callB (k_len (K := K)) (by rfl) G.f_len (by decide +kernel) (pa_cons (pvx 6) pa_nil)) pe_int) pa_nil))) (pa_cons (pvx 9) pa_nil)))))))) (pss_cons (psx 8 sc__law_circuit.nd (pe_lst pa_nil)) (pss_cons (ps_for PassesOwn.never (by rfl) (pi_range1 (by rfl) G.f_range (pa_cons (pvx 2) pa_nil)) (pgx 7 sc__law_circuit.nd) (pss_cons (psx 10 sc__law_circuit.nd (pe_ix (k_ix (K := K)) (pvx 5) (pe_op op_sub (pe_op op_sub (pe_callB (k_len (K := K)) (by rfl) G.f_len (by decide +kernel) (pa_cons (pvx 5) pa_nil)) pe_int) (pe_op op_fdiv (C8.pe_c c__law_draw hr (by decide) (by rfl) (pa_cons (pvx 0) (pa_cons (pe_callB (k_len (K := K)) (by rfl) G.f_len (by decide +kernel) (pa_cons (pvx 5) pa_nil)) pa_nil))) pe_int)) (fun _ _ => rfl))) (pss_cons (psx 11 sc__law_circuit.nd (C8.pe_c c__law_times hr (by decide) (by rfl) (pa_cons (pvx 0) pa_nil))) (pss_one (ps_expr (k_app (K := K) (pvx 8) (pa_cons (pe_tup (pa_cons (pe_ix (k_ix (K := K)) (pvx 4) (pe_op (k_plus (K := K)) (pvx 1) (pvx 7)) (fun _ _ => rfl)) (pa_cons (pvx 10) (pa_cons (pe_ix (k_ix (K := K)) (pvx 11) pe_int (fun _ _ => rfl)) (pa_cons (pe_ix (k_ix (K := K)) (pvx 11) pe_int (fun _ _ => rfl)) (pa_cons (pe_ix (k_ix (K := K)) (pvx 11) pe_int (fun _ _ => rfl)) (pa_cons (pe_ix (k_ix (K := K)) (pvx 11) pe_int (fun _ _ => rfl)) (pa_cons (pe_cmpR op_eq (C8.pe_c c__law_draw hr (by decide) (by rfl) (pa_cons (pvx 0) (pa_cons pe_int pa_nil))) pe_int (nomark _)) pa_nil)))))))) pa_nil))))))) (pss_one (ps_ret (pe_tup (pa_cons (pe_callTy (k_tuple (K := K)) (by rfl) G.f_tuple (by decide +kernel) (pa_cons (pe_slice (k_slL (K := K)) (pvx 4) po_none (po_some (pvx 1))) pa_nil)) (pa_cons (pe_callTy (k_tuple (K := K)) (by rfl) G.f_tuple (by decide +kernel) (pa_cons (pvx 6) pa_nil)) (pa_cons (pe_callTy (k_tuple (K := K)) (by rfl) G.f_tuple (by decide +kernel) (pa_cons (pvx 8) pa_nil)) (pa_cons (pe_tup pa_nil) pa_nil)))))))))))))), ?_⟩)
  rintro ⟨p, ⟨ni, nr⟩, hni, hnr1, hnr⟩ F H
  have hni : ni ≤ 2 := hni
  have hnr1 : 1 ≤ nr := hnr1
  have hnr : nr ≤ 3 := hnr
  show Ec (plW p F H) _ [.raw (.ref p), .dat (.int ni), .dat (.int nr), .dat (.int 5), .no, .no, .no, .no, .no, .no, .no, .no] _
  refine ec_setR (ev_call (p := p__law_names K) ((p, ⟨ni + nr + 5, by omega⟩) : Addr × A_nm) (ea_cons (ev_raw rfl) (ea_1 ((ev_add (ev_add (ev_var rfl) (ev_var rfl)) (ev_var rfl)).to (congrArg (fun i => Sl.dat (.int i)) (by dsimp only; omega))))) fits_pl rfl) ?_
  rintro _ ⟨⟨xs, rfl, hx⟩, _⟩
  have hx : NamesOk xs (ni + nr + 5) := hx
  have hxl := hx.len
  have hnd := hx.nd (by omega)
  refine ⟨(fun o h => nomatch h), ?_⟩
  refine ec_set (ev_listL (ev_own_bor (ev_to (k := ni + nr) (ev_own rfl) (eo_some (ev_add (ev_var rfl) (ev_var rfl))) (by omega) (by omega)))) ?_
  refine ec_set (ev_lst (ds := []) ea_nil (by decide)) ?_
  generalize hk : xs.take (ni + nr) = kn
  have hkl : kn.length = ni + nr := by rw [← hk, List.length_take]; omega
  refine ec_seq (M := fun Γ => ∃ m gs s7 s9, Γ = [.raw (.ref p), .dat (.int ni), .dat (.int nr), .dat (.int 5), .own (.lst (xs.map .str)), .own (.lst ((xs.take (ni + nr + m)).map .str)), .own (.lst (gs.map gD)), s7, .no, s9, .no, .no] ∧ m ≤ 5 ∧ Gts kn ((xs.drop (ni + nr)).take m) gs) ?_ ?_
  · refine ec_forR (S := fun ds => ∃ m : Nat, m ≤ 5 ∧ ds = rngD 0 m) (itR_rng1 (eaR_d (ev_draw (m := 6) rfl ((ev_add (ev_var rfl) ev_int).to rfl) (by decide) (by decide)) eaR_n) ?_)
      (fun ds i Γ => ∃ (gs : List Gate) (s7 s9 : Sl), Γ = [.raw (.ref p), .dat (.int ni), .dat (.int nr), .dat (.int 5), .own (.lst (xs.map .str)), .own (.lst ((xs.take (ni + nr + i)).map .str)), .own (.lst (gs.map gD)), s7, .no, s9, .no, .no] ∧ i ≤ 5 ∧ Gts kn ((xs.drop (ni + nr)).take i) gs) ?_ ?_ ?_
    · rintro _ ⟨_, _, rfl, ⟨v, rfl, hv⟩, rfl⟩
      exact ⟨v, rfl, by omega, v, by omega, rfl⟩
    · rintro ds _
      exact ⟨[], _, _, by rw [Nat.add_zero, hk]; rfl, by omega, (fun _ h => nomatch h), (fun _ h => nomatch h), [], .nil, rfl, trivial⟩
    · rintro ds i d _ ⟨m, hm, rfl⟩ hd ⟨gs, s7, s9, rfl, _, hg⟩
      obtain ⟨him, rfl⟩ := rngD_get hd
      have hgl : gs.length = i := by rw [hg.len, List.length_take, List.length_drop]; omega
      obtain ⟨nm, hnm⟩ : ∃ nm, xs[ni + nr + i]? = some nm := ⟨xs[ni + nr + i], List.getElem?_eq_getElem (by omega)⟩
      have htl : (xs.take (ni + nr + i)).length = ni + nr + i := by rw [List.length_take]; omega
      refine ⟨_, _, tg_name, ?_⟩
      refine ec_setR (ev_call (p := p__law_gate K) ((p, ⟨(nm, xs.take (ni + nr + i)), by show (xs.take (ni + nr + i)).length ≤ 20; omega⟩) : Addr × A_ga) (ea_cons (ev_raw rfl) (ea_cons (ev_ixL (d := .str nm) (ev_own rfl) (ev_add (ev_add (ev_var rfl) (ev_var rfl)) (ev_var rfl)) ?_) (ea_1 (ev_own rfl)))) fits_pl rfl) ?_
      · rw [show (ni : Int) + nr + (0 + (i : Int)) = ((ni + nr + i : Nat) : Int) by omega]
        exact atI_map hnm
      rintro _ ⟨⟨g, rfl, hgk⟩, _⟩
      have hgk : GaOk nm (xs.take (ni + nr + i)) g := hgk
      have gnm := hgk.nm
      refine ⟨(fun o h => nomatch h), ?_⟩
      refine ec_seq (M := fun Γ => Γ = [.raw (.ref p), .dat (.int ni), .dat (.int nr), .dat (.int 5), .own (.lst (xs.map .str)), .own (.lst ((xs.take (ni + nr + (i + 1))).map .str)), .own (.lst (gs.map gD)), .dat (.int (0 + (i : Nat))), .no, .dat (gD g), .no, .no]) (ec_app (d := .str nm) rfl (ev_ixT (ev_var rfl) ev_int (by show some (D.str g.nm) = _; rw [gnm])) (by rw [List.length_map]; omega) ?_) ?_
      · show _ = _
        rw [show ni + nr + (i + 1) = ni + nr + i + 1 by omega, take_snoc hnm, List.map_append]
        rfl
      rintro _ rfl
      refine ec_ins (d := gD g) rfl (ev_draw (m := (gs.length : Int) + 1) rfl ((ev_add (ev_lenL (ds := gs.map gD) (ev_own rfl)) ev_int).to (by rw [List.length_map])) (by omega) (by omega)) ?_ (ev_var rfl) (by rw [List.length_map]; omega)
      rintro _ ⟨v, rfl, hv⟩
      refine ⟨v, rfl, by omega, gs.take v ++ [g] ++ gs.drop v, .dat (.int (0 + (i : Nat))), .dat (gD g), ?_, by omega, ?_⟩
      · have e1 : (gs.take v ++ [g] ++ gs.drop v).map gD = (gs.map gD).take v ++ [gD g] ++ (gs.map gD).drop v := by
          rw [List.map_append, List.map_append, List.map_take, List.map_drop]; rfl
        rw [e1]
        rfl
      · have pm : (gs.take v ++ [g] ++ gs.drop v).Perm (gs ++ [g]) := by
          rw [List.append_assoc]
          refine (List.perm_middle (a := g) (l₁ := gs.take v) (l₂ := gs.drop v)).trans ?_
          rw [List.take_append_drop]
          exact (List.perm_append_singleton g gs).symm
        have mem : ∀ x, x ∈ gs.take v ++ [g] ++ gs.drop v → x ∈ gs ∨ x = g := fun x h => by
          rcases List.mem_append.mp (pm.mem_iff.mp h) with q | q
          · exact .inl q
          · exact .inr (List.mem_singleton.mp q)
        obtain ⟨o, hp, e, ht⟩ := hg.ord
        refine ⟨fun x h => (mem x h).elim (hg.ok x) fun e => e ▸ hgk.ok, fun x h => (mem x h).elim (hg.span x) fun e => e ▸ hgk.span, o ++ [g], pm.trans (hp.append_right _), ?_, ht.snoc fun n hn => ?_⟩
        · rw [List.map_append, e, take_snoc (x := nm) (by rw [List.getElem?_drop]; exact hnm)]
          show _ ++ [g.nm] = _
          rw [gnm]
        · have := hgk.nets n hn
          rw [List.take_add, hk] at this
          rw [e]
          exact this
    · rintro ds _ ⟨m, hm, rfl⟩ ⟨gs, s7, s9, rfl, h5, hg⟩
      rw [rngD_len] at hg ⊢
      exact ⟨m, gs, _, _, rfl, hm, hg⟩
  rintro _ ⟨m, gs, s7, s9, rfl, hm, hg⟩
  have hgl : gs.length = m := by rw [hg.len, List.length_take, List.length_drop]; omega
  have htl : (xs.take (ni + nr + m)).length = ni + nr + m := by rw [List.length_take]; omega
  refine ec_set (ev_lst (ds := []) ea_nil (by decide)) ?_
  refine ec_seq (M := fun Γ => ∃ (rs : List Reg) (s7 s9 s10 s11 : Sl), Γ = [.raw (.ref p), .dat (.int ni), .dat (.int nr), .dat (.int 5), .own (.lst (xs.map .str)), .own (.lst ((xs.take (ni + nr + m)).map .str)), .own (.lst (gs.map gD)), s7, .own (.lst (rs.map rD)), s9, s10, s11] ∧ rs.map (·.nm) = (xs.drop ni).take nr ∧ (∀ r ∈ rs, TimesOk r ∧ r.net ∈ xs.take (ni + nr + m))) ?_ ?_
  · refine ec_forX (List.range nr) (fun r _ => .int (0 + (r : Nat))) (ds := rngD 0 nr) (it_rng1 (n := nr) (ea_1 (ev_var rfl)) (by omega)) (fun i d h => by
        obtain ⟨hi, rfl⟩ := rngD_get h
        exact ⟨i, by rw [List.getElem?_range hi], rfl⟩) (by rw [rngD_len, List.length_range])
      (fun j Γ => ∃ (rs : List Reg) (s7 s9 s10 s11 : Sl), Γ = [.raw (.ref p), .dat (.int ni), .dat (.int nr), .dat (.int 5), .own (.lst (xs.map .str)), .own (.lst ((xs.take (ni + nr + m)).map .str)), .own (.lst (gs.map gD)), s7, .own (.lst (rs.map rD)), s9, s10, s11] ∧ rs.map (·.nm) = (xs.drop ni).take j ∧ (∀ r ∈ rs, TimesOk r ∧ r.net ∈ xs.take (ni + nr + m))) ⟨[], _, _, _, _, rfl, rfl, fun _ h => nomatch h⟩ ?_ ?_
    · rintro j k _ hj ⟨rs, s7, s9, s10, s11, rfl, hr, hk2⟩
      have hjn := (List.getElem?_eq_some_iff.mp hj).1
      rw [List.length_range] at hjn
      have hrl : rs.length = j := by
        have := congrArg List.length hr
        rw [List.length_map, List.length_take, List.length_drop] at this
        omega
      obtain ⟨nm, hnm⟩ : ∃ nm, xs[ni + j]? = some nm := ⟨xs[ni + j], List.getElem?_eq_getElem (by omega)⟩
      refine ⟨_, _, tg_name, ?_⟩
      have ln : ∀ {W : Wd} {Γ : List Sl}, Γ[5]? = some (.own (.lst ((xs.take (ni + nr + m)).map .str))) → EvE W (tCB (Dn.rLen K) (tCons (tVar 5) tNil)) Γ (.dat (.int ((ni + nr + m : Nat) : Int))) := fun e => (ev_lenL (ds := (xs.take (ni + nr + m)).map .str) (ev_own e)).to (by rw [List.length_map, htl])
      refine ec_setR (ev_ixLR (ds := (xs.take (ni + nr + m)).map .str) (ev_own rfl) (ir_op0 (g := fun i j => i - j) (S := fun i => i = (ni + nr + m : Nat) - 1) (T := fun i => 0 ≤ i ∧ i < (ni + nr + m : Nat)) (ir_of (ev_bi (g := fun i j => i - j) (ln rfl) ev_int) rfl) (ir_opC (g := fun i j => i / j) (S := fun i => 0 ≤ i ∧ i < (ni + nr + m : Nat)) (T := fun j => j = 2) (ir_lt (ev_draw (m := ((ni + nr + m : Nat) : Int)) rfl (ln rfl) (by omega) (by omega)) fun v hv => ⟨Int.natCast_nonneg v, hv⟩) (ir_of ev_int rfl) ?_) ?_)) ?_
      · rintro i j ⟨h1, h2⟩ rfl
        refine ⟨⟨by decide, by decide⟩, ?_, ?_⟩
        · omega
        · omega
      · rintro i j rfl ⟨h1, h2⟩
        rw [List.length_map, htl]
        exact ⟨by omega, by omega⟩
      rintro _ ⟨d, hd, rfl⟩
      obtain ⟨net, hnet, rfl⟩ := List.mem_map.mp hd
      refine ⟨(fun o h => nomatch h), ?_⟩
      refine ec_setR (ev_call (p := p__law_times K) ((p, ()) : Addr × Unit) (ea_1 (ev_raw rfl)) fits_pl rfl) ?_
      rintro _ ⟨⟨r, rfl, ht⟩, _⟩
      refine ⟨(fun o h => nomatch h), ?_⟩
      refine ec_appR (R := fun s => ∃ b, s = .dat (rD ⟨nm, net, r.e0, r.e1, r.o0, r.o1, r.su, r.ho, b⟩)) rfl (ev_tupR (eaR_c (s := .dat (.str nm)) (ev_ixL (ev_own rfl) (ev_add (ev_var rfl) (ev_var rfl)) ?_) (eaR_c (ev_var rfl) (eaR_c (s := .dat (.tup [.int r.e0, .int r.e1])) (ev_ixT (ev_var rfl) ev_int rfl) (eaR_c (s := .dat (.tup [.int r.o0, .int r.o1])) (ev_ixT (ev_var rfl) ev_int rfl) (eaR_c (s := .dat (.int r.su)) (ev_ixT (ev_var rfl) ev_int rfl) (eaR_c (s := .dat (.int r.ho)) (ev_ixT (ev_var rfl) ev_int rfl) (eaR_d (er_eqB (m := 2) (ev_draw rfl ev_int (by decide) (by decide)) ev_int) eaR_n))))))) ?_) (by rw [List.length_map]; omega) ?_
      · rw [show (ni : Int) + (0 + (j : Int)) = ((ni + j : Nat) : Int) by omega]
        exact atI_map hnm
      · rintro _ ⟨_, rfl, _, rfl, _, rfl, _, rfl, _, rfl, _, rfl, _, _, rfl, ⟨b, rfl⟩, rfl⟩
        exact ⟨[.str nm, .str net, .tup [.int r.e0, .int r.e1], .tup [.int r.o0, .int r.o1], .int r.su, .int r.ho, .bl b], rfl, by simp, b, rfl⟩
      · rintro _ ⟨b, rfl⟩
        refine ⟨_, rfl, rs ++ [⟨nm, net, r.e0, r.e1, r.o0, r.o1, r.su, r.ho, b⟩], _, _, _, _, by rw [List.map_append]; rfl, ?_, fun x hx => ?_⟩
        · rw [List.map_append, hr, take_snoc (x := nm) (by rw [List.getElem?_drop]; exact hnm)]
          rfl
        · rcases List.mem_append.mp hx with q | q
          · exact hk2 x q
          · rw [List.mem_singleton.mp q]
            exact ⟨⟨ht.e0, ht.e1, ht.e2, ht.o0, ht.o1, ht.o2, ht.su, ht.ho, ht.hh⟩, hnet⟩
    · rintro _ ⟨rs, s7, s9, s10, s11, rfl, hr, hk2⟩
      rw [List.length_range] at hr
      exact ⟨rs, _, _, _, _, rfl, hr, hk2⟩
  rintro _ ⟨rs, s7, s9, s10, s11, rfl, hr, hk2⟩
  have hrl : rs.length = nr := by
    have := congrArg List.length hr
    rw [List.length_map, List.length_take, List.length_drop] at this
    omega
  have hsrc : xs.take ni ++ rs.map (·.nm) = kn := by rw [hr, ← hk, ← List.take_add]
  refine ec_ret (s := .dat (cD ⟨xs.take ni, gs, rs⟩)) (ev_tup (ds := [.tup ((xs.take ni).map .str), .tup (gs.map gD), .tup (rs.map rD), .tup []]) (ea_cons (ev_tupL (ev_own_bor (ev_to (k := ni) (ev_own rfl) (eo_some (ev_var rfl)) rfl (by omega)))) (ea_cons (ev_tupL (ev_own rfl)) (ea_cons (ev_tupL (ev_own rfl)) (ea_1 (ev_tup (ds := []) ea_nil (by decide)))))) (by simp)) ⟨_, rfl, ⟨?_, hg.span, fun r h => (hk2 r h).1⟩, by show (xs.take ni).length = ni; rw [List.length_take]; omega⟩
  obtain ⟨o, hp, e, ht⟩ := hg.ord
  have sc : src ⟨xs.take ni, gs, rs⟩ = kn := hsrc
  have pn : (nets ⟨xs.take ni, gs, rs⟩).Perm (xs.take (ni + nr + m)) := by
    unfold nets
    rw [sc, List.take_add, hk, ← e]
    exact (hp.map _).append_left _
  refine ⟨by show (xs.take ni).length ≤ 2; rw [List.length_take]; omega, by show gs.length ≤ 5; omega, by show rs.length ≤ 3; omega, fun e => ?_, ?_, ?_, hg.ok, fun r h => ?_⟩
  · have e : rs = [] := e
    rw [e] at hrl
    simp at hrl
    omega
  · exact pn.nodup_iff.mpr ((List.take_sublist _ _).nodup hnd)
  · rw [sc]
    exact ⟨o, hp.symm, ht⟩
  · obtain ⟨t, hn⟩ := hk2 r h
    exact ⟨pn.mem_iff.mpr hn, t.e0, t.e1, Int.le_trans t.e2 (by decide), t.o0, t.o1, Int.le_trans t.o2 (by decide), ⟨t.su.1, Int.le_trans t.su.2 (by decide)⟩, ⟨t.ho.1, Int.le_trans t.ho.2 (by decide)⟩, t.hh⟩
end Sg
/-! W24: the draws of the clock and of the run. -/
namespace Sg
open PySem PySem.Spec PyProof.Rows L2 Dn
variable {P : Program} {w : World} {K : PySem.W.Frag} {mg : Str → Option Value} {base : Heap}
theorem all_map {β : Type} {f : β → D} {S : β → Prop} : ∀ {out : List D}, (∀ e ∈ out, ∃ y, e = f y ∧ S y) → ∃ ys : List β, out = ys.map f ∧ ∀ y ∈ ys, S y
  | [], _ => ⟨[], rfl, fun _ h => nomatch h⟩
  | e :: out, h => by
    obtain ⟨y, rfl, hy⟩ := h e (List.mem_cons_self ..)
    obtain ⟨ys, rfl, hs⟩ := all_map (out := out) fun e he => h e (List.mem_cons_of_mem _ he)
    exact ⟨y :: ys, rfl, fun z hz => (List.mem_cons.mp hz).elim (fun e => e ▸ hy) (hs z)⟩
def n14 (m : Nat) : Prop := 1 ≤ m ∧ m ≤ 4
section
variable {Γ : List Sl} {ta tb te : TE} {p : Addr} {F H : Hp}
/-- range(1 + draw(4)) -/
theorem it_14 {i : Nat} (h0 : Γ[0]? = some (.raw (.ref p))) (hm : Γ[i]? = some (.dat (.int 4))) : ItR (plW p F H) (iRng1 (tCons (tOp (rPlus K) (tC (.int 1)) (tCall (p__law_draw K).sp [] C8.E0 (tCons (tVar 0) (tCons (tVar i) tNil)))) tNil)) Γ fun ds => ∃ m, n14 m ∧ ds = rngD 0 m :=
  itR_rng1 (eaR_d (ir_add (S := fun i => i = 1) (T := fun i => 0 ≤ i ∧ i < 4) (U := fun i => 1 ≤ i ∧ i ≤ 4) (ir_of ev_int rfl) (ir_lt (ev_draw h0 (ev_var hm) (by decide) (by decide)) fun v hv => ⟨Int.natCast_nonneg v, hv⟩) fun i j h1 h2 => by omega) eaR_n) fun ss ⟨_, _, e, ⟨i, e2, h1, h2⟩, e3⟩ => by
    subst e e2 e3
    exact ⟨i.toNat, by rw [Int.toNat_of_nonneg (by omega)], by omega, i.toNat, ⟨by omega, by omega⟩, rfl⟩
end
structure HoldOk (q : Int × Int) : Prop where
  a : q.2 ≤ q.1
  b : q.1 ≤ q.2 + 2
  c : -2 ≤ q.2
  d : q.2 ≤ 8
abbrev A_gc := {c : Circ // GenC c}
def p__law_clock (K : PySem.W.Frag) : Prm (Addr × A_gc) := plP (fun c => [.dat (cD c.1)]) fun c s => ∃ hs : Hs, s = .own (.lst (hs.map pD)) ∧ hs.length = c.1.ins.length ∧ ∀ q ∈ hs, HoldOk q
theorem sc__law_clock : FnScope ["_law_pool_here", "_law_circuit_here", "_law_most", "_law_holds", "_law_net", "_law_until", "_law_row"] ["_law_pool_here", "_law_circuit_here"] (defScope (top 71)) := ⟨rfl, rfl, rfl, by decide +kernel, rfl, by decide +kernel, by decide +kernel⟩
theorem cal__law_clock (G : Gs K mg) : C8.Cal P w K mg base 3 "_law_clock" (p__law_clock K).sp [] := by
  have c__law_draw := cal__law_draw (P := P) (w := w) (base := base) G
  refine Prm.cal (p__law_clock K) G.d__law_clock G.g__law_clock sc__law_clock (fun _ _ _ _ _ _ us hl => match us, hl with | [_, _], _ => rfl) (fun _ => rfl) (fun cdv A' outer s H E hr => ⟨_, (PSs.nox (pss_cons (psx 2 sc__law_clock.nd (pe_ifExp (pt_cmpR op_gt (pe_callB (k_len (K := K)) (by rfl) G.f_len (by decide +kernel) (pa_cons (pe_ix (k_ix (K := K)) (pvx 1) pe_int (fun _ _ => rfl)) pa_nil)) pe_int (nomark _)) (pe_callB (k_max (K := K)) (by rfl) G.f_max (by decide +kernel) (pa_cons (pe_lc (own := [("_law_row", 6)]) (g := (gName 6)) (by rfl) sc__law_clock.nd (k_seq (K := K) (pe_ix (k_ix (K := K)) (pvx 1) pe_int (fun _ _ => rfl))) (blkOk_by (by kernel_rfl)) (fun _ _ _ _ _ => (pgx 6 sc__law_clock.nd)) (fun _ _ _ _ _ => pts_nil) (fun _ _ _ _ _ => (pe_op (k_plus (K := K)) (pe_ix (k_ix (K := K)) (pe_ix (k_ix (K := K)) (pvx 6) pe_int (fun _ _ => rfl)) pe_int (fun _ _ => rfl)) (pe_ix (k_ix (K := K)) (pvx 6) pe_int (fun _ _ => rfl))))) pa_nil)) pe_int)) (pss_cons (psx 3 sc__law_clock.nd (pe_lst pa_nil)) (pss_cons (ps_for PassesOwn.never (by rfl) (k_seq (K := K) (pe_ix (k_ix (K := K)) (pvx 1) pe_int (fun _ _ => rfl))) (pgx 4 sc__law_clock.nd) (pss_cons (psx 5 sc__law_clock.nd (pe_op (k_plus (K := K)) (pvx 2) (pe_ix (k_ix (K := K)) (pe_tup (pa_cons pe_int (pa_cons pe_int (pa_cons pe_int (pa_cons pe_int (pa_cons (pe_un un_neg pe_int) pa_nil)))))) (C8.pe_c c__law_draw hr (by decide) (by rfl) (pa_cons (pvx 0) (pa_cons pe_int pa_nil))) (fun _ _ => rfl)))) (pss_one (ps_expr (k_app (K := K) (pvx 3) (pa_cons (pe_tup (pa_cons (pe_op (k_plus (K := K)) (pvx 5) (C8.pe_c c__law_draw hr (by decide) (by rfl) (pa_cons (pvx 0) (pa_cons pe_int pa_nil)))) (pa_cons (pvx 5) pa_nil))) pa_nil)))))) (pss_one (ps_ret (pvx 3))))))), ?_⟩)
  rintro ⟨p, c, hc⟩ F H
  have hw := hc.wf
  have h3 := hw.r
  have hi2 := hw.i
  have nn : c.regs.map (fun r => r.e1 + r.ho) ≠ [] := fun e => hw.r1 (List.map_eq_nil_iff.mp e)
  show Ec (plW p F H) _ [.raw (.ref p), .dat (cD c), .no, .no, .no, .no, .no] _
  refine ec_set (s := .dat (.int (maxI (c.regs.map fun r => r.e1 + r.ho)))) (ev_if (b := true) ((et_bb (g := fun i j => decide (i > j)) (ev_lenT (ds := c.regs.map rD) (ev_ixT (ev_var rfl) ev_int rfl)) ev_int).to (decide_eq_true (by
    have := List.length_pos_iff.mpr hw.r1
    rw [List.length_map]; omega))) (fun _ => ev_maxL (ns := c.regs.map fun r => r.e1 + r.ho) (ev_own_bor ((ev_lcX c.regs rD (fun r => .int (r.e1 + r.ho)) (it_tup (ev_ixT (ev_var rfl) ev_int rfl)) (by omega) fun i r hr => ⟨_, _, tg_name, fun _ h => h, ev_add (ev_ixT (ev_ixT (ev_var rfl) ev_int rfl) ev_int rfl) (ev_ixT (ev_var rfl) ev_int rfl)⟩).to (by rw [List.map_map]; rfl))) nn) fun h => nomatch h) ?_
  have hm : 0 ≤ maxI (c.regs.map fun r => r.e1 + r.ho) ∧ maxI (c.regs.map fun r => r.e1 + r.ho) ≤ 6 := by
    obtain ⟨r, hr, e⟩ := List.mem_map.mp (maxI_mem nn)
    have t := hc.tm r hr
    have t1 := t.e0
    have t2 := t.e1
    have t3 := t.e2
    have t4 := t.ho
    omega
  generalize maxI (c.regs.map fun r => r.e1 + r.ho) = mo at hm
  refine ec_set (ev_lst (ds := []) ea_nil (by decide)) ?_
  refine ec_seq (M := fun Γ => ∃ (hs : Hs) (s4 s5 : Sl), Γ = [.raw (.ref p), .dat (cD c), .dat (.int mo), .own (.lst (hs.map pD)), s4, s5, .no] ∧ hs.length = c.ins.length ∧ ∀ q ∈ hs, HoldOk q) ?_ ?_
  · refine ec_forX c.ins (fun _ n => .str n) (ds := c.ins.map .str) (it_tup (ev_ixT (ev_var rfl) ev_int rfl)) (fun i d h => map_get h) (by rw [List.length_map]) (fun i Γ => ∃ (hs : Hs) (s4 s5 : Sl), Γ = [.raw (.ref p), .dat (cD c), .dat (.int mo), .own (.lst (hs.map pD)), s4, s5, .no] ∧ hs.length = i ∧ ∀ q ∈ hs, HoldOk q) ⟨[], _, _, rfl, rfl, fun _ h => nomatch h⟩ ?_ fun _ h => h
    rintro i n _ hn ⟨hs, s4, s5, rfl, hl, hq⟩
    have hil := (List.getElem?_eq_some_iff.mp hn).1
    refine ⟨_, _, tg_name, ?_⟩
    refine ec_setR (ir_add (U := fun i => -2 ≤ i ∧ i ≤ 8) (S := fun i => i = mo) (ir_of (ev_var rfl) rfl) (ir_pick (ns := [1, 1, 2, 0, -2]) (m := 5) (ev_tup (ds := [.int 1, .int 1, .int 2, .int 0, .int (-2)]) (ea_cons ev_int (ea_cons ev_int (ea_cons ev_int (ea_cons ev_int (ea_1 (ev_neg ev_int)))))) (by decide)) (ev_draw rfl ev_int (by decide) (by decide)) (by decide)) ?_) ?_
    · rintro i j rfl hj
      have hj : -2 ≤ j ∧ j ≤ 2 := by
        revert j
        decide
      omega
    rintro _ ⟨u, rfl, hu⟩
    refine ⟨(fun o h => nomatch h), ?_⟩
    refine ec_appR (R := fun s => ∃ q, s = .dat (pD q) ∧ HoldOk q) rfl (ev_tupR (eaR_d (ir_add (S := fun i => i = u) (T := fun i => 0 ≤ i ∧ i ≤ 2) (U := fun i => u ≤ i ∧ i ≤ u + 2) (ir_of (ev_var rfl) rfl) (ir_lt (ev_draw (m := 3) rfl ev_int (by decide) (by decide)) fun v hv => by omega) fun i j h1 h2 => by omega) (eaR_c (ev_var rfl) eaR_n)) ?_) (by rw [List.length_map]; omega) ?_
    · rintro _ ⟨_, _, rfl, ⟨i, rfl, h1, h2⟩, _, rfl, rfl⟩
      exact ⟨[.int i, .int u], rfl, by simp, (i, u), rfl, h1, h2, hu.1, hu.2⟩
    · rintro _ ⟨q, rfl, h⟩
      refine ⟨_, rfl, hs ++ [q], _, _, by rw [List.map_append]; rfl, by rw [List.length_append, hl]; rfl, fun x hx => ?_⟩
      rcases List.mem_append.mp hx with z | z
      · exact hq x z
      · rw [List.mem_singleton.mp z]; exact h
  · rintro _ ⟨hs, s4, s5, rfl, hl, hq⟩
    exact ec_retO rfl ⟨hs, rfl, hl, hq⟩
/-! bits -/
abbrev A_n10 := {n : Nat // n ≤ 10}
def p__law_vector (K : PySem.W.Frag) : Prm (Addr × A_n10) := plP (fun n => [.dat (.int n.1)]) fun n s => ∃ b : List Bool, s = .dat (bT b) ∧ b.length = n.1
theorem sc__law_vector : FnScope ["_law_pool_here", "_law_many", "_law_k"] ["_law_pool_here", "_law_many"] (defScope (top 61)) := ⟨rfl, rfl, rfl, by decide +kernel, rfl, by decide +kernel, by decide +kernel⟩
theorem cal__law_vector (G : Gs K mg) : C8.Cal P w K mg base 3 "_law_vector" (p__law_vector K).sp [] := by
  have c__law_draw := cal__law_draw (P := P) (w := w) (base := base) G
  refine Prm.cal (p__law_vector K) G.d__law_vector G.g__law_vector sc__law_vector (fun _ _ _ _ _ _ us hl => match us, hl with | [_, _], _ => rfl) (fun _ => rfl) (fun cdv A' outer s H E hr => ⟨_, (PSs.nox (pss_one (ps_ret (pe_callTy (k_tuple (K := K)) (by rfl) G.f_tuple (by decide +kernel) (pa_cons (pe_lc (own := [("_law_k", 2)]) (g := (gName 2)) (by rfl) sc__law_vector.nd (pi_range1 (by rfl) G.f_range (pa_cons (pvx 1) pa_nil)) (blkOk_by (by kernel_rfl)) (fun _ _ _ _ _ => (pgx 2 sc__law_vector.nd)) (fun _ _ _ _ _ => pts_nil) (fun _ _ _ _ _ => (pe_cmpR op_eq (C8.pe_c c__law_draw hr (by decide) (by rfl) (pa_cons (pvx 0) (pa_cons pe_int pa_nil))) pe_int (nomark _)))) pa_nil))))), ?_⟩)
  rintro ⟨p, n, hn⟩ F H
  show Ec (plW p F H) _ [.raw (.ref p), .dat (.int n), .no] _
  refine ec_retR (R := fun s => ∃ b : List Bool, s = .dat (bT b) ∧ b.length = n) (ev_tupLR (ev_lcXR (List.range n) (fun k => .int (0 + (k : Nat))) (fun _ d => ∃ b, d = .bl b ∧ True) (it_rng1 (n := n) (ea_1 (ev_var rfl)) (by omega)) (by rw [List.length_range]; omega) fun i k hk => ⟨_, _, tg_name, fun _ h => h, (ev_eqR (m := 2) (ev_draw rfl ev_int (by decide) (by decide)) ev_int).imp ?_⟩) ?_) ?_
  · rintro _ ⟨b, rfl⟩
    exact ⟨_, rfl, b, rfl, trivial⟩
  · rintro _ ⟨out, rfl, hp⟩
    obtain ⟨bs, rfl, hl, _⟩ := paired_map (f := D.bl) (S := fun _ => True) (fun x d h => h) hp
    rw [List.length_range] at hl
    exact ⟨_, rfl, bs, rfl, hl⟩
  · rintro _ ⟨b, rfl, h⟩
    exact ⟨(fun o h => nomatch h), b, rfl, h⟩
def bsD (b : List Bool) : D := .lst (b.map .bl)
def p__law_bools (K : PySem.W.Frag) : Prm (Addr × Unit) := plP (fun _ => [.dat (.int 4)]) fun _ s => ∃ b : List Bool, s = .own (.lst (b.map .bl)) ∧ n14 b.length
theorem sc__law_bools : FnScope ["_law_pool_here", "_law_most", "_law_k"] ["_law_pool_here", "_law_most"] (defScope (top 75)) := ⟨rfl, rfl, rfl, by decide +kernel, rfl, by decide +kernel, by decide +kernel⟩
theorem cal__law_bools (G : Gs K mg) : C8.Cal P w K mg base 3 "_law_bools" (p__law_bools K).sp [] := by
  have c__law_draw := cal__law_draw (P := P) (w := w) (base := base) G
  refine Prm.cal (p__law_bools K) G.d__law_bools G.g__law_bools sc__law_bools (fun _ _ _ _ _ _ us hl => match us, hl with | [_, _], _ => rfl) (fun _ => rfl) (fun cdv A' outer s H E hr => ⟨_, (PSs.nox (pss_one (ps_ret (pe_lc (own := [("_law_k", 2)]) (g := (gName 2)) (by rfl) sc__law_bools.nd (pi_range1 (by rfl) G.f_range (pa_cons (pe_op (k_plus (K := K)) pe_int (C8.pe_c c__law_draw hr (by decide) (by rfl) (pa_cons (pvx 0) (pa_cons (pvx 1) pa_nil)))) pa_nil)) (blkOk_by (by kernel_rfl)) (fun _ _ _ _ _ => (pgx 2 sc__law_bools.nd)) (fun _ _ _ _ _ => pts_nil) (fun _ _ _ _ _ => (pe_cmpR op_eq (C8.pe_c c__law_draw hr (by decide) (by rfl) (pa_cons (pvx 0) (pa_cons pe_int pa_nil))) pe_int (nomark _))))))), ?_⟩)
  rintro ⟨p, u⟩ F H
  show Ec (plW p F H) _ [.raw (.ref p), .dat (.int 4), .no] _
  refine ec_retR (ev_lcN (n := n14) (fun d => ∃ b, d = .bl b ∧ True) (it_14 rfl rfl) (fun m h => by have := h.2; omega) fun m i hm hi => ⟨_, _, tg_name, fun _ h => h, (ev_eqR (m := 2) (ev_draw rfl ev_int (by decide) (by decide)) ev_int).imp ?_⟩) ?_
  · rintro _ ⟨b, rfl⟩
    exact ⟨_, rfl, b, rfl, trivial⟩
  · rintro _ ⟨m, out, hm, rfl, hl, ho⟩
    obtain ⟨bs, rfl, _⟩ := all_map (f := D.bl) (S := fun _ => True) ho
    rw [List.length_map] at hl
    exact ⟨(fun o h => nomatch h), bs, rfl, by rw [hl]; exact hm⟩
/-! delays -/
structure DrD (c : Circ) (l : Dls) : Prop where
  ok : DlOk c l
  small : ∀ rows ∈ l, ∀ r ∈ rows, r.length ≤ 4
def p__law_delays (K : PySem.W.Frag) : Prm (Addr × A_gc) := plP (fun c => [.dat (cD c.1), .dat (.int 4)]) fun c s => ∃ l, s = .own (.lst (l.map rowsD)) ∧ DrD c.1 l
theorem sc__law_delays : FnScope ["_law_pool_here", "_law_circuit_here", "_law_most", "_law_rows", "_law_gate_here", "_law_row", "_law_span_here", "_law_k"] ["_law_pool_here", "_law_circuit_here", "_law_most"] (defScope (top 65)) := ⟨rfl, rfl, rfl, by decide +kernel, rfl, by decide +kernel, by decide +kernel⟩
theorem cal__law_delays (G : Gs K mg) : C8.Cal P w K mg base 3 "_law_delays" (p__law_delays K).sp [] := by
  have c__law_draw := cal__law_draw (P := P) (w := w) (base := base) G
  refine Prm.cal (p__law_delays K) G.d__law_delays G.g__law_delays sc__law_delays (fun _ _ _ _ _ _ us hl => match us, hl with | [_, _, _], _ => rfl) (fun _ => rfl) (fun cdv A' outer s H E hr => ⟨_, (PSs.nox (pss_cons (psx 3 sc__law_delays.nd (pe_lst pa_nil)) (pss_cons (ps_for PassesOwn.never (by rfl) (k_seq (K := K) (pe_ix (k_ix (K := K)) (pvx 1) pe_int (fun _ _ => rfl))) (pgx 4 sc__law_delays.nd) (pss_cons (psx 5 sc__law_delays.nd (pe_lst pa_nil)) (pss_cons (ps_for PassesOwn.never (by rfl) (k_seq (K := K) (pe_ix (k_ix (K := K)) (pvx 4) pe_int (fun _ _ => rfl))) (pgx 6 sc__law_delays.nd) (pss_one (ps_expr (k_app (K := K) (pvx 5) (pa_cons (pe_lc (own := [("_law_k", 7)]) (g := (gName 7)) (by rfl) sc__law_delays.nd (pi_range1 (by rfl) G.f_range (pa_cons (pe_op (k_plus (K := K)) pe_int (C8.pe_c c__law_draw hr (by decide) (by rfl) (pa_cons (pvx 0) (pa_cons (pvx 2) pa_nil)))) pa_nil)) (blkOk_by (by kernel_rfl)) (fun _ _ _ _ _ => (pgx 7 sc__law_delays.nd)) (fun _ _ _ _ _ => pts_nil) (fun _ _ _ _ _ => (pe_op (k_plus (K := K)) (pe_ix (k_ix (K := K)) (pvx 6) pe_int (fun _ _ => rfl)) (C8.pe_c c__law_draw hr (by decide) (by rfl) (pa_cons (pvx 0) (pa_cons (pe_op (k_plus (K := K)) (pe_op op_sub (pe_ix (k_ix (K := K)) (pvx 6) pe_int (fun _ _ => rfl)) (pe_ix (k_ix (K := K)) (pvx 6) pe_int (fun _ _ => rfl))) pe_int) pa_nil)))))) pa_nil))))) (pss_one (ps_expr (k_app (K := K) (pvx 3) (pa_cons (pvx 5) pa_nil))))))) (pss_one (ps_ret (pvx 3)))))), ?_⟩)
  rintro ⟨p, c, hc⟩ F H
  have hw := hc.wf
  have hg5 := hw.g
  show Ec (plW p F H) _ [.raw (.ref p), .dat (cD c), .dat (.int 4), .no, .no, .no, .no, .no] _
  refine ec_set (ev_lst (ds := []) ea_nil (by decide)) ?_
  refine ec_seq (M := fun Γ => ∃ (l : Dls) (s4 s5 s6 : Sl), Γ = [.raw (.ref p), .dat (cD c), .dat (.int 4), .own (.lst (l.map rowsD)), s4, s5, s6, .no] ∧ DrD c l) ?_ ?_
  · refine ec_forX c.gates (fun _ g => gD g) (ds := c.gates.map gD) (it_tup (ev_ixT (ev_var rfl) ev_int rfl)) (fun i d h => map_get h) (by rw [List.length_map]) (fun i Γ => ∃ (l : Dls) (s4 s5 s6 : Sl), Γ = [.raw (.ref p), .dat (cD c), .dat (.int 4), .own (.lst (l.map rowsD)), s4, s5, s6, .no] ∧ l.length = i ∧ (∀ (j : Nat) (g : Gate) (r : List (List Int)), c.gates[j]? = some g → l[j]? = some r → RowsOk g r) ∧ ∀ rows ∈ l, ∀ r ∈ rows, r.length ≤ 4)
      ⟨[], _, _, _, rfl, rfl, (fun _ _ _ _ h => nomatch h), fun _ h => nomatch h⟩ ?_ ?_
    · rintro i g _ hg ⟨l, s4, s5, s6, rfl, hl, hr, hs⟩
      have hi := (List.getElem?_eq_some_iff.mp hg).1
      have hgm := List.mem_of_getElem? hg
      have ok := hw.gate g hgm
      have p3 := ok.pins
      have rl := ok.rng
      refine ⟨_, _, tg_name, ?_⟩
      refine ec_set (ev_lst (ds := []) ea_nil (by decide)) ?_
      refine ec_seq (M := fun Γ => ∃ (rows : List (List Int)) (s6 : Sl), Γ = [.raw (.ref p), .dat (cD c), .dat (.int 4), .own (.lst (l.map rowsD)), .dat (gD g), .own (.lst (rows.map fun r => .lst (r.map .int))), s6, .no] ∧ RowsOk g rows ∧ ∀ r ∈ rows, r.length ≤ 4) ?_ ?_
      · refine ec_forX g.rng (fun _ q => pD q) (ds := g.rng.map pD) (it_tup (ev_ixT (ev_var rfl) ev_int rfl)) (fun i d h => map_get h) (by rw [List.length_map]) (fun j Γ => ∃ (rows : List (List Int)) (s6 : Sl), Γ = [.raw (.ref p), .dat (cD c), .dat (.int 4), .own (.lst (l.map rowsD)), .dat (gD g), .own (.lst (rows.map fun r => .lst (r.map .int))), s6, .no] ∧ rows.length = j ∧ (∀ r ∈ rows, r ≠ [] ∧ r.length ≤ 4) ∧ ∀ (i : Nat) (r : List Int) (p : Int × Int), rows[i]? = some r → g.rng[i]? = some p → ∀ d ∈ r, p.1 ≤ d ∧ d ≤ p.2)
          ⟨[], _, rfl, rfl, (fun _ h => nomatch h), fun _ _ _ h => nomatch h⟩ ?_ ?_
        · rintro j q _ hq ⟨rows, s6, rfl, hrl, hne, hrg⟩
          have hj := (List.getElem?_eq_some_iff.mp hq).1
          have sp := hc.span g hgm q (List.mem_of_getElem? hq)
          refine ⟨_, _, tg_name, ?_⟩
          have q0 : ∀ {W : Wd} {Γ : List Sl}, Γ[6]? = some (.dat (pD q)) → EvE W (tOp (rIx K) (tVar 6) (tC (.int 0))) Γ (.dat (.int q.1)) := fun e => ev_ixT (ds := [.int q.1, .int q.2]) (ev_var e) ev_int rfl
          have q1 : ∀ {W : Wd} {Γ : List Sl}, Γ[6]? = some (.dat (pD q)) → EvE W (tOp (rIx K) (tVar 6) (tC (.int 1))) Γ (.dat (.int q.2)) := fun e => ev_ixT (ds := [.int q.1, .int q.2]) (ev_var e) ev_int rfl
          refine ec_appR (R := fun s => ∃ r : List Int, s = .dat (.lst (r.map .int)) ∧ n14 r.length ∧ ∀ d ∈ r, q.1 ≤ d ∧ d ≤ q.2) rfl ((ev_lcN (n := n14) (fun d => ∃ i, d = .int i ∧ q.1 ≤ i ∧ i ≤ q.2) (it_14 rfl rfl) (fun m h => by have := h.2; omega) fun m i hm hi => ⟨_, _, tg_name, fun _ h => h, (ir_add (S := fun i => i = q.1) (T := fun i => 0 ≤ i ∧ i < q.2 - q.1 + 1) (U := fun i => q.1 ≤ i ∧ i ≤ q.2) (ir_of (q0 rfl) rfl) (ir_lt (ev_draw (m := q.2 - q.1 + 1) rfl (ev_add (ev_bi (g := fun i j => i - j) (q1 rfl) (q0 rfl)) ev_int) (by have := sp.2.1; omega) (by have := sp.1; have := sp.2.2; omega)) fun v hv => ⟨Int.natCast_nonneg v, hv⟩) fun i j h1 h2 => by omega).imp ?_⟩).fz ?_) (by rw [List.length_map]; omega) ?_
          · rintro _ ⟨i, rfl, h⟩
            exact ⟨_, rfl, i, rfl, h⟩
          · rintro _ ⟨m, out, hm, rfl, hl2, ho⟩
            obtain ⟨r, rfl, h⟩ := all_map (f := D.int) (S := fun i => q.1 ≤ i ∧ i ≤ q.2) ho
            rw [List.length_map] at hl2
            exact .inr ⟨_, rfl, r, rfl, by rw [hl2]; exact hm, h⟩
          · rintro _ ⟨r, rfl, h14, hr2⟩
            refine ⟨_, rfl, rows ++ [r], _, by rw [List.map_append]; rfl, by rw [List.length_append, hrl]; rfl, fun x hx => ?_, fun i' x p' hx hp' => ?_⟩
            · rcases List.mem_append.mp hx with z | z
              · exact hne x z
              · rw [List.mem_singleton.mp z]
                exact ⟨fun e => by rw [e] at h14; have := h14.1; simp at this, h14.2⟩
            · by_cases z : i' < rows.length
              · rw [List.getElem?_append_left z] at hx
                exact hrg i' x p' hx hp'
              · rw [List.getElem?_append_right (by omega)] at hx
                have e : i' = j := by
                  have := (List.getElem?_eq_some_iff.mp hx).1
                  simp at this
                  omega
                subst e
                rw [hrl, Nat.sub_self] at hx
                cases hx
                rw [hq] at hp'
                cases hp'
                exact hr2
        · rintro _ ⟨rows, s6, rfl, hrl, hne, hrg⟩
          exact ⟨rows, _, rfl, ⟨by omega, fun r h => (hne r h).1, hrg⟩, fun r h => (hne r h).2⟩
      rintro _ ⟨rows, s6, rfl, hro, hrs⟩
      refine ec_frz 5 rfl ?_
      refine ec_app (d := rowsD rows) rfl (ev_var rfl) (by rw [List.length_map]; omega) ⟨l ++ [rows], _, _, _, by rw [List.map_append]; rfl, by rw [List.length_append, hl]; rfl, fun j g' r hj hr' => ?_, fun x hx => ?_⟩
      · by_cases z : j < l.length
        · rw [List.getElem?_append_left z] at hr'
          exact hr j g' r hj hr'
        · rw [List.getElem?_append_right (by omega)] at hr'
          have e : j = i := by
            have := (List.getElem?_eq_some_iff.mp hr').1
            simp at this
            omega
          subst e
          rw [hl, Nat.sub_self] at hr'
          cases hr'
          rw [hg] at hj
          cases hj
          exact hro
      · rcases List.mem_append.mp hx with z | z
        · exact hs x z
        · rw [List.mem_singleton.mp z]; exact hrs
    · rintro _ ⟨l, s4, s5, s6, rfl, hl, hr, hs⟩
      exact ⟨l, _, _, _, rfl, ⟨hl, hr⟩, hs⟩
  · rintro _ ⟨l, s4, s5, s6, rfl, h⟩
    exact ec_retO rfl ⟨l, rfl, h⟩
end Sg
/-! W25: _law_choices. -/
namespace Sg
open PySem PySem.Spec PyProof.Rows L2 Dn
variable {P : Program} {w : World} {K : PySem.W.Frag} {mg : Str → Option Value} {base : Heap}
theorem ev_lstR {W : Wd} {Γ : List Sl} {ta : TA} {R : List Sl → Prop} {R' : Sl → Prop} (h : EvA W ta Γ R) (hr : ∀ ss, R ss → ∃ ds : List D, ss = ds.map Sl.dat ∧ ds.length ≤ 1000 ∧ R' (.own (.lst ds))) : Ev W (tLst ta) Γ R' := fun σ F H k Q q => h σ F H k _ fun vs F1 H1 ss g1 w z1 => by
  obtain ⟨ds, rfl, hl, w'⟩ := hr ss w
  have r := z1.reps
  refine ⟨by rw [r.length]; exact Nat.le_trans hl (by decide), fun p hp => ?_⟩
  exact q _ _ _ _ (g1.trans (Gr.newO g1.ok hp)) w' ⟨p, rfl, g1.no hp, g1.ok.le.no hp, _, upd_same, r⟩
def isD (e : List Int) : D := .lst (e.map .int)
structure Chc where
  es : List (List Int)
  sh : List (List Bool)
  gu : List (List Bool)
  dl : Dls
def EdOk (r : Reg) (e : List Int) : Prop := n14 e.length ∧ ∀ d ∈ e, r.e0 ≤ d ∧ d ≤ r.e1
structure ChOk (c : Circ) (x : Chc) : Prop where
  el : x.es.length = c.regs.length
  e : ∀ (j : Nat) (r : Reg) (e : List Int), c.regs[j]? = some r → x.es[j]? = some e → EdOk r e
  sl : x.sh.length = (src c).length
  s : ∀ b ∈ x.sh, n14 b.length
  gl : x.gu.length = c.regs.length
  g : ∀ b ∈ x.gu, n14 b.length
  d : DrD c x.dl
def p__law_choices (K : PySem.W.Frag) : Prm (Addr × A_gc) := plP (fun c => [.dat (cD c.1), .dat (.int 4)]) fun c s => ∃ x : Chc, s = .own (.lst [.lst (x.es.map isD), .lst (x.sh.map bsD), .lst (x.gu.map bsD), dlD x.dl]) ∧ ChOk c.1 x
theorem sc__law_choices : FnScope ["_law_pool_here", "_law_circuit_here", "_law_most", "_law_edges", "_law_row", "_law_shakes", "_law_guesses", "_law_net", "_law_k"] ["_law_pool_here", "_law_circuit_here", "_law_most"] (defScope (top 76)) := ⟨rfl, rfl, rfl, by decide +kernel, rfl, by decide +kernel, by decide +kernel⟩
theorem cal__law_choices (G : Gs K mg) : C8.Cal P w K mg base 4 "_law_choices" (p__law_choices K).sp [] := by
  have c__law_bools := cal__law_bools (P := P) (w := w) (base := base) G
  have c__law_delays := cal__law_delays (P := P) (w := w) (base := base) G
  have c__law_draw := cal__law_draw (P := P) (w := w) (base := base) G
  have c__law_sources := cal__law_sources (P := P) (w := w) (base := base) G
  refine Prm.cal (p__law_choices K) G.d__law_choices G.g__law_choices sc__law_choices (fun _ _ _ _ _ _ us hl => match us, hl with | [_, _, _], _ => rfl) (fun _ => rfl) (fun cdv A' outer s H E hr => ⟨_, (PSs.nox (pss_cons (psx 3 sc__law_choices.nd (pe_lst pa_nil)) (pss_cons (ps_for PassesOwn.never (by rfl) (k_seq (K := K) (pe_ix (k_ix (K := K)) (pvx 1) pe_int (fun _ _ => rfl))) (pgx 4 sc__law_choices.nd) (pss_one (ps_expr (k_app (K := K) (pvx 3) (pa_cons (pe_lc (own := [("_law_k", 8)]) (g := (gName 8)) (by rfl) sc__law_choices.nd (pi_range1 (by rfl) G.f_range (pa_cons (pe_op (k_plus (K := K)) pe_int (C8.pe_c c__law_draw hr (by decide) (by rfl) (pa_cons (pvx 0) (pa_cons (pvx 2) pa_nil)))) pa_nil)) (blkOk_by (by kernel_rfl)) (fun _ _ _ _ _ => (pgx 8 sc__law_choices.nd)) (fun _ _ _ _ _ => pts_nil) (fun _ _ _ _ _ => (pe_op (k_plus (K := K)) (pe_ix (k_ix (K := K)) (pe_ix (k_ix (K := K)) (pvx 4) pe_int (fun _ _ => rfl)) pe_int (fun _ _ => rfl)) (C8.pe_c c__law_draw hr (by decide) (by rfl) (pa_cons (pvx 0) (pa_cons (pe_op (k_plus (K := K)) (pe_op op_sub (pe_ix (k_ix (K := K)) (pe_ix (k_ix (K := K)) (pvx 4) pe_int (fun _ _ => rfl)) pe_int (fun _ _ => rfl)) (pe_ix (k_ix (K := K)) (pe_ix (k_ix (K := K)) (pvx 4) pe_int (fun _ _ => rfl)) pe_int (fun _ _ => rfl))) pe_int) pa_nil)))))) pa_nil))))) (pss_cons (ps_setLc (i := 5) (own := [("_law_net", 7)]) (g := (gName 7)) (by rfl) sc__law_choices.nd (by rfl) (by rfl) (by rfl) (k_seq (K := K) (C8.pe_c c__law_sources hr (by decide) (by rfl) (pa_cons (pvx 1) pa_nil))) (blkOk_by (by kernel_rfl)) (fun _ _ _ _ _ => (pgx 7 sc__law_choices.nd)) (fun _ _ _ _ _ => pts_nil) (fun _ _ _ _ _ => (C8.pe_c c__law_bools hr (by decide) (by rfl) (pa_cons (pvx 0) (pa_cons (pvx 2) pa_nil))))) (pss_cons (ps_setLc (i := 6) (own := [("_law_row", 4)]) (g := (gName 4)) (by rfl) sc__law_choices.nd (by rfl) (by rfl) (by rfl) (k_seq (K := K) (pe_ix (k_ix (K := K)) (pvx 1) pe_int (fun _ _ => rfl))) (blkOk_by (by kernel_rfl)) (fun _ _ _ _ _ => (pgx 4 sc__law_choices.nd)) (fun _ _ _ _ _ => pts_nil) (fun _ _ _ _ _ => (C8.pe_c c__law_bools hr (by decide) (by rfl) (pa_cons (pvx 0) (pa_cons (pvx 2) pa_nil))))) (pss_one (ps_ret (pe_lst (pa_cons (pvx 3) (pa_cons (pvx 5) (pa_cons (pvx 6) (pa_cons (C8.pe_c c__law_delays hr (by decide) (by rfl) (pa_cons (pvx 0) (pa_cons (pvx 1) (pa_cons (pvx 2) pa_nil)))) pa_nil)))))))))))), ?_⟩)
  rintro ⟨p, c, hc⟩ F H
  have hw := hc.wf
  have h3 := hw.r
  have h200 := src_len hw.sz
  show Ec (plW p F H) _ [.raw (.ref p), .dat (cD c), .dat (.int 4), .no, .no, .no, .no, .no, .no] _
  refine ec_set (ev_lst (ds := []) ea_nil (by decide)) ?_
  refine ec_seq (M := fun Γ => ∃ (es : List (List Int)) (s4 : Sl), Γ = [.raw (.ref p), .dat (cD c), .dat (.int 4), .own (.lst (es.map isD)), s4, .no, .no, .no, .no] ∧ es.length = c.regs.length ∧ ∀ (j : Nat) (r : Reg) (e : List Int), c.regs[j]? = some r → es[j]? = some e → EdOk r e) ?_ ?_
  · refine ec_forX c.regs (fun _ r => rD r) (ds := c.regs.map rD) (it_tup (ev_ixT (ev_var rfl) ev_int rfl)) (fun i d h => map_get h) (by rw [List.length_map]) (fun i Γ => ∃ (es : List (List Int)) (s4 : Sl), Γ = [.raw (.ref p), .dat (cD c), .dat (.int 4), .own (.lst (es.map isD)), s4, .no, .no, .no, .no] ∧ es.length = i ∧ ∀ (j : Nat) (r : Reg) (e : List Int), c.regs[j]? = some r → es[j]? = some e → EdOk r e)
      ⟨[], _, rfl, rfl, fun _ _ _ _ h => nomatch h⟩ ?_ fun _ h => h
    rintro i r _ hr ⟨es, s4, rfl, hl, he⟩
    have hi := (List.getElem?_eq_some_iff.mp hr).1
    have t := hc.tm r (List.mem_of_getElem? hr)
    refine ⟨_, _, tg_name, ?_⟩
    have q0 : ∀ {W : Wd} {Γ : List Sl}, Γ[4]? = some (.dat (rD r)) → EvE W (tOp (rIx K) (tOp (rIx K) (tVar 4) (tC (.int 2))) (tC (.int 0))) Γ (.dat (.int r.e0)) := fun e => ev_ixT (ds := [.int r.e0, .int r.e1]) (ev_ixT (ev_var e) ev_int rfl) ev_int rfl
    have q1 : ∀ {W : Wd} {Γ : List Sl}, Γ[4]? = some (.dat (rD r)) → EvE W (tOp (rIx K) (tOp (rIx K) (tVar 4) (tC (.int 2))) (tC (.int 1))) Γ (.dat (.int r.e1)) := fun e => ev_ixT (ds := [.int r.e0, .int r.e1]) (ev_ixT (ev_var e) ev_int rfl) ev_int rfl
    refine ec_appR (R := fun s => ∃ e : List Int, s = .dat (isD e) ∧ EdOk r e) rfl ((ev_lcN (n := n14) (fun d => ∃ i, d = .int i ∧ r.e0 ≤ i ∧ i ≤ r.e1) (it_14 rfl rfl) (fun m h => by have := h.2; omega) fun m i hm hi => ⟨_, _, tg_name, fun _ h => h, (ir_add (S := fun i => i = r.e0) (T := fun i => 0 ≤ i ∧ i < r.e1 - r.e0 + 1) (U := fun i => r.e0 ≤ i ∧ i ≤ r.e1) (ir_of (q0 rfl) rfl) (ir_lt (ev_draw (m := r.e1 - r.e0 + 1) rfl (ev_add (ev_bi (g := fun i j => i - j) (q1 rfl) (q0 rfl)) ev_int) (by have := t.e1; omega) (by have := t.e0; have := t.e2; omega)) fun v hv => ⟨Int.natCast_nonneg v, hv⟩) fun i j h1 h2 => by omega).imp ?_⟩).fz ?_) (by rw [List.length_map]; omega) ?_
    · rintro _ ⟨i, rfl, h⟩
      exact ⟨_, rfl, i, rfl, h⟩
    · rintro _ ⟨m, out, hm, rfl, hl2, ho⟩
      obtain ⟨e, rfl, h⟩ := all_map (f := D.int) (S := fun i => r.e0 ≤ i ∧ i ≤ r.e1) ho
      rw [List.length_map] at hl2
      exact .inr ⟨_, rfl, e, rfl, by rw [hl2]; exact hm, h⟩
    · rintro _ ⟨e, rfl, h⟩
      refine ⟨_, rfl, es ++ [e], _, by rw [List.map_append]; rfl, by rw [List.length_append, hl]; rfl, fun j r' x hj hx => ?_⟩
      by_cases z : j < es.length
      · rw [List.getElem?_append_left z] at hx
        exact he j r' x hj hx
      · rw [List.getElem?_append_right (by omega)] at hx
        have e' : j = i := by
          have := (List.getElem?_eq_some_iff.mp hx).1
          simp at this
          omega
        subst e'
        rw [hl, Nat.sub_self] at hx
        cases hx
        rw [hr] at hj
        cases hj
        exact h
  rintro _ ⟨es, s4, rfl, hel, he⟩
  refine ec_setR (R := fun s => ∃ sh : List (List Bool), s = .own (.lst (sh.map bsD)) ∧ sh.length = (src c).length ∧ ∀ b ∈ sh, n14 b.length) ((ev_lcXR (src c) .str (fun _ d => ∃ b, d = bsD b ∧ n14 b.length) (it_list (ev_fL (evf_call (⟨c, hw.sz⟩ : A_sz) (ea_1 (ev_var rfl)) rfl))) (by omega) fun i n hn => ⟨_, _, tg_name, fun _ h => h, (ev_call (p := p__law_bools K) ((p, ()) : Addr × Unit) (ea_cons (ev_raw rfl) (ea_1 (ev_var rfl))) fits_pl rfl).fz ?_⟩).imp ?_) ?_
  · rintro _ ⟨⟨b, rfl, h⟩, _⟩
    exact .inr ⟨_, rfl, _, rfl, b, rfl, h⟩
  · rintro _ ⟨out, rfl, hp⟩
    obtain ⟨bs, rfl, hl, hs⟩ := paired_map (f := bsD) (S := fun b => n14 b.length) (fun x d h => h) hp
    exact ⟨bs, rfl, hl, hs⟩
  rintro _ ⟨sh, rfl, hsl, hs⟩
  refine ⟨(fun o h => nomatch h), ?_⟩
  refine ec_setR (R := fun s => ∃ gu : List (List Bool), s = .own (.lst (gu.map bsD)) ∧ gu.length = c.regs.length ∧ ∀ b ∈ gu, n14 b.length) ((ev_lcXR c.regs rD (fun _ d => ∃ b, d = bsD b ∧ n14 b.length) (it_tup (ev_ixT (ev_var rfl) ev_int rfl)) (by omega) fun i n hn => ⟨_, _, tg_name, fun _ h => h, (ev_call (p := p__law_bools K) ((p, ()) : Addr × Unit) (ea_cons (ev_raw rfl) (ea_1 (ev_var rfl))) fits_pl rfl).fz ?_⟩).imp ?_) ?_
  · rintro _ ⟨⟨b, rfl, h⟩, _⟩
    exact .inr ⟨_, rfl, _, rfl, b, rfl, h⟩
  · rintro _ ⟨out, rfl, hp⟩
    obtain ⟨bs, rfl, hl, hs⟩ := paired_map (f := bsD) (S := fun b => n14 b.length) (fun x d h => h) hp
    exact ⟨bs, rfl, hl, hs⟩
  rintro _ ⟨gu, rfl, hgl, hg⟩
  refine ⟨(fun o h => nomatch h), ?_⟩
  refine ec_frz 3 rfl (ec_frz 5 rfl (ec_frz 6 rfl ?_))
  refine ec_retR (R := fun s => ∃ x : Chc, s = .own (.lst [.lst (x.es.map isD), .lst (x.sh.map bsD), .lst (x.gu.map bsD), dlD x.dl]) ∧ ChOk c x) (ev_lstR (eaR_c (ev_var rfl) (eaR_c (ev_var rfl) (eaR_c (ev_var rfl) (eaR_d (A := fun s => ∃ l, s = .dat (dlD l) ∧ DrD c l) ((ev_call (p := p__law_delays K) ((p, ⟨c, hc⟩) : Addr × A_gc) (ea_cons (ev_raw rfl) (ea_cons (ev_var rfl) (ea_1 (ev_var rfl)))) fits_pl rfl).fz ?_) eaR_n)))) ?_) ?_
  · rintro _ ⟨⟨l, rfl, h⟩, _⟩
    exact .inr ⟨_, rfl, l, rfl, h⟩
  · rintro _ ⟨_, rfl, _, rfl, _, rfl, _, _, rfl, ⟨l, rfl, h⟩, rfl⟩
    exact ⟨[.lst (es.map isD), .lst (sh.map bsD), .lst (gu.map bsD), dlD l], rfl, by simp, ⟨es, sh, gu, l⟩, rfl, hel, he, hsl, hs, hgl, hg, h⟩
  · rintro _ ⟨x, rfl, h⟩
    exact ⟨(fun o h => nomatch h), x, rfl, h⟩
end Sg
/-! W26: _law_sums. -/
namespace Sg
open PySem PySem.Spec PyProof.Rows L2 Dn
variable {P : Program} {w : World} {K : PySem.W.Frag} {mg : Str → Option Value} {base : Heap}
theorem ev_dget2 {W : Wd} {Γ : List Sl} {td ty tx : TE} {kvs : List (Key × D)} {k : Key} {d : D} (h1 : EvE W td Γ (.bor (.dic kvs))) (h2 : EvE W ty Γ (.dat (kD k))) (h3 : EvE W tx Γ (.dat d)) : EvE W (tDGet2 td ty tx) Γ (.dat ((lk kvs k).getD d)) := fun σ F H ko Q q =>
  h1 σ F H ko _ fun x F1 H1 g1 z1 => by
    obtain ⟨a0, ex, ma0, xs0, e0, r0⟩ := id z1
    refine ⟨a0, ex, .inl ⟨xs0, .inl e0⟩, h2 σ F1 H1 (ko.gr g1) _ fun y F2 H2 g2 z2 => h3 σ F2 H2 ((ko.gr g1).gr g2) _ fun z F3 H3 g3 z3 => ?_⟩
    obtain ⟨a, rfl, ma, xs, e1, r1⟩ := (z1.gr ko.ok.mh g2).gr ko.ok.mh g3
    cases ex
    rw [key_rep z2]
    refine ⟨valV xs k, .inl ⟨xs, k, .inl e1, rfl, rfl⟩, ?_⟩
    rcases r1.val k with ⟨e, e'⟩ | ⟨v, d', e, ev, r⟩
    · rw [e'] 
      rw [e] at q
      exact q z F3 H3 ((g1.trans g2).trans g3) z3
    · rw [ev]
      rw [e] at q
      exact q v F3 H3 ((g1.trans g2).trans g3) r
theorem Pth.atS {c : Circ} (w : WF c) {s n : Str} {a b : Int} (p : Pth c s n a b) (hn : n ∈ src c) : n = s ∧ a = 0 ∧ b = 0 := by
  cases p with
  | nil => exact ⟨rfl, rfl, rfl⟩
  | snoc _ hg _ _ => exact absurd rfl (src_gate w.nd hn _ hg)
theorem Pth.atG {c : Circ} (w : WF c) {s : Str} {g : Gate} {a b : Int} (hs : s ∈ src c) (hg : g ∈ c.gates) {m : Str} (hm : m = g.nm) (p : Pth c s m a b) : ∃ (i : Nat) (n : Str) (lo hi a' b' : Int), g.nets[i]? = some n ∧ g.rng[i]? = some (lo, hi) ∧ Pth c s n a' b' ∧ a = a' + lo ∧ b = b' + hi := by
  cases p with
  | nil => exact absurd hm.symm (src_gate w.nd hs g hg)
  | @snoc n a' b' lo hi g' i p hg' hn hr =>
    have := gate_inj w.nd hg' hg hm
    subst this
    exact ⟨i, n, lo, hi, a', b', hn, hr, p, rfl, rfl⟩
/-- what the dict tells of a net -/
def Ent (c : Circ) (s : Str) (kvs : List (Key × D)) (n : Str) : Prop := (lk kvs (.inr n) = none ∧ ∀ a b, ¬ Pth c s n a b) ∨ ∃ mn mx, lk kvs (.inr n) = some (.lst [pD (mn, mx)]) ∧ Long c s false n (-mn) ∧ Long c s true n mx
structure FdOk (c : Circ) (s : Str) (g : Gate) (j : Nat) (fd : List (Int × Int)) : Prop where
  len : fd.length ≤ j
  a : ∀ q ∈ fd, (∃ b, Pth c s g.nm q.1 b) ∧ ∃ a, Pth c s g.nm a q.2
  b : ∀ (i : Nat) (n : Str) (lo hi : Int), i < j → g.nets[i]? = some n → g.rng[i]? = some (lo, hi) → ∀ a b, Pth c s n a b → ∃ q ∈ fd, q.1 ≤ a + lo ∧ b + hi ≤ q.2
abbrev A_su := {x : Circ × Str // WF x.1 ∧ x.2 ∈ src x.1}
def p__law_sums (K : PySem.W.Frag) : Prm A_su := .pu (fun x => [.dat (cD x.1.1), .dat (.str x.1.2)]) fun x s => ∃ kvs, s = .own (.dic kvs) ∧ ∀ n ∈ nets x.1.1, Ent x.1.1 x.1.2 kvs n
theorem sc__law_sums : FnScope ["_law_circuit_here", "_law_source", "_law_rows", "_law_gate_here", "_law_found", "_law_k", "_law_pair"] ["_law_circuit_here", "_law_source"] (defScope (top 78)) := ⟨rfl, rfl, rfl, by decide +kernel, rfl, by decide +kernel, by decide +kernel⟩
theorem cal__law_sums (G : Gs K mg) : C8.Cal P w K mg base 3 "_law_sums" (p__law_sums K).sp [] := by
  have c__law_sorted_gates := cal__law_sorted_gates (P := P) (w := w) (base := base) G
  refine Prm.cal (p__law_sums K) G.d__law_sums G.g__law_sums sc__law_sums (fun _ _ _ _ _ _ us hl => match us, hl with | [_, _], _ => rfl) (fun _ => rfl) (fun cdv A' outer s H E hr => ⟨_, (PSs.nox (pss_cons (psx 2 sc__law_sums.nd (pe_disp (pps_cons (pvx 1) (pe_lst (pa_cons (pe_tup (pa_cons pe_int (pa_cons pe_int pa_nil))) pa_nil)) pps_nil) (by rfl) (by rfl) (by simp) (by decide))) (pss_cons (ps_for PassesOwn.never (by rfl) (k_seq (K := K) (C8.pe_c c__law_sorted_gates hr (by decide) (by rfl) (pa_cons (pvx 0) pa_nil))) (pgx 3 sc__law_sums.nd) (pss_cons (psx 4 sc__law_sums.nd (pe_lst pa_nil)) (pss_cons (ps_for PassesOwn.never (by rfl) (pi_range1 (by rfl) G.f_range (pa_cons (pe_callB (k_len (K := K)) (by rfl) G.f_len (by decide +kernel) (pa_cons (pe_ix (k_ix (K := K)) (pvx 3) pe_int (fun _ _ => rfl)) pa_nil)) pa_nil)) (pgx 5 sc__law_sums.nd) (pss_one (ps_for PassesOwn.never (by rfl) (k_seq (K := K) (pe_dget2 (hu_of hr) (pvx 2) (pe_ix (k_ix (K := K)) (pe_ix (k_ix (K := K)) (pvx 3) pe_int (fun _ _ => rfl)) (pvx 5) (fun _ _ => rfl)) (pe_lst pa_nil) ⟨rfl, rfl, rfl, rfl⟩)) (pgx 6 sc__law_sums.nd) (pss_one (ps_expr (k_app (K := K) (pvx 4) (pa_cons (pe_tup (pa_cons (pe_op (k_plus (K := K)) (pe_ix (k_ix (K := K)) (pvx 6) pe_int (fun _ _ => rfl)) (pe_ix (k_ix (K := K)) (pe_ix (k_ix (K := K)) (pe_ix (k_ix (K := K)) (pvx 3) pe_int (fun _ _ => rfl)) (pvx 5) (fun _ _ => rfl)) pe_int (fun _ _ => rfl))) (pa_cons (pe_op (k_plus (K := K)) (pe_ix (k_ix (K := K)) (pvx 6) pe_int (fun _ _ => rfl)) (pe_ix (k_ix (K := K)) (pe_ix (k_ix (K := K)) (pe_ix (k_ix (K := K)) (pvx 3) pe_int (fun _ _ => rfl)) (pvx 5) (fun _ _ => rfl)) pe_int (fun _ _ => rfl))) pa_nil))) pa_nil))))))) (pss_one (ps_if (pt_cmpR op_gt (pe_callB (k_len (K := K)) (by rfl) G.f_len (by decide +kernel) (pa_cons (pvx 4) pa_nil)) pe_int (nomark _)) (pss_one (ps_dput (hu_of hr) (pvx 2) (pe_ix (k_ix (K := K)) (pvx 3) pe_int (fun _ _ => rfl)) (pe_lst (pa_cons (pe_tup (pa_cons (pe_callB (k_min (K := K)) (by rfl) G.f_min (by decide +kernel) (pa_cons (pe_lc (own := [("_law_pair", 6)]) (g := (gName 6)) (by rfl) sc__law_sums.nd (k_seq (K := K) (pvx 4)) (blkOk_by (by kernel_rfl)) (fun _ _ _ _ _ => (pgx 6 sc__law_sums.nd)) (fun _ _ _ _ _ => pts_nil) (fun _ _ _ _ _ => (pe_ix (k_ix (K := K)) (pvx 6) pe_int (fun _ _ => rfl)))) pa_nil)) (pa_cons (pe_callB (k_max (K := K)) (by rfl) G.f_max (by decide +kernel) (pa_cons (pe_lc (own := [("_law_pair", 6)]) (g := (gName 6)) (by rfl) sc__law_sums.nd (k_seq (K := K) (pvx 4)) (blkOk_by (by kernel_rfl)) (fun _ _ _ _ _ => (pgx 6 sc__law_sums.nd)) (fun _ _ _ _ _ => pts_nil) (fun _ _ _ _ _ => (pe_ix (k_ix (K := K)) (pvx 6) pe_int (fun _ _ => rfl)))) pa_nil)) pa_nil))) pa_nil)) (by rfl))) pss_nil))))) (pss_one (ps_ret (pvx 2)))))), ?_⟩)
  rintro ⟨⟨c, s⟩, hc, hs⟩ F H
  have hc : WF c := hc
  have hs : s ∈ src c := hs
  have hg5 := hc.g
  show Ec _ _ [.dat (cD c), .dat (.str s), .no, .no, .no, .no, .no] _
  refine ec_set (s := .own (.dic [(.inr s, .lst [pD (0, 0)])])) (ev_disp1 (ky := .inr s) (ev_var rfl) (ev_fL (ev_lst (ds := [pD (0, 0)]) (ea_1 (ev_tup (ds := [.int 0, .int 0]) (ea_cons ev_int (ea_1 ev_int)) (by decide))) (by simp)))) ?_
  refine ec_seq (M := fun Γ => ∃ kvs s3 s4 s5 s6, Γ = [.dat (cD c), .dat (.str s), .own (.dic kvs), s3, s4, s5, s6] ∧ ∀ n ∈ nets c, Ent c s kvs n) ?_ ?_
  · refine ec_forR (S := fun ds => ∃ gs, ds = gs.map gD ∧ FG c gs ∧ gs.length = c.gates.length) (itR_seq ((ev_call (p := p__law_sorted_gates K) (⟨c, hc⟩ : A_wf) (ea_1 (ev_var rfl)) fits_pure rfl).fz (R' := fun s => ∃ gs, s = .dat (.lst (gs.map gD)) ∧ FG c gs ∧ gs.length = c.gates.length) ?_) ?_)
      (fun ds i Γ => ∃ gs kvs s3 s4 s5 s6, ds = gs.map gD ∧ FG c gs ∧ gs.length = c.gates.length ∧ Γ = [.dat (cD c), .dat (.str s), .own (.dic kvs), s3, s4, s5, s6] ∧ kvs.length ≤ 1 + i ∧ (∀ n, n ∉ plc c (gs.take i) → lk kvs (.inr n) = none) ∧ ∀ n ∈ plc c (gs.take i), Ent c s kvs n) ?_ ?_ ?_
    · rintro s ⟨⟨gs, rfl, h1, h2⟩, _⟩
      exact .inr ⟨_, rfl, gs, rfl, h1, h2⟩
    · rintro s ⟨gs, rfl, h1, h2⟩
      exact ⟨_, gs.map gD, ⟨gs, rfl, h1, h2⟩, rfl, .inl ⟨true, rfl⟩⟩
    · rintro ds ⟨gs, rfl, h1, h2⟩
      refine ⟨gs, _, _, _, _, _, rfl, h1, h2, rfl, Nat.le_refl _, fun n hn => ?_, fun n hn => ?_⟩
      · rw [lk_cons, if_neg (fun z => hn (by rw [← Sum.inr.inj z]; exact List.mem_append_left _ hs)), lk_nil]
      unfold plc at hn
      rw [List.take_zero, List.map_nil, List.append_nil] at hn
      by_cases e : s = n
      · subst e
        refine .inr ⟨0, 0, by rw [lk_cons, if_pos rfl], ⟨⟨0, 0, .nil, rfl⟩, fun a b p => ?_⟩, ⟨0, 0, .nil, rfl⟩, fun a b p => ?_⟩
        · obtain ⟨_, rfl, rfl⟩ := p.atS hc hn
          decide
        · obtain ⟨_, rfl, rfl⟩ := p.atS hc hn
          decide
      · exact .inl ⟨by rw [lk_cons, if_neg (fun z => e (Sum.inr.inj z)), lk_nil], fun a b p => e (p.atS hc hn).1.symm⟩
    · rintro ds i d _ _ hd ⟨gs, kvs, s3, s4, s5, s6, rfl, hF, hL, rfl, hkl, hN, hE⟩
      obtain ⟨g, hg, rfl⟩ := map_get hd
      have hi := (List.getElem?_eq_some_iff.mp hg).1
      have hgm := hF.sub g (List.mem_of_getElem? hg)
      have ok := hc.gate g hgm
      have p3 := ok.pins
      have rl := ok.rng
      have rdy : ∀ n ∈ g.nets, n ∈ plc c (gs.take i) := fun n hn => by
        have e := split_at hg
        have tp := hF.tp
        rw [e] at tp
        rcases topo_split tp n hn with q | ⟨g', hg', en⟩
        · exact List.mem_append_left _ q
        · exact List.mem_append_right _ (List.mem_map.mpr ⟨g', hg', en⟩)
      refine ⟨_, _, tg_name, ?_⟩
      refine ec_set (ev_lst (ds := []) ea_nil (by decide)) ?_
      refine ec_seq (M := fun Γ => ∃ (fd : List (Int × Int)) (s5 s6 : Sl), Γ = [.dat (cD c), .dat (.str s), .own (.dic kvs), .dat (gD g), .own (.lst (fd.map pD)), s5, s6] ∧ FdOk c s g g.nets.length fd) ?_ ?_
      · refine ec_forX (List.range g.nets.length) (fun r _ => .int (0 + (r : Nat))) (ds := rngD 0 g.nets.length) (it_rng1 (n := g.nets.length) (ea_1 ((ev_lenT (ds := g.nets.map .str) (ev_ixT (ev_var rfl) ev_int rfl)).to (by rw [List.length_map]))) (by omega)) (fun i d h => by
            obtain ⟨hi, rfl⟩ := rngD_get h
            exact ⟨i, by rw [List.getElem?_range hi], rfl⟩) (by rw [rngD_len, List.length_range])
          (fun j Γ => ∃ (fd : List (Int × Int)) (s5 s6 : Sl), Γ = [.dat (cD c), .dat (.str s), .own (.dic kvs), .dat (gD g), .own (.lst (fd.map pD)), s5, s6] ∧ FdOk c s g j fd) ⟨[], _, _, rfl, Nat.le_refl _, (fun _ h => nomatch h), fun _ _ _ _ h => by omega⟩ ?_ ?_
        · rintro j k _ hj ⟨fd, s5, s6, rfl, hfd⟩
          have hjl := (List.getElem?_eq_some_iff.mp hj).1
          rw [List.length_range] at hjl
          have hfl := hfd.len
          have hn : g.nets[j]? = some g.nets[j] := List.getElem?_eq_getElem hjl
          have hr : g.rng[j]? = some g.rng[j] := List.getElem?_eq_getElem (by omega)
          generalize g.nets[j] = n at hn
          generalize g.rng[j] = lh at hr
          obtain ⟨lo, hi'⟩ := lh
          obtain ⟨es, hes, hel, hea, heb⟩ : ∃ es : List (Int × Int), (lk kvs (.inr n)).getD (.lst []) = .lst (es.map pD) ∧ es.length ≤ 1 ∧ (∀ q ∈ es, (∃ b, Pth c s n q.1 b) ∧ ∃ a, Pth c s n a q.2) ∧ ∀ a b, Pth c s n a b → ∃ q ∈ es, q.1 ≤ a ∧ b ≤ q.2 := by
            rcases hE n (rdy n (List.mem_of_getElem? hn)) with ⟨e, np⟩ | ⟨mn, mx, e, l1, l2⟩
            · rw [e]
              exact ⟨[], rfl, Nat.zero_le _, (fun _ h => nomatch h), fun a b p => absurd p (np a b)⟩
            · rw [e]
              refine ⟨[(mn, mx)], rfl, Nat.le_refl _, fun q hq => ?_, fun a b p => ⟨_, List.mem_singleton.mpr rfl, ?_, ?_⟩⟩
              · rw [List.mem_singleton.mp hq]
                obtain ⟨a, b, p, e1⟩ := l1.ex
                obtain ⟨a', b', p', e2⟩ := l2.ex
                have e1 : -mn = -a := e1
                have e2 : mx = b' := e2
                have e1 : mn = a := by omega
                subst e1 e2
                exact ⟨⟨b, p⟩, a', p'⟩
              · have := l1.mx a b p
                have this : -a ≤ -mn := this
                show mn ≤ a
                omega
              · exact l2.mx a b p
          refine ⟨_, _, tg_name, ?_⟩
          refine ec_forP es pD (it_list ((ev_dget2 (k := .inr n) (ev_own rfl) (ev_ixT (ev_ixT (d := .tup (g.nets.map .str)) (ev_var rfl) ev_int rfl) (ev_var rfl) (by rw [Int.zero_add]; exact atI_map hn)) (ev_fL (ev_lst (ds := []) ea_nil (by decide)))).to (congrArg Sl.dat hes))) (fun pre Γ => ∃ s6, Γ = [.dat (cD c), .dat (.str s), .own (.dic kvs), .dat (gD g), .own (.lst ((fd ++ pre.map fun q => (q.1 + lo, q.2 + hi')).map pD)), .dat (.int (0 + (j : Nat))), s6]) ⟨_, by rw [List.map_nil, List.append_nil]; rfl⟩ ?_ ?_
          · rintro pre q post _ eq ⟨s6, rfl⟩
            have hpl : pre.length ≤ 1 := by
              have := congrArg List.length eq
              rw [List.length_append, List.length_cons] at this
              omega
            refine ⟨_, _, tg_name, ?_⟩
            have rg : ∀ {W : Wd} {Γ : List Sl}, Γ[3]? = some (.dat (gD g)) → Γ[5]? = some (.dat (.int (0 + (j : Nat)))) → EvE W (tOp (rIx K) (tOp (rIx K) (tVar 3) (tC (.int 3))) (tVar 5)) Γ (.dat (pD (lo, hi'))) := fun e3 e5 => ev_ixT (ev_ixT (d := .tup (g.rng.map pD)) (ev_var e3) ev_int rfl) (ev_var e5) (by rw [Int.zero_add]; exact atI_map hr)
            refine ec_app (d := pD (q.1 + lo, q.2 + hi')) rfl (ev_tup (ds := [.int (q.1 + lo), .int (q.2 + hi')]) (ea_cons (ev_add (ev_ixT (ds := [.int q.1, .int q.2]) (ev_var rfl) ev_int rfl) (ev_ixT (ds := [.int lo, .int hi']) (rg rfl rfl) ev_int rfl)) (ea_1 (ev_add (ev_ixT (ds := [.int q.1, .int q.2]) (ev_var rfl) ev_int rfl) (ev_ixT (ds := [.int lo, .int hi']) (rg rfl rfl) ev_int rfl)))) (by simp)) ?_ ⟨.dat (pD q), ?_⟩
            · rw [List.length_map, List.length_append, List.length_map]; omega
            · rw [List.map_append (l₁ := pre), ← List.append_assoc, List.map_append (l₁ := fd ++ _)]
              rfl
          · rintro _ ⟨s6, rfl⟩
            refine ⟨fd ++ es.map fun q => (q.1 + lo, q.2 + hi'), _, _, rfl, ?_, fun q hq => ?_, fun i' n' lo' hi2 hij hn' hr' a b p => ?_⟩
            · rw [List.length_append, List.length_map]; omega
            · rcases List.mem_append.mp hq with z | z
              · exact hfd.a q z
              · obtain ⟨q', hq', rfl⟩ := List.mem_map.mp z
                obtain ⟨⟨b, p1⟩, a, p2⟩ := hea q' hq'
                exact ⟨⟨_, p1.snoc hgm hn hr⟩, _, p2.snoc hgm hn hr⟩
            · by_cases z : i' = j
              · subst z
                rw [hn] at hn'
                cases hn'
                rw [hr] at hr'
                cases hr'
                obtain ⟨q, hq, h1, h2⟩ := heb a b p
                exact ⟨_, List.mem_append_right _ (List.mem_map.mpr ⟨q, hq, rfl⟩), by dsimp only; omega, by dsimp only; omega⟩
              · obtain ⟨q, hq, h⟩ := hfd.b i' n' lo' hi2 (by omega) hn' hr' a b p
                exact ⟨q, List.mem_append_left _ hq, h⟩
        · rintro _ ⟨fd, s5, s6, rfl, hfd⟩
          rw [List.length_range] at hfd
          exact ⟨fd, _, _, rfl, hfd⟩
      rintro _ ⟨fd, s5, s6, rfl, hfd⟩
      have hfl := hfd.len
      have memT : ∀ n, n ∈ plc c (gs.take (i + 1)) → n ∈ plc c (gs.take i) ∨ n = g.nm := fun n hn => by
        unfold plc at hn ⊢
        rw [take_snoc hg, List.map_append, ← List.append_assoc] at hn
        rcases List.mem_append.mp hn with q | q
        · exact .inl q
        · exact .inr (List.mem_singleton.mp q)
      have memU : ∀ n, n ∈ plc c (gs.take i) → n ∈ plc c (gs.take (i + 1)) := fun n hn => by
        unfold plc at hn ⊢
        rw [take_snoc hg, List.map_append, ← List.append_assoc]
        exact List.mem_append_left _ hn
      have memG : g.nm ∈ plc c (gs.take (i + 1)) := by
        unfold plc
        rw [take_snoc hg, List.map_append]
        exact List.mem_append_right _ (List.mem_append_right _ (List.mem_cons_self ..))
      have gnew : g.nm ∉ plc c (gs.take i) := fun q => by
        rcases List.mem_append.mp q with q | q
        · exact src_gate hc.nd q g hgm rfl
        · have nd := hF.nd
          rw [split_at hg, List.map_append, List.map_cons] at nd
          exact (List.nodup_append.mp nd).2.2 _ q _ (List.mem_cons_self ..) rfl
      have nog : ∀ a b, Pth c s g.nm a b → ∃ q ∈ fd, q.1 ≤ a ∧ b ≤ q.2 := fun a b p => by
        obtain ⟨i', n, lo, hi', a', b', h1, h2, p', e1, e2⟩ := p.atG hc hs hgm rfl
        obtain ⟨q, hq, h3, h4⟩ := hfd.b i' n lo hi' (List.getElem?_eq_some_iff.mp h1).1 h1 h2 a' b' p'
        exact ⟨q, hq, by omega, by omega⟩
      refine ec_frz 4 rfl ?_
      refine ec_if (b := decide ((fd.length : Int) > 0)) ((et_bb (g := fun i j => decide (i > j)) (ev_lenL (ds := fd.map pD) (ev_bL (ev_var rfl))) ev_int).to (by rw [List.length_map])) (fun hb => ?_) fun hb => ec_next ⟨gs, kvs, _, _, _, _, rfl, hF, hL, rfl, by omega, (fun n hn => hN n fun z => hn (memU n z)), fun n hn => ?_⟩
      · have hne : fd ≠ [] := fun e => by
          have := of_decide_eq_true hb
          rw [e] at this
          exact absurd this (by decide)
        have n1 : fd.map (·.1) ≠ [] := fun e => hne (List.map_eq_nil_iff.mp e)
        have n2 : fd.map (·.2) ≠ [] := fun e => hne (List.map_eq_nil_iff.mp e)
        refine ec_putD (ky := .inr g.nm) (d := .lst [pD (minI (fd.map (·.1)), maxI (fd.map (·.2)))]) rfl (ev_fL (ev_lst (ds := [pD (minI (fd.map (·.1)), maxI (fd.map (·.2)))]) (ea_1 (ev_tup (ds := [.int (minI (fd.map (·.1))), .int (maxI (fd.map (·.2)))]) (ea_cons (ev_minL (ns := fd.map (·.1)) (ev_own_bor ((ev_lcX fd pD (fun q => .int q.1) (it_list (ev_var rfl)) (by omega) fun i q hq => ⟨_, _, tg_name, fun _ h => h, ev_ixT (ds := [.int q.1, .int q.2]) (ev_var rfl) ev_int rfl⟩).to (by rw [List.map_map]; rfl))) n1) (ea_1 (ev_maxL (ns := fd.map (·.2)) (ev_own_bor ((ev_lcX fd pD (fun q => .int q.2) (it_list (ev_var rfl)) (by omega) fun i q hq => ⟨_, _, tg_name, fun _ h => h, ev_ixT (ds := [.int q.1, .int q.2]) (ev_var rfl) ev_int rfl⟩).to (by rw [List.map_map]; rfl))) n2))) (by simp))) (by simp))) (ev_ixT (ev_var rfl) ev_int rfl) (by omega) ⟨gs, pt kvs (.inr g.nm) _, _, _, _, _, rfl, hF, hL, rfl, ?_, fun n hn => ?_, fun n hn => ?_⟩
        · rw [pt_len2]; split <;> omega
        · rw [lk_pt, if_neg (fun z => hn (by rw [← Sum.inr.inj z]; exact memG))]
          exact hN n fun z => hn (memU n z)
        · rcases memT n hn with q | rfl
          · have hne' : g.nm ≠ n := fun e => gnew (e ▸ q)
            have e : lk (pt kvs (.inr g.nm) (.lst [pD (minI (fd.map (·.1)), maxI (fd.map (·.2)))])) (.inr n) = lk kvs (.inr n) := by
              rw [lk_pt, if_neg (fun z => hne' (Sum.inr.inj z))]
            unfold Ent
            rw [e]
            exact hE n q
          · refine .inr ⟨minI (fd.map (·.1)), maxI (fd.map (·.2)), by rw [lk_pt, if_pos rfl], ⟨?_, fun a b p => ?_⟩, ?_, fun a b p => ?_⟩
            · obtain ⟨q, hq, e⟩ := List.mem_map.mp (minI_mem n1)
              obtain ⟨⟨b, p⟩, _⟩ := hfd.a q hq
              rw [← e]
              exact ⟨q.1, b, p, rfl⟩
            · obtain ⟨q, hq, h1, h2⟩ := nog a b p
              have := minI_le (List.mem_map.mpr ⟨q, hq, rfl⟩ : q.1 ∈ fd.map (·.1))
              show -a ≤ -(minI (fd.map (·.1)))
              omega
            · obtain ⟨q, hq, e⟩ := List.mem_map.mp (maxI_mem n2)
              obtain ⟨_, a, p⟩ := hfd.a q hq
              rw [← e]
              exact ⟨a, q.2, p, rfl⟩
            · obtain ⟨q, hq, h1, h2⟩ := nog a b p
              have := maxI_le (List.mem_map.mpr ⟨q, hq, rfl⟩ : q.2 ∈ fd.map (·.2))
              show b ≤ maxI (fd.map (·.2))
              omega
      · rcases memT n hn with q | rfl
        · exact hE n q
        · have e0 : fd = [] := List.length_eq_zero_iff.mp (by have := of_decide_eq_false hb; omega)
          refine .inl ⟨hN _ gnew, fun a b p => ?_⟩
          obtain ⟨q, hq, _⟩ := nog a b p
          rw [e0] at hq
          cases hq
    · rintro ds _ _ ⟨gs, kvs, s3, s4, s5, s6, rfl, hF, hL, rfl, hkl, hN, hE⟩
      rw [List.length_map, List.take_length] at hE
      refine ⟨kvs, _, _, _, _, rfl, fun n hn => hE n ?_⟩
      rcases List.mem_append.mp hn with q | q
      · exact List.mem_append_left _ q
      · refine List.mem_append_right _ (Classical.byContradiction fun z => ?_)
        have := List.Nodup.length_le_of_subset (l₁ := n :: gs.map (·.nm)) (l₂ := c.gates.map (·.nm)) (List.nodup_cons.mpr ⟨z, hF.nd⟩) fun m hm => by
          rcases List.mem_cons.mp hm with y | y
          · rw [y]; exact q
          · obtain ⟨g', hg', e'⟩ := List.mem_map.mp y
            exact List.mem_map.mpr ⟨g', hF.sub g' hg', e'⟩
        rw [List.length_cons, List.length_map, List.length_map] at this
        omega
  · rintro _ ⟨kvs, s3, s4, s5, s6, rfl, h⟩
    exact ec_retO rfl ⟨kvs, rfl, h⟩
end Sg
/-! W27: _law_constraints. -/
namespace Sg
open PySem PySem.Spec PyProof.Rows L2 Dn
variable {P : Program} {w : World} {K : PySem.W.Frag} {mg : Str → Option Value} {base : Heap}
theorem cons_of {k : Ck} {S T : List (Nat × Nat × Int)} (sl : (src k.c).length ≤ 5) (h3 : k.c.regs.length ≤ 3) (hS : Pre (SuC k) (src k.c).length 0 S) (hT : Pre (HoC k) (src k.c).length 0 T) : Cons k (S.map (fun p => Con.su p.1 p.2.1 p.2.2) ++ T.map (fun p => Con.ho p.1 p.2.1 p.2.2) ++ (List.range k.c.regs.length).map Con.fl) := by
  have lS := hS.len
  have lT := hT.len
  refine ⟨?_, ?_⟩
  · intro x
    rw [List.mem_append, List.mem_append, List.mem_map, List.mem_map, List.mem_map]
    cases x with
    | su i r m =>
      constructor
      · rintro ((⟨⟨i', r', m'⟩, h, e⟩ | ⟨_, _, e⟩) | ⟨_, _, e⟩)
        · cases e; exact ((hS.mem _ _ _).mp h).1
        · cases e
        · cases e
      · intro h
        have h : SuC k i r m := h
        obtain ⟨s, _, _, _, e, _⟩ := id h
        exact .inl (.inl ⟨(i, r, m), (hS.mem _ _ _).mpr ⟨h, .inl (List.getElem?_eq_some_iff.mp e).1⟩, rfl⟩)
    | ho i r m =>
      constructor
      · rintro ((⟨_, _, e⟩ | ⟨⟨i', r', m'⟩, h, e⟩) | ⟨_, _, e⟩)
        · cases e
        · cases e; exact ((hT.mem _ _ _).mp h).1
        · cases e
      · intro h
        have h : HoC k i r m := h
        obtain ⟨s, _, _, _, e, _⟩ := id h
        exact .inl (.inr ⟨(i, r, m), (hT.mem _ _ _).mpr ⟨h, .inl (List.getElem?_eq_some_iff.mp e).1⟩, rfl⟩)
    | fl r =>
      constructor
      · rintro ((⟨_, _, e⟩ | ⟨_, _, e⟩) | ⟨r', h, e⟩)
        · cases e
        · cases e
        · cases e; exact List.mem_range.mp h
      · intro h
        exact .inr ⟨r, List.mem_range.mpr h, rfl⟩
  · rw [List.length_append, List.length_append, List.length_map, List.length_map, List.length_map, List.length_range]; omega
def p__law_constraints (K : PySem.W.Frag) : Prm A_ck := .pu (fun x => [.dat (cD x.1.c), .dat (.int x.1.T), .dat (hD x.1.hs)]) fun x s => ∃ cs, s = .own (.lst (cs.map conD)) ∧ Cons x.1 cs
theorem sc__law_constraints : FnScope ["_law_circuit_here", "_law_period_here", "_law_holds", "_law_names_here", "_law_windows_here", "_law_setups", "_law_ends", "_law_i", "_law_rows", "_law_r", "_law_reg", "_law_pair"] ["_law_circuit_here", "_law_period_here", "_law_holds"] (defScope (top 79)) := ⟨rfl, rfl, rfl, by decide +kernel, rfl, by decide +kernel, by decide +kernel⟩
theorem cal__law_constraints (G : Gs K mg) : C8.Cal P w K mg base 4 "_law_constraints" (p__law_constraints K).sp [] := by
  have c__law_sources := cal__law_sources (P := P) (w := w) (base := base) G
  have c__law_sums := cal__law_sums (P := P) (w := w) (base := base) G
  have c__law_windows := cal__law_windows (P := P) (w := w) (base := base) G
  refine Prm.cal (p__law_constraints K) G.d__law_constraints G.g__law_constraints sc__law_constraints (fun _ _ _ _ _ _ us hl => match us, hl with | [_, _, _], _ => rfl) (fun _ => rfl) (fun cdv A' outer s H E hr => ⟨_, (PSs.nox (pss_cons (psx 3 sc__law_constraints.nd (C8.pe_c c__law_sources hr (by decide) (by rfl) (pa_cons (pvx 0) pa_nil))) (pss_cons (psx 4 sc__law_constraints.nd (C8.pe_c c__law_windows hr (by decide) (by rfl) (pa_cons (pvx 0) (pa_cons (pvx 1) (pa_cons (pvx 2) (pa_cons pe_int pa_nil)))))) (pss_cons (psx 5 sc__law_constraints.nd (pe_lst pa_nil)) (pss_cons (psx 6 sc__law_constraints.nd (pe_lst pa_nil)) (pss_cons (ps_for PassesOwn.never (by rfl) (pi_range1 (by rfl) G.f_range (pa_cons (pe_callB (k_len (K := K)) (by rfl) G.f_len (by decide +kernel) (pa_cons (pvx 3) pa_nil)) pa_nil)) (pgx 7 sc__law_constraints.nd) (pss_cons (psx 8 sc__law_constraints.nd (C8.pe_c c__law_sums hr (by decide) (by rfl) (pa_cons (pvx 0) (pa_cons (pe_ix (k_ix (K := K)) (pvx 3) (pvx 7) (fun _ _ => rfl)) pa_nil)))) (pss_one (ps_for PassesOwn.never (by rfl) (pi_range1 (by rfl) G.f_range (pa_cons (pe_callB (k_len (K := K)) (by rfl) G.f_len (by decide +kernel) (pa_cons (pe_ix (k_ix (K := K)) (pvx 0) pe_int (fun _ _ => rfl)) pa_nil)) pa_nil)) (pgx 9 sc__law_constraints.nd) (pss_cons (psx 10 sc__law_constraints.nd (pe_ix (k_ix (K := K)) (pe_ix (k_ix (K := K)) (pvx 0) pe_int (fun _ _ => rfl)) (pvx 9) (fun _ _ => rfl))) (pss_one (ps_if (pt_cmp (pc_din (hu_of hr) (pe_ix (k_ix (K := K)) (pvx 10) pe_int (fun _ _ => rfl)) (pvx 8))) (pss_cons (psx 11 sc__law_constraints.nd (pe_ix (k_ix (K := K)) (pe_dget (hu_of hr) (pvx 8) (pe_ix (k_ix (K := K)) (pvx 10) pe_int (fun _ _ => rfl)) (fun _ _ => rfl)) pe_int (fun _ _ => rfl))) (pss_cons (ps_expr (k_app (K := K) (pvx 5) (pa_cons (pe_tup (pa_cons pe_str (pa_cons (pvx 7) (pa_cons (pvx 9) (pa_cons (pe_op op_sub (pe_op op_sub (pe_op op_sub (pe_op (k_plus (K := K)) (pvx 1) (pe_ix (k_ix (K := K)) (pe_ix (k_ix (K := K)) (pvx 10) pe_int (fun _ _ => rfl)) pe_int (fun _ _ => rfl))) (pe_ix (k_ix (K := K)) (pvx 10) pe_int (fun _ _ => rfl))) (pe_ix (k_ix (K := K)) (pe_ix (k_ix (K := K)) (pvx 4) (pvx 7) (fun _ _ => rfl)) pe_int (fun _ _ => rfl))) (pe_ix (k_ix (K := K)) (pvx 11) pe_int (fun _ _ => rfl))) pa_nil))))) pa_nil))) (pss_one (ps_expr (k_app (K := K) (pvx 6) (pa_cons (pe_tup (pa_cons pe_str (pa_cons (pvx 7) (pa_cons (pvx 9) (pa_cons (pe_op op_sub (pe_op op_sub (pe_op op_sub (pe_op op_sub (pe_op (k_plus (K := K)) (pe_ix (k_ix (K := K)) (pe_ix (k_ix (K := K)) (pvx 4) (pvx 7) (fun _ _ => rfl)) pe_int (fun _ _ => rfl)) (pe_ix (k_ix (K := K)) (pvx 11) pe_int (fun _ _ => rfl))) (pvx 1)) (pe_ix (k_ix (K := K)) (pe_ix (k_ix (K := K)) (pvx 10) pe_int (fun _ _ => rfl)) pe_int (fun _ _ => rfl))) (pe_ix (k_ix (K := K)) (pvx 10) pe_int (fun _ _ => rfl))) pe_int) pa_nil))))) pa_nil)))))) pss_nil))))))) (pss_one (ps_ret (pe_op (k_plus (K := K)) (pe_op (k_plus (K := K)) (pvx 5) (pvx 6)) (pe_lc (own := [("_law_r", 9)]) (g := (gName 9)) (by rfl) sc__law_constraints.nd (pi_range1 (by rfl) G.f_range (pa_cons (pe_callB (k_len (K := K)) (by rfl) G.f_len (by decide +kernel) (pa_cons (pe_ix (k_ix (K := K)) (pvx 0) pe_int (fun _ _ => rfl)) pa_nil)) pa_nil)) (blkOk_by (by kernel_rfl)) (fun _ _ _ _ _ => (pgx 9 sc__law_constraints.nd)) (fun _ _ _ _ _ => pts_nil) (fun _ _ _ _ _ => (pe_tup (pa_cons pe_str (pa_cons (pvx 9) pa_nil)))))))))))))), ?_⟩)
  rintro ⟨k, hk⟩ F H
  have hw := hk.wf
  have h3 := hw.r
  have hi2 := hw.i
  have hlen := hk.len
  have sl : (src k.c).length ≤ 5 := by unfold src; rw [List.length_append, List.length_map]; omega
  show Ec _ _ [.dat (cD k.c), .dat (.int k.T), .dat (hD k.hs), .no, .no, .no, .no, .no, .no, .no, .no, .no] _
  refine ec_set (evf_call (⟨k.c, hw.sz⟩ : A_sz) (ea_1 (ev_var rfl)) rfl) ?_
  refine ec_set (evf_call (⟨k, by omega, by omega⟩ : A_lw) (ea_cons (ev_var rfl) (ea_cons (ev_var rfl) (ea_cons (ev_var rfl) (ea_1 ev_int)))) rfl) ?_
  refine ec_set (ev_lst (ds := []) ea_nil (by decide)) ?_
  refine ec_set (ev_lst (ds := []) ea_nil (by decide)) ?_
  refine ec_seq (M := fun Γ => ∃ S T s7 s8 s9 s10 s11, Γ = [.dat (cD k.c), .dat (.int k.T), .dat (hD k.hs), .own (.lst ((src k.c).map .str)), .own (.lst ((wins k).map pD)), .own (.lst (S.map suD)), .own (.lst (T.map hoD)), s7, s8, s9, s10, s11] ∧ Pre (SuC k) (src k.c).length 0 S ∧ Pre (HoC k) (src k.c).length 0 T) ?_ ?_
  · refine ec_forX (List.range (src k.c).length) (fun r _ => .int (0 + (r : Nat))) (ds := rngD 0 (src k.c).length) (it_rng1 (n := (src k.c).length) (ea_1 ((ev_lenL (ds := (src k.c).map .str) (ev_own rfl)).to (by rw [List.length_map]))) (by omega)) (fun i d h => by
        obtain ⟨hi, rfl⟩ := rngD_get h
        exact ⟨i, by rw [List.getElem?_range hi], rfl⟩) (by rw [rngD_len, List.length_range])
      (fun i Γ => ∃ S T s7 s8 s9 s10 s11, Γ = [.dat (cD k.c), .dat (.int k.T), .dat (hD k.hs), .own (.lst ((src k.c).map .str)), .own (.lst ((wins k).map pD)), .own (.lst (S.map suD)), .own (.lst (T.map hoD)), s7, s8, s9, s10, s11] ∧ Pre (SuC k) i 0 S ∧ Pre (HoC k) i 0 T)
      ⟨[], [], _, _, _, _, _, rfl, .zero, .zero⟩ ?_ ?_
    · rintro i _ _ hi ⟨S, T, s7, s8, s9, s10, s11, rfl, hS, hT⟩
      have hil := (List.getElem?_eq_some_iff.mp hi).1
      rw [List.length_range] at hil
      have hs : (src k.c)[i]? = some (src k.c)[i] := List.getElem?_eq_getElem hil
      generalize (src k.c)[i] = s at hs
      have hwi : (wins k)[i]? = some ((wins k)[i]'(by rw [wins_len hk]; exact hil)) := List.getElem?_eq_getElem _
      generalize (wins k)[i]'(by rw [wins_len hk]; exact hil) = ww at hwi
      obtain ⟨w0, w1⟩ := ww
      have hsm : s ∈ src k.c := List.mem_of_getElem? hs
      refine ⟨_, _, tg_name, ?_⟩
      refine ec_setR (ev_call (p := p__law_sums K) (⟨(k.c, s), hw, hsm⟩ : A_su) (ea_cons (ev_var rfl) (ea_1 (ev_ixL (ev_own rfl) (ev_var rfl) (by rw [Int.zero_add]; exact atI_map hs)))) fits_pure rfl) ?_
      rintro _ ⟨⟨kvs, rfl, hE⟩, nb⟩
      refine ⟨nb, ?_⟩
      clear nb
      have hE : ∀ n ∈ nets k.c, Ent k.c s kvs n := hE
      refine ec_forX (List.range k.c.regs.length) (fun r _ => .int (0 + (r : Nat))) (ds := rngD 0 k.c.regs.length) (it_rng1 (n := k.c.regs.length) (ea_1 ((ev_lenT (ds := k.c.regs.map rD) (ev_ixT (ev_var rfl) ev_int rfl)).to (by rw [List.length_map]))) (by omega)) (fun i d h => by
          obtain ⟨hi, rfl⟩ := rngD_get h
          exact ⟨i, by rw [List.getElem?_range hi], rfl⟩) (by rw [rngD_len, List.length_range])
        (fun r Γ => ∃ S T s9 s10 s11, Γ = [.dat (cD k.c), .dat (.int k.T), .dat (hD k.hs), .own (.lst ((src k.c).map .str)), .own (.lst ((wins k).map pD)), .own (.lst (S.map suD)), .own (.lst (T.map hoD)), .dat (.int (0 + (i : Nat))), .own (.dic kvs), s9, s10, s11] ∧ Pre (SuC k) i r S ∧ Pre (HoC k) i r T)
        ⟨S, T, _, _, _, rfl, hS, hT⟩ ?_ ?_
      · clear hS hT
        rintro r _ _ hr ⟨S, T, s9, s10, s11, rfl, hS, hT⟩
        have hrl := (List.getElem?_eq_some_iff.mp hr).1
        rw [List.length_range] at hrl
        clear hr
        have hr : k.c.regs[r]? = some k.c.regs[r] := List.getElem?_eq_getElem hrl
        generalize k.c.regs[r] = g at hr
        have lS := hS.len
        have lT := hT.len
        refine ⟨_, _, tg_name, ?_⟩
        refine ec_set (s := .dat (rD g)) (ev_ixT (ev_ixT (d := .tup (k.c.regs.map rD)) (ev_var rfl) ev_int rfl) (ev_var rfl) (by rw [Int.zero_add]; exact atI_map hr)) ?_
        have dn : ∀ {W : Wd} {Γ : List Sl}, Γ[10]? = some (.dat (rD g)) → EvE W (tOp (rIx K) (tVar 10) (tC (.int 1))) Γ (.dat (kD (.inr g.net))) := fun e => ev_ixT (d := .str g.net) (ev_var e) ev_int rfl
        refine ec_if (b := (lk kvs (.inr g.net)).isSome) (et_B (ev_din (k := .inr g.net) (dn rfl) (ev_own rfl))) (fun hin => ?_) fun hin => ec_next ?_
        · obtain ⟨mn, mx, hdv, lu, lv⟩ : ∃ mn mx, lk kvs (.inr g.net) = some (.lst [pD (mn, mx)]) ∧ Long k.c s false g.net (-mn) ∧ Long k.c s true g.net mx := by
            rcases hE g.net (hw.reg g (List.mem_of_getElem? hr)).net with ⟨e, _⟩ | h
            · rw [e] at hin; cases hin
            · exact h
          have c1 : SuC k i r (k.T + g.e0 - g.su - w0 - mx) := ⟨s, g, (w0, w1), mx, hs, hr, hwi, lv, rfl⟩
          have c2 : HoC k i r (w1 + mn - k.T - g.e1 - g.ho - 1) := ⟨s, g, (w0, w1), -mn, hs, hr, hwi, lu, by dsimp only; omega⟩
          refine ec_set (s := .dat (pD (mn, mx))) (ev_ixL (ds := [pD (mn, mx)]) (ev_bL (ev_dget (k := .inr g.net) (ev_own rfl) (dn rfl) hdv)) ev_int rfl) ?_
          have e2 : ∀ {W : Wd} {Γ : List Sl}, Γ[10]? = some (.dat (rD g)) → EvE W (tOp (rIx K) (tVar 10) (tC (.int 2))) Γ (.dat (.tup [.int g.e0, .int g.e1])) := fun e => ev_ixT (ev_var e) ev_int rfl
          have w2 : ∀ {W : Wd} {Γ : List Sl}, Γ[4]? = some (.own (.lst ((wins k).map pD))) → Γ[7]? = some (.dat (.int (0 + (i : Nat)))) → EvE W (tOp (rIx K) (tVar 4) (tVar 7)) Γ (.dat (.tup [.int w0, .int w1])) := fun e e' => ev_ixL (d := .tup [.int w0, .int w1]) (ev_own e) (ev_var e') (by rw [Int.zero_add]; exact atI_map hwi)
          have p2 : ∀ {W : Wd} {Γ : List Sl}, Γ[11]? = some (.dat (pD (mn, mx))) → EvE W (tVar 11) Γ (.dat (.tup [.int mn, .int mx])) := fun e => ev_var e
          refine ec_seq (M := fun Γ => Γ = [.dat (cD k.c), .dat (.int k.T), .dat (hD k.hs), .own (.lst ((src k.c).map .str)), .own (.lst ((wins k).map pD)), .own (.lst ((S ++ [(i, r, k.T + g.e0 - g.su - w0 - mx)]).map suD)), .own (.lst (T.map hoD)), .dat (.int (0 + (i : Nat))), .own (.dic kvs), .dat (.int (0 + (r : Nat))), .dat (rD g), .dat (pD (mn, mx))]) ?_ ?_
          · refine ec_app (d := suD (i, r, k.T + g.e0 - g.su - w0 - mx)) rfl ((ev_tup (ds := [.str "setup", .int (0 + (i : Nat)), .int (0 + (r : Nat)), .int (k.T + g.e0 - g.su - w0 - mx)]) (ea_cons ev_str (ea_cons (ev_var rfl) (ea_cons (ev_var rfl) (ea_1 (ev_bi (ev_bi (ev_bi (ev_add (ev_var rfl) (ev_ixT (e2 rfl) ev_int rfl)) (ev_ixT (d := .int g.su) (ev_var rfl) ev_int rfl)) (ev_ixT (w2 rfl rfl) ev_int rfl)) (ev_ixT (p2 rfl) ev_int rfl)))))) (by simp)).to (by rw [Int.zero_add, Int.zero_add]; rfl)) (by rw [List.length_map]; omega) ?_
            show _ = _
            rw [List.map_append]
            rfl
          rintro _ rfl
          refine ec_app (d := hoD (i, r, w1 + mn - k.T - g.e1 - g.ho - 1)) rfl ((ev_tup (ds := [.str "hold", .int (0 + (i : Nat)), .int (0 + (r : Nat)), .int (w1 + mn - k.T - g.e1 - g.ho - 1)]) (ea_cons ev_str (ea_cons (ev_var rfl) (ea_cons (ev_var rfl) (ea_1 (ev_bi (ev_bi (ev_bi (ev_bi (ev_add (ev_ixT (w2 rfl rfl) ev_int rfl) (ev_ixT (p2 rfl) ev_int rfl)) (ev_var rfl)) (ev_ixT (e2 rfl) ev_int rfl)) (ev_ixT (d := .int g.ho) (ev_var rfl) ev_int rfl)) ev_int))))) (by simp)).to (by rw [Int.zero_add, Int.zero_add]; rfl)) (by rw [List.length_map]; omega) ?_
          exact ⟨S ++ [(i, r, k.T + g.e0 - g.su - w0 - mx)], T ++ [(i, r, w1 + mn - k.T - g.e1 - g.ho - 1)], _, _, _, by rw [List.map_append (l₁ := T)]; rfl, hS.inn c1 fun m h => h.uniq c1, hT.inn c2 fun m h => h.uniq c2⟩
        · have nop : ∀ a b, ¬ Pth k.c s g.net a b := by
            rcases hE g.net (hw.reg g (List.mem_of_getElem? hr)).net with ⟨_, h⟩ | ⟨mn, mx, e, _⟩
            · exact h
            · rw [e] at hin; cases hin
          refine ⟨S, T, _, _, _, rfl, hS.out ?_, hT.out ?_⟩
          · rintro m ⟨s', g', w', v, e1, e2, e3, l, _⟩
            rw [hs] at e1; cases e1
            rw [hr] at e2; cases e2
            obtain ⟨a, b, p, _⟩ := l.ex
            exact nop a b p
          · rintro m ⟨s', g', w', v, e1, e2, e3, l, _⟩
            rw [hs] at e1; cases e1
            rw [hr] at e2; cases e2
            obtain ⟨a, b, p, _⟩ := l.ex
            exact nop a b p
      · rintro _ ⟨S, T, s9, s10, s11, rfl, hS, hT⟩
        rw [List.length_range] at hS hT
        refine ⟨S, T, _, _, _, _, _, rfl, hS.row h3 ?_, hT.row h3 ?_⟩
        · rintro r m ⟨_, g', _, _, _, e2, _⟩; exact (List.getElem?_eq_some_iff.mp e2).1
        · rintro r m ⟨_, g', _, _, _, e2, _⟩; exact (List.getElem?_eq_some_iff.mp e2).1
    · rintro _ ⟨S, T, s7, s8, s9, s10, s11, rfl, hS, hT⟩
      rw [List.length_range] at hS hT
      exact ⟨S, T, _, _, _, _, _, rfl, hS, hT⟩
  · rintro _ ⟨S, T, s7, s8, s9, s10, s11, rfl, hS, hT⟩
    have lS := hS.len
    have lT := hT.len
    have eq : S.map suD ++ T.map hoD ++ (List.range k.c.regs.length).map flD = (S.map (fun p => Con.su p.1 p.2.1 p.2.2) ++ T.map (fun p => Con.ho p.1 p.2.1 p.2.2) ++ (List.range k.c.regs.length).map Con.fl).map conD := by
      rw [List.map_append, List.map_append, List.map_map, List.map_map, List.map_map]; rfl
    refine ec_ret (s := .own (.lst (S.map suD ++ T.map hoD ++ (List.range k.c.regs.length).map flD))) (ev_addL (ev_own_bor (ev_addL (ev_own rfl) (ev_own rfl) (by rw [List.length_map, List.length_map]; omega))) (ev_own_bor (ev_lcX (List.range k.c.regs.length) (fun r => .int (0 + (r : Nat))) flD (it_rng1 (n := k.c.regs.length) (ea_1 ((ev_lenT (ds := k.c.regs.map rD) (ev_ixT (ev_var rfl) ev_int rfl)).to (by rw [List.length_map]))) (by omega)) (by rw [List.length_range]; omega) fun i r hr => ⟨_, _, tg_name, fun _ h => h, (ev_tup (ds := [.str "floor", .int (0 + (r : Nat))]) (ea_cons ev_str (ea_1 (ev_var rfl))) (by simp)).to (by rw [Int.zero_add]; rfl)⟩)) ?_) ⟨_, congrArg (fun l => Sl.own (.lst l)) eq, cons_of sl h3 hS hT⟩
    rw [List.length_append, List.length_map, List.length_map, List.length_map, List.length_range]; omega
end Sg
/-! Mth7: what a run reads: cycles, edges, values. -/
namespace Sg
open PySem L2 Dn
/-- a run: the clocked circuit, the rows, the lists -/
structure Rn where
  k : Ck
  rows : List (List Bool)
  x : Chc
  V : Nat → Str → Bool
  S : Nat → List Bool
/-- the net is within the windows of cycle c -/
def InC (k : Ck) (c : Nat) (n : Str) (t : Int) : Prop := InWin k.c (wins k) n (t - c * k.T)
structure RnOk (ρ : Rn) : Prop where
  ck : CkOk ρ.k
  cl : Clean ρ.k
  n4 : ρ.rows.length ≤ 4
  row : ∀ row ∈ ρ.rows, row.length = ρ.k.c.ins.length
  el : ρ.x.es.length = ρ.k.c.regs.length
  e : ∀ (j : Nat) (r : Reg) (e : List Int), ρ.k.c.regs[j]? = some r → ρ.x.es[j]? = some e → EdOk r e
  sl : ρ.x.sh.length = (src ρ.k.c).length
  s : ∀ b ∈ ρ.x.sh, n14 b.length
  gl : ρ.x.gu.length = ρ.k.c.regs.length
  g : ∀ b ∈ ρ.x.gu, n14 b.length
  d : DrD ρ.k.c ρ.x.dl
  sol : ∀ (c : Nat) (row : List Bool), ρ.rows[c]? = some row → Sol ρ.k.c (row ++ ρ.S c) (ρ.V c)
  S0 : ρ.S 0 = ρ.k.c.regs.map (·.ini)
  SS : ∀ c, c < ρ.rows.length → ρ.S (c + 1) = ρ.k.c.regs.map fun r => ρ.V c r.net
  Sl : ∀ c, c ≤ ρ.rows.length → (ρ.S c).length = ρ.k.c.regs.length
/-- the offset of edge i of register j -/
def off (ρ : Rn) (j i : Nat) : Int := (ρ.x.es.getD j []).getD (i % (ρ.x.es.getD j []).length) 0
def et (ρ : Rn) (j i : Nat) : Int := i * ρ.k.T + off ρ j i
section
variable {ρ : Rn}
theorem RnOk.es (h : RnOk ρ) {j : Nat} {r : Reg} (hj : ρ.k.c.regs[j]? = some r) : ∃ e, ρ.x.es[j]? = some e ∧ EdOk r e := by
  have hl := (List.getElem?_eq_some_iff.mp hj).1
  have e : ρ.x.es[j]? = some (ρ.x.es[j]'(by rw [h.el]; exact hl)) := List.getElem?_eq_getElem _
  exact ⟨_, e, h.e j r _ hj e⟩
theorem RnOk.off (h : RnOk ρ) {j : Nat} {r : Reg} (hj : ρ.k.c.regs[j]? = some r) (i : Nat) : ∃ e, ρ.x.es[j]? = some e ∧ e.length ≠ 0 ∧ e.length ≤ 4 ∧ e[i % e.length]? = some (Sg.off ρ j i) ∧ r.e0 ≤ Sg.off ρ j i ∧ Sg.off ρ j i ≤ r.e1 := by
  obtain ⟨e, he, h14, hd⟩ := h.es hj
  have n0 : e.length ≠ 0 := by have := h14.1; omega
  have hi : i % e.length < e.length := Nat.mod_lt _ (by omega)
  have eg : ρ.x.es.getD j [] = e := by rw [List.getD_eq_getElem?_getD, he]; rfl
  have eo : Sg.off ρ j i = e[i % e.length] := by
    unfold Sg.off
    rw [eg, List.getD_eq_getElem?_getD, List.getElem?_eq_getElem hi]
    rfl
  rw [eo]
  have := hd _ (List.getElem_mem hi)
  exact ⟨e, he, n0, h14.2, List.getElem?_eq_getElem hi, this.1, this.2⟩
/-- the window of an input -/
theorem win_in (hk : CkOk ρ.k) {c i : Nat} {n : Str} {t : Int} (h : InC ρ.k c n t) (hs : (src ρ.k.c)[i]? = some n) (hi : i < ρ.k.c.ins.length) : ∃ p, ρ.k.hs[i]? = some p ∧ p.2 ≤ p.1 ∧ p.1 ≤ t - c * ρ.k.T ∧ t - c * ρ.k.T < ρ.k.T + p.2 := by
  have hl := hk.len
  have e : ρ.k.hs[i]? = some (ρ.k.hs[i]'(by omega)) := List.getElem?_eq_getElem _
  generalize ρ.k.hs[i]'(by omega) = p at e
  have hw : (wins ρ.k)[i]? = some (p.1, ρ.k.T + p.2) := by
    unfold wins
    rw [List.getElem?_append_left (by rw [List.length_map]; omega), List.getElem?_map, e]
    rfl
  have := InWin.src h hs hw
  exact ⟨p, e, hk.pr.h p (List.mem_of_getElem? e), this.1, this.2⟩
/-- the window of a register -/
theorem win_reg (hk : CkOk ρ.k) {c j : Nat} {r : Reg} {t : Int} (h : InC ρ.k c r.nm t) (hj : ρ.k.c.regs[j]? = some r) : r.e1 + r.o1 ≤ t - c * ρ.k.T ∧ t - c * ρ.k.T < ρ.k.T + r.e0 + r.o0 := by
  have hl := hk.len
  have hs : (src ρ.k.c)[ρ.k.c.ins.length + j]? = some r.nm := by
    unfold src
    rw [List.getElem?_append_right (by omega), Nat.add_sub_cancel_left, List.getElem?_map, hj]
    rfl
  have hw : (wins ρ.k)[ρ.k.c.ins.length + j]? = some (r.e1 + r.o1, ρ.k.T + r.e0 + r.o0) := by
    unfold wins
    rw [List.getElem?_append_right (by rw [List.length_map]; omega), List.length_map, hl, Nat.add_sub_cancel_left, List.getElem?_map, hj]
    rfl
  exact InWin.src h hs hw
theorem cyc_of {t a T : Int} {c : Nat} (hT : 1 ≤ T) (h1 : a ≤ t - c * T) (h2 : t - c * T < T + a) : (t - a) / T = c := by
  have := (Int.ediv_emod_unique (a := t - a) (b := T) (r := t - a - c * T) (q := c) (by omega)).mpr ⟨by rw [Int.mul_comm T]; omega, by omega, by omega⟩
  exact this.1
theorem cyc_eq {t a b T : Int} {c d : Nat} (hT : 1 ≤ T) (hb : b ≤ a) (h1 : a ≤ t - c * T) (h2 : t - c * T < T + b) (h3 : a ≤ t - d * T) (h4 : t - d * T < T + b) : c = d := by
  have e1 := cyc_of hT h1 (by omega)
  have e2 := cyc_of hT h3 (by omega)
  omega
/-- what two cycles tell of a net at one time is the same -/
theorem V_uniq (h : RnOk ρ) {rk : Str → Nat} (hrk : RkOk ρ.k.c rk) {c d : Nat} (hc : c < ρ.rows.length) (hd : d < ρ.rows.length) : ∀ (m : Nat) (n : Str) (t : Int), rk n < m → n ∈ nets ρ.k.c → InC ρ.k c n t → InC ρ.k d n t → ρ.V c n = ρ.V d n
  | 0, _, _, hm, _, _, _ => absurd hm (Nat.not_lt_zero _)
  | m + 1, n, t, hm, hn, h1, h2 => by
    have hw := h.ck.wf
    have hT := h.ck.T
    cases e : gix ρ.k.c n with
    | none =>
      obtain ⟨i, hi⟩ := List.mem_iff_getElem?.mp (gix_net hn e)
      have cd : c = d := by
        by_cases q : i < ρ.k.c.ins.length
        · obtain ⟨p, e1, hp, a1, a2⟩ := win_in h.ck h1 hi q
          obtain ⟨p', e2, _, b1, b2⟩ := win_in h.ck h2 hi q
          rw [e1] at e2
          cases e2
          exact cyc_eq hT hp a1 a2 b1 b2
        · unfold src at hi
          rw [List.getElem?_append_right (by omega), List.getElem?_map] at hi
          cases er : ρ.k.c.regs[i - ρ.k.c.ins.length]? with
          | none => rw [er] at hi; cases hi
          | some r =>
            rw [er] at hi
            cases hi
            have a := win_reg h.ck h1 er
            have b := win_reg h.ck h2 er
            have ok := hw.reg r (List.mem_of_getElem? er)
            exact cyc_eq (a := r.e1 + r.o1) (b := r.e0 + r.o0) hT (by have := ok.e1; have := ok.o1; omega) a.1 (by omega) b.1 (by omega)
      rw [cd]
    | some j =>
      obtain ⟨g, hj, hnm⟩ := gix_some e
      subst hnm
      have hg := List.mem_of_getElem? hj
      have ok := hw.gate g hg
      obtain ⟨row, hr⟩ : ∃ row, ρ.rows[c]? = some row := ⟨_, List.getElem?_eq_getElem hc⟩
      obtain ⟨row', hr'⟩ : ∃ row, ρ.rows[d]? = some row := ⟨_, List.getElem?_eq_getElem hd⟩
      have s1 := (h.sol c row hr).g g hg
      have s2 := (h.sol d row' hr').g g hg
      have e : g.nets.map (ρ.V c) = g.nets.map (ρ.V d) := List.map_congr_left fun x hx => by
        obtain ⟨i, hi⟩ := List.mem_iff_getElem?.mp hx
        have hil := (List.getElem?_eq_some_iff.mp hi).1
        have hr : g.rng[i]? = some (g.rng[i]'(by rw [ok.rng]; exact hil)) := List.getElem?_eq_getElem _
        generalize g.rng[i]'(by rw [ok.rng]; exact hil) = p at hr
        obtain ⟨lo, hi'⟩ := p
        have hlh := ok.lo (lo, hi') (List.mem_of_getElem? hr)
        have lt := hrk.lt g hg x hx
        refine V_uniq h hrk hc hd m x (t - lo) (by omega) (hw.net hg hx) ?_ ?_
        · exact InWin.pin (m := t - lo - c * ρ.k.T) h1 hg hi hr (by have := hlh.2.1; dsimp only at this; omega) (by omega)
        · exact InWin.pin (m := t - lo - d * ρ.k.T) h2 hg hi hr (by have := hlh.2.1; dsimp only at this; omega) (by omega)
      rw [e, s2] at s1
      exact (Option.some.inj s1).symm
/-- multiples of the period -/
theorem mul_le {a b : Nat} {T : Int} (hT : 1 ≤ T) (h : a ≤ b) : (a : Int) * T ≤ b * T := Int.mul_le_mul_of_nonneg_right (by omega) (by omega)
theorem mul_lt {a b : Nat} {T : Int} (hT : 1 ≤ T) (h : a < b) : (a : Int) * T + T ≤ b * T := by
  have := mul_le hT (show a + 1 ≤ b from h)
  rw [show ((a + 1 : Nat) : Int) = (a : Int) + 1 by omega, Int.add_mul, Int.one_mul] at this
  exact this
/-- edge i of a register comes before a time within the windows of cycle c just if i ≤ c -/
theorem edge_in (h : RnOk ρ) {j : Nat} {r : Reg} (hj : ρ.k.c.regs[j]? = some r) {c : Nat} {t : Int} (hw : InC ρ.k c r.nm t) (i : Nat) : (i ≤ c → et ρ j i + r.o1 ≤ t) ∧ (c < i → t < et ρ j i + r.o0) := by
  obtain ⟨e, _, _, _, _, b0, b1⟩ := h.off hj i
  have w := win_reg h.ck hw hj
  have hT := h.ck.T
  unfold et
  constructor
  · intro hi
    have := mul_le hT hi
    omega
  · intro hi
    have := mul_lt hT hi
    omega
end
end Sg
/-! W28: what a run tells: edge_time, inputs, states. -/
namespace Sg
open PySem PySem.Spec PyProof.Rows L2 Dn
variable {P : Program} {w : World} {K : PySem.W.Frag} {mg : Str → Option Value} {base : Heap}
def rnF (K : PySem.W.Frag) (ρ : Rn) (pk : List (Key × D)) (st tk : D) : List (Str × D) := [("_clocked", kD' K ρ.k), ("_circuit", cD ρ.k.c), ("_rows", .lst (ρ.rows.map bT)), ("_edges", .lst (ρ.x.es.map isD)), ("_shakes", .lst (ρ.x.sh.map bsD)), ("_places", .dic pk), ("_stored", st), ("_tracker", tk)]
def rnD (K : PySem.W.Frag) (ρ : Rn) (pk : List (Key × D)) (st tk : D) : D := .ins (He.ga K "ClockedRun") (rnF K ρ pk st tk)
/-- a run and what its object holds -/
structure Rq where
  rn : Rn
  pk : List (Key × D)
  st : D
  tk : D
def Rq.D (K : PySem.W.Frag) (y : Rq) : Dn.D := rnD K y.rn y.pk y.st y.tk
section
variable {W : Wd} {Γ : List Sl} {i : Nat} {y : Rq}
theorem rq_clk (G : Gs K mg) (e : Γ[i]? = some (.dat (y.D K))) : EvE W (tFld K (tVar i) "_clocked") Γ (.dat (kD' K y.rn.k)) := ev_fld G.cls_ClockedRun G.na_ClockedRun__clocked (ev_var e) rfl
theorem rq_cir (G : Gs K mg) (e : Γ[i]? = some (.dat (y.D K))) : EvE W (tFld K (tVar i) "_circuit") Γ (.dat (cD y.rn.k.c)) := ev_fld G.cls_ClockedRun G.na_ClockedRun__circuit (ev_var e) rfl
theorem rq_rows (G : Gs K mg) (e : Γ[i]? = some (.dat (y.D K))) : EvE W (tFld K (tVar i) "_rows") Γ (.dat (.lst (y.rn.rows.map bT))) := ev_fld G.cls_ClockedRun G.na_ClockedRun__rows (ev_var e) rfl
theorem rq_edges (G : Gs K mg) (e : Γ[i]? = some (.dat (y.D K))) : EvE W (tFld K (tVar i) "_edges") Γ (.dat (.lst (y.rn.x.es.map isD))) := ev_fld G.cls_ClockedRun G.na_ClockedRun__edges (ev_var e) rfl
theorem rq_sh (G : Gs K mg) (e : Γ[i]? = some (.dat (y.D K))) : EvE W (tFld K (tVar i) "_shakes") Γ (.dat (.lst (y.rn.x.sh.map bsD))) := ev_fld G.cls_ClockedRun G.na_ClockedRun__shakes (ev_var e) rfl
theorem rq_pk (G : Gs K mg) (e : Γ[i]? = some (.dat (y.D K))) : EvE W (tFld K (tVar i) "_places") Γ (.dat (.dic y.pk)) := ev_fld G.cls_ClockedRun G.na_ClockedRun__places (ev_var e) rfl
theorem rq_st (G : Gs K mg) (e : Γ[i]? = some (.dat (y.D K))) : EvE W (tFld K (tVar i) "_stored") Γ (.dat y.st) := ev_fld G.cls_ClockedRun G.na_ClockedRun__stored (ev_var e) rfl
theorem rq_tk (G : Gs K mg) (e : Γ[i]? = some (.dat (y.D K))) : EvE W (tFld K (tVar i) "_tracker") Γ (.dat y.tk) := ev_fld G.cls_ClockedRun G.na_ClockedRun__tracker (ev_var e) rfl
theorem rq_nrows (G : Gs K mg) (e : Γ[i]? = some (.dat (y.D K))) : EvE W (tCB (Dn.rLen K) (tCons (tFld K (tVar i) "_rows") tNil)) Γ (.dat (.int y.rn.rows.length)) := (ev_lenL (ds := y.rn.rows.map bT) (ev_bL (rq_rows G e))).to (by rw [List.length_map])
theorem rq_T (G : Gs K mg) (e : Γ[i]? = some (.dat (y.D K))) : EvE W (tProp (He.ga K "Clocked") (p_Clocked_period K).sp [] C8.E0 (tFld K (tVar i) "_clocked")) Γ (.dat (.int y.rn.k.T)) := evf_prop y.rn.k (rq_clk G e) rfl
end
theorem et_chain {W : Wd} {Γ : List Sl} {ta tb tc : TE} {a b c : Int} (ha : EvE W ta Γ (.dat (.int a))) (hb : EvE W tb Γ (.dat (.int b))) (hc : EvE W tc Γ (.dat (.int c))) (h1 : a ≤ b) (h2 : b < c) : EvTE W (tTest (tChain (rI0 fun i j => .bl (decide (i ≤ j))) (rI0 fun i j => .bl (decide (i < j))) ta tb tc)) Γ true := fun σ F H k Q q =>
  ha σ F H k _ fun x F1 H1 g1 z1 => hb σ F1 H1 (k.gr g1) _ fun y F2 H2 g2 z2 => by
    cases (show Rep F1 x (.int a) from z1)
    cases (show Rep F2 y (.int b) from z2)
    refine ⟨a, b, rfl, rfl, _, rfl, ?_⟩
    rw [if_pos (decide_eq_true h1)]
    refine hc σ F2 H2 ((k.gr g1).gr g2) _ fun z F3 H3 g3 z3 => ?_
    cases (show Rep F3 z (.int c) from z3)
    refine ⟨b, c, rfl, rfl, _, rfl, ?_⟩
    rw [decide_eq_true h2]
    exact q F3 H3 ((g1.trans g2).trans g3)
/-! edge_time -/
structure EtA where
  y : Rq
  j : Nat
  i : Nat
  r : Reg
abbrev A_et := {z : EtA // RnOk z.y.rn ∧ z.y.rn.k.c.regs[z.j]? = some z.r ∧ 1 ≤ z.i ∧ z.i ≤ z.y.rn.rows.length}
def p_ClockedRun_edge_time (K : PySem.W.Frag) : Prm A_et := .fn (fun z => [.dat (z.1.y.D K), .dat (.int z.1.j), .dat (.int z.1.i)]) fun z => .dat (.int (et z.1.y.rn z.1.j z.1.i))
theorem sc_ClockedRun_edge_time : FnScope ["self", "r", "k", "offsets"] ["self", "r", "k"] (defScope (inClass (top 46) 2)) := ⟨rfl, rfl, rfl, by decide +kernel, rfl, by decide +kernel, by decide +kernel⟩
theorem met_ClockedRun_edge_time (G : Gs K mg) : C8.Met P w K mg base 3 (He.ga K "ClockedRun") "edge_time" (p_ClockedRun_edge_time K).sp [] := by
  have p_Clocked_period := prp_Clocked_period (P := P) (w := w) (base := base) G
  refine Prm.met (p_ClockedRun_edge_time K) G.cls_ClockedRun G.me_ClockedRun_edge_time G.d_ClockedRun_edge_time sc_ClockedRun_edge_time (fun _ _ _ _ _ _ us hl => match us, hl with | [_, _, _], _ => rfl) (fun _ => rfl) (fun cdv A' outer s H E hr => ⟨_, (PSs.nox (pss_cons (ps_if (PW.pt (pw_or (pt_cmpR op_lt (pvx 1) pe_int (nomark _)) (pw_or (pt_cmpR op_ge (pvx 1) (pe_callB (k_len (K := K)) (by rfl) G.f_len (by decide +kernel) (pa_cons (k_fld (K := K) (pvx 0)) pa_nil)) (nomark _)) (pw_or (pt_cmpR op_lt (pvx 2) pe_int (nomark _)) (pw_or1 (pt_cmpR op_gt (pvx 2) (pe_callB (k_len (K := K)) (by rfl) G.f_len (by decide +kernel) (pa_cons (k_fld (K := K) (pvx 0)) pa_nil)) (nomark _))))))) (pss_one ps_never) pss_nil) (pss_cons (psx 3 sc_ClockedRun_edge_time.nd (pe_ix (k_ix (K := K)) (k_fld (K := K) (pvx 0)) (pvx 1) (fun _ _ => rfl))) (pss_one (ps_ret (pe_op (k_plus (K := K)) (pe_op op_times (pvx 2) (pe_propC p_Clocked_period hr (by decide) (k_fld (K := K) (pvx 0)))) (pe_ix (k_ix (K := K)) (pvx 3) (pe_op op_mod (pvx 2) (pe_callB (k_len (K := K)) (by rfl) G.f_len (by decide +kernel) (pa_cons (pvx 3) pa_nil))) (fun _ _ => rfl)))))))), ?_⟩)
  rintro ⟨⟨y, j, i, r⟩, h, hr, h1, hn⟩ F H
  have h : RnOk y.rn := h
  have hr : y.rn.k.c.regs[j]? = some r := hr
  have h1 : 1 ≤ i := h1
  have hn : i ≤ y.rn.rows.length := hn
  have h4 := h.n4
  have hjl := (List.getElem?_eq_some_iff.mp hr).1
  have hel := h.el
  obtain ⟨e, he, ne, l4, hof, _⟩ := h.off hr i
  show Ec _ _ [.dat (y.D K), .dat (.int j), .dat (.int i), .no] _
  refine ec_noS (EvTE.to (et_or (b := false) (c := false) ((et_bb (g := fun i j => decide (i < j)) (ev_var rfl) ev_int).to (decide_eq_false (by omega))) fun _ => (et_or (b := false) (c := false) ((et_bb (g := fun i j => decide (i ≥ j)) (ev_var rfl) (ev_lenL (ds := y.rn.x.es.map isD) (ev_bL (rq_edges G rfl)))).to (decide_eq_false (by rw [List.length_map]; omega))) fun _ => (et_or (b := false) (c := false) ((et_bb (g := fun i j => decide (i < j)) (ev_var rfl) ev_int).to (decide_eq_false (by omega))) fun _ => (et_bb (g := fun i j => decide (i > j)) (ev_var rfl) (rq_nrows G rfl)).to (decide_eq_false (by omega))).to rfl).to rfl) rfl) ?_
  refine ec_set (s := .dat (isD e)) (ev_ixL (ev_bL (rq_edges G rfl)) (ev_var rfl) (atI_map he)) ?_
  refine ec_ret (ev_add (ev_mul (ev_var rfl) (rq_T G rfl) (.inl ⟨by omega, by omega⟩)) (ev_ixL (ds := e.map .int) (d := .int (off y.rn j i)) (ev_bL (ev_var rfl)) (ev_bc (g := fun i j => i % j) (ev_var rfl) (ev_lenL (ds := e.map .int) (ev_bL (ev_var rfl))) (by show (0 : Int) < ((e.map D.int).length : Nat); rw [List.length_map]; omega)) ?_)) rfl
  rw [List.length_map, ← Int.natCast_emod]
  exact atI_map hof
/-! inputs -/
structure InA where
  y : Rq
  p : Nat
  n : Str
  t : Int
  b : Bool
  c : Nat
abbrev A_iv := {z : InA // RnOk z.y.rn ∧ (src z.y.rn.k.c)[z.p]? = some z.n ∧ z.p < z.y.rn.k.c.ins.length ∧ InC z.y.rn.k z.c z.n z.t ∧ z.c < z.y.rn.rows.length}
def p_ClockedRun__input_value (K : PySem.W.Frag) : Prm A_iv := .fn (fun z => [.dat (z.1.y.D K), .dat (.int z.1.p), .dat (.int z.1.t), .dat (.bl z.1.b)]) fun z => .dat (.bl (z.1.y.rn.V z.1.c z.1.n))
theorem sc_ClockedRun__input_value : FnScope ["self", "place", "time", "shake", "cycle", "since", "until"] ["self", "place", "time", "shake"] (defScope (inClass (top 46) 4)) := ⟨rfl, rfl, rfl, by decide +kernel, rfl, by decide +kernel, by decide +kernel⟩
theorem met_ClockedRun__input_value (G : Gs K mg) : C8.Met P w K mg base 3 (He.ga K "ClockedRun") "_input_value" (p_ClockedRun__input_value K).sp [] := by
  have m_Clocked_holds := met_Clocked_holds (P := P) (w := w) (base := base) G
  have p_Clocked_period := prp_Clocked_period (P := P) (w := w) (base := base) G
  refine Prm.met (p_ClockedRun__input_value K) G.cls_ClockedRun G.me_ClockedRun__input_value G.d_ClockedRun__input_value sc_ClockedRun__input_value (fun _ _ _ _ _ _ us hl => match us, hl with | [_, _, _, _], _ => rfl) (fun _ => rfl) (fun cdv A' outer s H E hr => ⟨_, (PSs.nox (pss_cons (ps_asg (pe_ix (k_ix (K := K)) (C8.pe_mt0 m_Clocked_holds hr (by decide) (k_fld (K := K) (pvx 0))) (pvx 1) (fun _ _ => rfl)) (k_tup (K := K) (n := 2) (pgs_cons (pgx 5 sc_ClockedRun__input_value.nd) (pgs_cons (pgx 6 sc_ClockedRun__input_value.nd) pgs_nil)))) (pss_cons (psx 4 sc_ClockedRun__input_value.nd (pe_op op_fdiv (pe_op op_sub (pvx 2) (pvx 5)) (pe_propC p_Clocked_period hr (by decide) (k_fld (K := K) (pvx 0))))) (pss_cons (ps_if (PW.pt (pw_and (pt_chain op_le op_lt pe_int (pvx 4) (pe_callB (k_len (K := K)) (by rfl) G.f_len (by decide +kernel) (pa_cons (k_fld (K := K) (pvx 0)) pa_nil))) (pw_and1 (pt_cmpR op_lt (pvx 2) (pe_op (k_plus (K := K)) (pe_op op_times (pe_op (k_plus (K := K)) (pvx 4) pe_int) (pe_propC p_Clocked_period hr (by decide) (k_fld (K := K) (pvx 0)))) (pvx 6)) (nomark _))))) (pss_one (ps_ret (pe_ix (k_ix (K := K)) (pe_ix (k_ix (K := K)) (k_fld (K := K) (pvx 0)) (pvx 4) (fun _ _ => rfl)) (pvx 1) (fun _ _ => rfl)))) pss_nil) (pss_one (ps_ret (pvx 3))))))), ?_⟩)
  rintro ⟨⟨y, p, n, t, b, c⟩, h, hs, hp, hw, hc⟩ F H
  have h : RnOk y.rn := h
  have hs : (src y.rn.k.c)[p]? = some n := hs
  have hp : p < y.rn.k.c.ins.length := hp
  have hw : InC y.rn.k c n t := hw
  have hc : c < y.rn.rows.length := hc
  have h4 := h.n4
  obtain ⟨q, hq, hle, w1, w2⟩ := win_in h.ck hw hs hp
  have hT := h.ck.T
  have hT2 := h.ck.T2
  have cy := cyc_of (a := q.1) hT w1 (by omega)
  obtain ⟨row, hr⟩ : ∃ row, y.rn.rows[c]? = some row := ⟨_, List.getElem?_eq_getElem hc⟩
  have hrl := h.row row (List.mem_of_getElem? hr)
  have hv : row[p]? = some (y.rn.V c n) := by
    have := (h.sol c row hr).s p n hs
    rwa [List.getElem?_append_left (by omega)] at this
  show Ec _ _ [.dat (y.D K), .dat (.int p), .dat (.int t), .dat (.bl b), .no, .no, .no] _
  refine ec_unpS (d := pD q) (ev_ixL (ds := y.rn.k.hs.map pD) (ev_bL (ev_fL (evf_meth y.rn.k (rq_clk G rfl) rfl ea_nil rfl rfl))) (ev_var rfl) (atI_map hq)) (tg_tup (tgs_cons tg_name (tgs_cons tg_name tgs_nil)) rfl) ?_
  refine ec_set (s := .dat (.int (c : Nat))) ((ev_bc (g := fun i j => i / j) (ev_bi (g := fun i j => i - j) (ev_var rfl) (ev_var rfl)) (rq_T G rfl) ⟨by omega, by omega⟩).to (congrArg (fun i => Sl.dat (.int i)) cy)) ?_
  refine ec_seq (M := fun _ => False) (ec_if (b := true) (EvTE.to (et_and (b := true) (c := true) (et_chain (ev_int) (ev_var rfl) (rq_nrows G rfl) (by omega) (by omega)) fun _ => (et_bb (g := fun i j => decide (i < j)) (ev_var rfl) (ev_add (ev_mul (ev_add (ev_var rfl) ev_int) (rq_T G rfl) (.inl ⟨by omega, by omega⟩)) (ev_var rfl))).to (decide_eq_true (by rw [Int.add_mul, Int.one_mul]; omega))) rfl) (fun _ => ?_) fun h => nomatch h) fun _ h => h.elim
  exact ec_ret (ev_ixT (ds := row.map .bl) (ev_ixL (d := bT row) (ev_bL (rq_rows G rfl)) (ev_var rfl) (atI_map hr)) (ev_var rfl) (atI_map hv)) rfl
/-! state -/
def stD (st : List (List Bool)) : D := .lst (st.map bsD)
structure SaA where
  y : Rq
  st : List (List Bool)
  i : Nat
  out : List Bool
abbrev A_sa := {z : SaA // RnOk z.y.rn ∧ z.y.st = stD z.st ∧ z.i ≤ z.y.rn.rows.length ∧ z.st.length ≤ 3 ∧ z.out.length = z.st.length ∧ ∀ (j : Nat) (b : List Bool), z.st[j]? = some b → ∃ v, b[z.i]? = some v ∧ z.out[j]? = some v}
def p_ClockedRun_state (K : PySem.W.Frag) : Prm A_sa := .fn (fun z => [.dat (z.1.y.D K), .dat (.int z.1.i)]) fun z => .dat (bT z.1.out)
theorem sc_ClockedRun_state : FnScope ["self", "k", "row"] ["self", "k"] (defScope (inClass (top 46) 6)) := ⟨rfl, rfl, rfl, by decide +kernel, rfl, by decide +kernel, by decide +kernel⟩
theorem met_ClockedRun_state (G : Gs K mg) : C8.Met P w K mg base 1 (He.ga K "ClockedRun") "state" (p_ClockedRun_state K).sp [] := by
  refine Prm.met (p_ClockedRun_state K) G.cls_ClockedRun G.me_ClockedRun_state G.d_ClockedRun_state sc_ClockedRun_state (fun _ _ _ _ _ _ us hl => match us, hl with | [_, _], _ => rfl) (fun _ => rfl) (fun cdv A' outer s H E hr => ⟨_, (PSs.nox (pss_cons (ps_if (PW.pt (pw_or (pt_cmpR op_lt (pvx 1) pe_int (nomark _)) (pw_or1 (pt_cmpR op_gt (pvx 1) (pe_callB (k_len (K := K)) (by rfl) G.f_len (by decide +kernel) (pa_cons (k_fld (K := K) (pvx 0)) pa_nil)) (nomark _))))) (pss_one ps_never) pss_nil) (pss_one (ps_ret (pe_callTy (k_tuple (K := K)) (by rfl) G.f_tuple (by decide +kernel) (pa_cons (pe_lc (own := [("row", 2)]) (g := (gName 2)) (by rfl) sc_ClockedRun_state.nd (k_seq (K := K) (k_fld (K := K) (pvx 0))) (blkOk_by (by kernel_rfl)) (fun _ _ _ _ _ => (pgx 2 sc_ClockedRun_state.nd)) (fun _ _ _ _ _ => pts_nil) (fun _ _ _ _ _ => (pe_ix (k_ix (K := K)) (pvx 2) (pvx 1) (fun _ _ => rfl)))) pa_nil)))))), ?_⟩)
  rintro ⟨⟨y, st, i, out⟩, h, hst, hi, h3, hl, hb⟩ F H
  have h : RnOk y.rn := h
  have hst : y.st = stD st := hst
  have hi : i ≤ y.rn.rows.length := hi
  have h3 : st.length ≤ 3 := h3
  have hl : out.length = st.length := hl
  have hb : ∀ (j : Nat) (b : List Bool), st[j]? = some b → ∃ v, b[i]? = some v ∧ out[j]? = some v := hb
  show Ec _ _ [.dat (y.D K), .dat (.int i), .no] _
  refine ec_noS (EvTE.to (et_or (b := false) (c := false) ((et_bb (g := fun i j => decide (i < j)) (ev_var rfl) ev_int).to (decide_eq_false (by omega))) fun _ => (et_bb (g := fun i j => decide (i > j)) (ev_var rfl) (rq_nrows G rfl)).to (decide_eq_false (by omega))) rfl) ?_
  refine ec_ret (ev_tupL (ev_own_bor (ev_lcI (ds := st.map bsD) (out.map .bl) (it_list ((rq_st G rfl).to (by rw [hst]; rfl))) (by rw [List.length_map]; omega) (by rw [List.length_map, List.length_map, hl]) fun j d e hd he => ?_))) rfl
  obtain ⟨b, hbj, rfl⟩ := map_get hd
  obtain ⟨v, hvj, rfl⟩ := map_get he
  obtain ⟨v', h1, h2⟩ := hb j b hbj
  rw [hvj] at h2
  cases h2
  exact ⟨_, _, tg_name, fun _ h => h, ev_ixL (ds := b.map .bl) (ev_bL (ev_var rfl)) (ev_var rfl) (atI_map h1)⟩
end Sg
/-! W29: the values of a run while it plays. -/
namespace Sg
open PySem PySem.Spec PyProof.Rows L2 Dn
variable {P : Program} {w : World} {K : PySem.W.Frag} {mg : Str → Option Value} {base : Heap}
structure Ra where
  rn : Rn
  pk : List (Key × D)
  dk : List (Key × D)
  rk : Str → Nat
  R : Addr
  kn : Addr
  so : List Addr
def tkF (a : Ra) : List (Str × D) := [("circuit", cD a.rn.k.c), ("delays", dlD a.rn.x.dl), ("origin", .adr a.R), ("driven", .dic a.dk), ("known", .adr a.kn)]
def tkD (K : PySem.W.Frag) (a : Ra) : D := .ins (He.ga K "Tracker") (tkF a)
def Ra.q (K : PySem.W.Frag) (a : Ra) : Rq := ⟨a.rn, a.pk, .lst (a.so.map .adr), tkD K a⟩
structure RaOk (a : Ra) : Prop where
  ok : RnOk a.rn
  pk : ∀ (i : Nat) (n : Str), (src a.rn.k.c)[i]? = some n → lk a.pk (.inr n) = some (.int i)
  dk : Drv a.rn.k.c a.dk
  rk : RkOk a.rn.k.c a.rk
  sol : a.so.length = a.rn.k.c.regs.length
  nd : a.so.Nodup
  ne : a.kn ∉ a.so
def raM (a : Ra) (b : Addr) : Prop := b = a.kn ∨ b ∈ a.so
structure KrOk (a : Ra) (F : Hp) (kk : List NKV) : Prop where
  nd : (kk.map (·.1)).Nodup
  all : ∀ p ∈ kk, ∃ n t, Rep F (.ref p.2.1) (.tup [.str n, .int t]) ∧ p.1 = k2N n t ∧ n ∈ nets a.rn.k.c ∧ -1000 ≤ t ∧ t < 100000
  tr : ∀ n t v, lkN kk (k2N n t) = some v → n ∈ nets a.rn.k.c → ∃ b, v = .bl b ∧ ∀ c, c < a.rn.rows.length → InC a.rn.k c n t → b = a.rn.V c n
/-- register i has stored ls i states -/
def StJ (a : Ra) (ls : Nat → Nat) (H : Hp) : Prop := ∀ i b, a.so[i]? = some b → ∃ bs : List Bool, H b = some (.lst (bs.map V.bl)) ∧ bs.length = ls i ∧ ∀ m v, bs[m]? = some v → (a.rn.S m)[i]? = some v
def raJ (P : Program) (w : World) (K : PySem.W.Frag) (a : Ra) (ls : Nat → Nat) (F H : Hp) : Prop := Rep F (.ref a.R) ((a.q K).D K) ∧ (∃ kk, H a.kn = some (NDo P w a.kn kk) ∧ KrOk a F kk) ∧ StJ a ls H
theorem KrOk.le {a : Ra} {F F' : Hp} {kk : List NKV} (h : KrOk a F kk) (l : Le F F') : KrOk a F' kk := ⟨h.nd, fun p hp => by
  obtain ⟨n, t, r, q⟩ := h.all p hp
  exact ⟨n, t, r.mono l, q⟩, h.tr⟩
theorem StJ.st {a : Ra} {ls : Nat → Nat} {H H' : Hp} (h : StJ a ls H) (e : ∀ b, raM a b → H' b = H b) : StJ a ls H' := fun i b hb => by
  obtain ⟨bs, e1, q⟩ := h i b hb
  exact ⟨bs, (e b (.inr (List.mem_of_getElem? hb))).trans e1, q⟩
theorem raJ_st {a : Ra} {ls : Nat → Nat} {F H F' H' : Hp} (h : raJ P w K a ls F H) (l : Le F F') (e : ∀ b, raM a b → H' b = H b) : raJ P w K a ls F' H' := by
  obtain ⟨h1, ⟨kk, h2, h3⟩, h4⟩ := h
  exact ⟨h1.mono l, ⟨kk, (e _ (.inl rfl)).trans h2, h3.le l⟩, h4.st e⟩
def rP {A : Type} (P : Program) (w : World) (K : PySem.W.Frag) (a : A → Ra) (ls : A → Nat → Nat) (args : A → List Sl) (res : A → Sl → Prop) : Prm A := ⟨fun x => raM (a x), fun x => raJ P w K (a x) (ls x), fun x {_ _ _ _} h l e => raJ_st h l e, args, res⟩
theorem KrOk.keys {a : Ra} {F : Hp} {kk : List NKV} (h : KrOk a F kk) : KeysOk F kk := fun p hp => by
  obtain ⟨n, t, r, e, _⟩ := h.all p hp
  rw [e]
  exact ⟨k2_key r, k2N_depth ..⟩
theorem RaOk.n10 {a : Ra} (h : RaOk a) : (nets a.rn.k.c).length ≤ 10 := by
  have h1 := h.ok.ck.wf.i
  have h2 := h.ok.ck.wf.r
  have h3 := h.ok.ck.wf.g
  unfold nets src
  rw [List.length_append, List.length_append, List.length_map, List.length_map]; omega
theorem KrOk.len {a : Ra} {F : Hp} {kk : List NKV} (ha : RaOk a) (h : KrOk a F kk) : kk.length < 16000000 := by
  have := k2_count (ns := nets a.rn.k.c) (lo := -1000) (W := 101000) h.nd fun k hk => by
    obtain ⟨p, hp, e⟩ := List.mem_map.mp hk
    obtain ⟨n, t, _, e2, h1, h2, h3⟩ := h.all p hp
    exact ⟨n, t, e.symm.trans e2, h1, h2, by omega⟩
  rw [List.length_map] at this
  have q2 : (nets a.rn.k.c).length * 101000 ≤ 10 * 101000 := Nat.mul_le_mul_right _ ha.n10
  omega
section
variable {W : Wd} {Γ : List Sl} {te tb : TE}
/-- an object that the world knows -/
theorem ev_adr {b : Addr} {d : D} (h : EvE W te Γ (.dat (.adr b))) (hJ : ∀ F H, Sok W F H → Rep F (.ref b) d) : EvE W te Γ (.dat d) := fun σ F H k Q q => h σ F H k _ fun v F1 H1 g z => by
  cases (show Rep F1 v (.adr b) from z)
  exact q _ F1 H1 g (hJ F1 H1 g.ok)
theorem ev_ixA {b : Addr} {i : Int} {d : D} (h : EvE W te Γ (.dat (.adr b))) (h2 : EvE W tb Γ (.dat (.int i))) (hJ : ∀ F H, Sok W F H → ∃ xs v, H b = some (.lst xs) ∧ atI xs i = some v ∧ Rep F v d) : EvE W (tOp (rIx K) te tb) Γ (.dat d) := fun σ F H k Q q =>
  h σ F H k _ fun v F1 H1 g z => h2 σ F1 H1 (k.gr g) _ fun u F2 H2 g2 z2 => by
    cases (show Rep F1 v (.adr b) from z)
    cases (show Rep F2 u (.int i) from z2)
    obtain ⟨xs, x, e, e2, r⟩ := hJ F2 H2 g2.ok
    exact .inl ⟨_, _, i, x, rfl, rfl, SqL.of e, e2, q x F2 H2 (g.trans g2) r⟩
end
/-! outputs -/
structure OvA where
  a : Ra
  ls : Nat → Nat
  j : Nat
  r : Reg
  t : Int
  b : Bool
  c : Nat
structure OvOk (z : OvA) : Prop where
  a : RaOk z.a
  r : z.a.rn.k.c.regs[z.j]? = some z.r
  w : InC z.a.rn.k z.c z.r.nm z.t
  c : z.c < z.a.rn.rows.length
  l : z.c < z.ls z.j
abbrev A_ov := {z : OvA // OvOk z}
def p_ClockedRun__output_value (P : Program) (w : World) (K : PySem.W.Frag) : Prm A_ov := rP P w K (fun z => z.1.a) (fun z => z.1.ls) (fun z => [.dat ((z.1.a.q K).D K), .dat (.int z.1.j), .dat (.int z.1.t), .dat (.bl z.1.b)]) fun z s => s = .dat (.bl (z.1.a.rn.V z.1.c z.1.r.nm))
theorem V_reg {ρ : Rn} (h : RnOk ρ) {c j : Nat} {r : Reg} (hc : c < ρ.rows.length) (hr : ρ.k.c.regs[j]? = some r) : (ρ.S c)[j]? = some (ρ.V c r.nm) := by
  obtain ⟨row, hrw⟩ : ∃ row, ρ.rows[c]? = some row := ⟨_, List.getElem?_eq_getElem hc⟩
  have hrl := h.row row (List.mem_of_getElem? hrw)
  have hs : (src ρ.k.c)[ρ.k.c.ins.length + j]? = some r.nm := by
    unfold src
    rw [List.getElem?_append_right (by omega), Nat.add_sub_cancel_left, List.getElem?_map, hr]
    rfl
  have := (h.sol c row hrw).s _ _ hs
  rwa [List.getElem?_append_right (by omega), hrl, Nat.add_sub_cancel_left] at this
theorem sc_ClockedRun__output_value : FnScope ["self", "r", "time", "shake", "latest", "k", "low", "high"] ["self", "r", "time", "shake"] (defScope (inClass (top 46) 5)) := ⟨rfl, rfl, rfl, by decide +kernel, rfl, by decide +kernel, by decide +kernel⟩
theorem met_output_value (G : Gs K mg) : C8.Met P w K mg base 4 (He.ga K "ClockedRun") "_output_value" (p_ClockedRun__output_value P w K).sp [] := by
  have m_ClockedRun_edge_time := met_ClockedRun_edge_time (P := P) (w := w) (base := base) G
  refine Prm.met (p_ClockedRun__output_value P w K) G.cls_ClockedRun G.me_ClockedRun__output_value G.d_ClockedRun__output_value sc_ClockedRun__output_value (fun _ _ _ _ _ _ us hl => match us, hl with | [_, _, _, _], _ => rfl) (fun _ => rfl) (fun cdv A' outer s H E hr => ⟨_, (PSs.nox (pss_cons (ps_asg (pe_ix (k_ix (K := K)) (pe_ix (k_ix (K := K)) (pe_ix (k_ix (K := K)) (k_fld (K := K) (pvx 0)) pe_int (fun _ _ => rfl)) (pvx 1) (fun _ _ => rfl)) pe_int (fun _ _ => rfl)) (k_tup (K := K) (n := 2) (pgs_cons (pgx 6 sc_ClockedRun__output_value.nd) (pgs_cons (pgx 7 sc_ClockedRun__output_value.nd) pgs_nil)))) (pss_cons (psx 4 sc_ClockedRun__output_value.nd pe_int) (pss_cons (ps_for PassesOwn.never (by rfl) (pi_range2 (by rfl) G.f_range (pa_cons pe_int (pa_cons (pe_op (k_plus (K := K)) (pe_callB (k_len (K := K)) (by rfl) G.f_len (by decide +kernel) (pa_cons (k_fld (K := K) (pvx 0)) pa_nil)) pe_int) pa_nil))) (pgx 5 sc_ClockedRun__output_value.nd) (pss_one (ps_if (pt_cmpR op_le (pe_op (k_plus (K := K)) (C8.pe_mt m_ClockedRun_edge_time hr (by decide) (pvx 0) (pa_cons (pvx 1) (pa_cons (pvx 5) pa_nil))) (pvx 6)) (pvx 2) (nomark _)) (pss_one (psx 4 sc_ClockedRun__output_value.nd (pvx 5))) pss_nil))) (pss_cons (ps_if (PW.pt (pw_and (pt_cmpR op_gt (pvx 4) pe_int (nomark _)) (pw_and1 (pt_cmpR op_lt (pvx 2) (pe_op (k_plus (K := K)) (C8.pe_mt m_ClockedRun_edge_time hr (by decide) (pvx 0) (pa_cons (pvx 1) (pa_cons (pvx 4) pa_nil))) (pvx 7)) (nomark _))))) (pss_one (ps_ret (pvx 3))) pss_nil) (pss_one (ps_ret (pe_ix (k_ix (K := K)) (pe_ix (k_ix (K := K)) (k_fld (K := K) (pvx 0)) (pvx 1) (fun _ _ => rfl)) (pvx 4) (fun _ _ => rfl))))))))), ?_⟩)
  rintro ⟨⟨a, ls, j, r, t, b, c⟩, hz⟩ F H
  have ha : RaOk a := hz.a
  have hr : a.rn.k.c.regs[j]? = some r := hz.r
  have hw : InC a.rn.k c r.nm t := hz.w
  have hc : c < a.rn.rows.length := hz.c
  have hl : c < ls j := hz.l
  have h := ha.ok
  have h4 := h.n4
  have rok := h.ck.wf.reg r (List.mem_of_getElem? hr)
  have ho := rok.o1
  show Ec _ _ [.dat ((a.q K).D K), .dat (.int j), .dat (.int t), .dat (.bl b), .no, .no, .no, .no] _
  have etc : ∀ {W : Wd} {Γ : List Sl} {tk : TE} (i : Nat), 1 ≤ i → i ≤ a.rn.rows.length → Γ[0]? = some (.dat ((a.q K).D K)) → Γ[1]? = some (.dat (.int j)) → EvE W tk Γ (.dat (.int (i : Nat))) → EvE W (tMeth (He.ga K "ClockedRun") "edge_time" (p_ClockedRun_edge_time K).sp [] C8.E0 (tVar 0) (tCons (tVar 1) (tCons tk tNil))) Γ (.dat (.int (et a.rn j i))) := fun i h1 hn e0 e1 ek =>
    evf_meth (⟨⟨a.q K, j, i, r⟩, h, hr, h1, hn⟩ : A_et) (ev_var e0) rfl (ea_cons (ev_var e1) (ea_1 ek)) rfl rfl
  refine ec_unpS (d := .tup [.int r.o0, .int r.o1]) (ev_ixT (ev_ixT (d := rD r) (ev_ixT (d := .tup (a.rn.k.c.regs.map rD)) (rq_cir (y := a.q K) G rfl) ev_int rfl) (ev_var rfl) (atI_map hr)) ev_int rfl) (tg_tup (tgs_cons tg_name (tgs_cons tg_name tgs_nil)) rfl) ?_
  refine ec_set ev_int ?_
  refine ec_seq (M := fun Γ => ∃ s5, Γ = [.dat ((a.q K).D K), .dat (.int j), .dat (.int t), .dat (.bl b), .dat (.int (c : Nat)), s5, .dat (.int r.o0), .dat (.int r.o1)]) ?_ ?_
  · refine ec_for (it_rng2 (ea_cons ev_int (ea_1 (ev_add (rq_nrows (y := a.q K) G rfl) ev_int))) (b62 ⟨by omega, by omega⟩ ⟨by dsimp only [Ra.q]; omega, by dsimp only [Ra.q]; omega⟩)) (fun i Γ => ∃ s5, Γ = [.dat ((a.q K).D K), .dat (.int j), .dat (.int t), .dat (.bl b), .dat (.int ((min i c : Nat))), s5, .dat (.int r.o0), .dat (.int r.o1)]) ⟨_, by rw [Nat.zero_min]; rfl⟩ ?_ ?_
    · rintro i d _ hd ⟨s5, rfl⟩
      obtain ⟨hi, rfl⟩ := rngD_get hd
      have hi : i < ((a.rn.rows.length : Int) + 1 - 1).toNat := hi
      have hin : i + 1 ≤ a.rn.rows.length := by omega
      refine ⟨_, _, tg_name, ?_⟩
      have ed := edge_in h hr hw (i + 1)
      refine ec_if (b := decide (et a.rn j (i + 1) + r.o0 ≤ t)) (et_bb (g := fun i j => decide (i ≤ j)) (ev_add (etc (i + 1) (by omega) hin rfl rfl ((ev_var rfl).to (congrArg (fun i => Sl.dat (.int i)) (by omega)))) (ev_var rfl)) (ev_var rfl)) (fun hb => ?_) fun hb => ec_next ⟨.dat (.int (1 + (i : Nat))), ?_⟩
      · have hb := of_decide_eq_true hb
        have hic : i + 1 ≤ c := Nat.not_lt.mp fun q => by have := ed.2 q; omega
        exact ec_asg (s := .dat (.int ((i + 1 : Nat) : Int))) ((ev_var rfl).to (congrArg (fun i => Sl.dat (.int i)) (by omega))) (fun o h => nomatch h) ⟨_, by rw [Nat.min_eq_left hic]; rfl⟩
      · have hb := of_decide_eq_false hb
        have hic : c ≤ i := Nat.not_lt.mp fun q => by have := ed.1 q; omega
        rw [Nat.min_eq_right hic, Nat.min_eq_right (Nat.le_succ_of_le hic)]
        rfl
    · rintro _ ⟨s5, rfl⟩
      rw [rngD_len, Nat.min_eq_right (by dsimp only [Ra.q]; omega)]
      exact ⟨_, rfl⟩
  rintro _ ⟨s5, rfl⟩
  refine ec_noS (EvTE.to (et_and (b := decide ((c : Int) > 0)) (c := false) (et_bb (g := fun i j => decide (i > j)) (ev_var rfl) ev_int) fun hb => (et_bb (g := fun i j => decide (i < j)) (ev_var rfl) (ev_add (etc c (by have := of_decide_eq_true hb; omega) (by omega) rfl rfl (ev_var rfl)) (ev_var rfl))).to (decide_eq_false (by have := (edge_in h hr hw c).1 (Nat.le_refl _); omega))) (Bool.and_false _)) ?_
  obtain ⟨sa, hsa⟩ : ∃ b, a.so[j]? = some b := ⟨_, List.getElem?_eq_getElem (by rw [ha.sol]; exact (List.getElem?_eq_some_iff.mp hr).1)⟩
  refine ec_ret (ev_ixA (b := sa) (ev_ixL (ds := a.so.map .adr) (ev_bL (rq_st (y := a.q K) G rfl)) (ev_var rfl) (atI_map hsa)) (ev_var rfl) ?_) rfl
  rintro F H sk
  obtain ⟨_, _, st⟩ := (show raJ P w K a ls F H from sk.j)
  obtain ⟨bs, e, hbl, hbv⟩ := st j sa hsa
  have hcl : c < bs.length := by omega
  have hv := hbv c _ (List.getElem?_eq_getElem hcl)
  rw [V_reg h hc hr] at hv
  refine ⟨_, _, e, atI_n (d := V.bl bs[c]) (by rw [List.getElem?_map, List.getElem?_eq_getElem hcl]; rfl), ?_⟩
  rw [← Option.some.inj hv]
  exact .bl _
/-! sources -/
def Rdy (a : Ra) (ls : Nat → Nat) (c : Nat) (t : Int) : Prop := ∀ (j : Nat) (r : Reg) (t' : Int), a.rn.k.c.regs[j]? = some r → t' ≤ t → InC a.rn.k c r.nm t' → c < ls j
structure SvA where
  a : Ra
  ls : Nat → Nat
  n : Str
  t : Int
  c : Nat
structure SvOk (z : SvA) : Prop where
  a : RaOk z.a
  n : z.n ∈ nets z.a.rn.k.c
  w : InC z.a.rn.k z.c z.n z.t
  c : z.c < z.a.rn.rows.length
  l : Rdy z.a z.ls z.c z.t
abbrev A_srv := {z : SvA // SvOk z ∧ z.n ∈ src z.a.rn.k.c}
def p_ClockedRun_source_value (P : Program) (w : World) (K : PySem.W.Frag) : Prm A_srv := rP P w K (fun z => z.1.a) (fun z => z.1.ls) (fun z => [.dat ((z.1.a.q K).D K), .dat (.str z.1.n), .dat (.int z.1.t)]) fun z s => s = .dat (.bl (z.1.a.rn.V z.1.c z.1.n))
theorem sc_ClockedRun_source_value : FnScope ["self", "net", "time", "place", "shakes", "shake"] ["self", "net", "time"] (defScope (inClass (top 46) 3)) := ⟨rfl, rfl, rfl, by decide +kernel, rfl, by decide +kernel, by decide +kernel⟩
theorem met_source_value (G : Gs K mg) : C8.Met P w K mg base 5 (He.ga K "ClockedRun") "source_value" (p_ClockedRun_source_value P w K).sp [] := by
  have m_ClockedRun__input_value := met_ClockedRun__input_value (P := P) (w := w) (base := base) G
  have m_ClockedRun__output_value := met_output_value (P := P) (w := w) (base := base) G
  refine Prm.met (p_ClockedRun_source_value P w K) G.cls_ClockedRun G.me_ClockedRun_source_value G.d_ClockedRun_source_value sc_ClockedRun_source_value (fun _ _ _ _ _ _ us hl => match us, hl with | [_, _, _], _ => rfl) (fun _ => rfl) (fun cdv A' outer s H E hr => ⟨_, (PSs.nox (pss_cons (psx 3 sc_ClockedRun_source_value.nd (pe_dget (hu_of hr) (k_fld (K := K) (pvx 0)) (pvx 1) (fun _ _ => rfl))) (pss_cons (psx 4 sc_ClockedRun_source_value.nd (pe_ix (k_ix (K := K)) (k_fld (K := K) (pvx 0)) (pvx 3) (fun _ _ => rfl))) (pss_cons (psx 5 sc_ClockedRun_source_value.nd (pe_ix (k_ix (K := K)) (pvx 4) (pe_op op_mod (pvx 2) (pe_callB (k_len (K := K)) (by rfl) G.f_len (by decide +kernel) (pa_cons (pvx 4) pa_nil))) (fun _ _ => rfl))) (pss_cons (ps_if (pt_cmpR op_lt (pvx 3) (pe_callB (k_len (K := K)) (by rfl) G.f_len (by decide +kernel) (pa_cons (pe_ix (k_ix (K := K)) (k_fld (K := K) (pvx 0)) pe_int (fun _ _ => rfl)) pa_nil)) (nomark _)) (pss_one (ps_ret (C8.pe_mt m_ClockedRun__input_value hr (by decide) (pvx 0) (pa_cons (pvx 3) (pa_cons (pvx 2) (pa_cons (pvx 5) pa_nil)))))) pss_nil) (pss_one (ps_ret (C8.pe_mt m_ClockedRun__output_value hr (by decide) (pvx 0) (pa_cons (pe_op op_sub (pvx 3) (pe_callB (k_len (K := K)) (by rfl) G.f_len (by decide +kernel) (pa_cons (pe_ix (k_ix (K := K)) (k_fld (K := K) (pvx 0)) pe_int (fun _ _ => rfl)) pa_nil))) (pa_cons (pvx 2) (pa_cons (pvx 5) pa_nil))))))))))), ?_⟩)
  rintro ⟨⟨a, ls, n, t, c⟩, hz, hn⟩ F H
  have ha : RaOk a := hz.a
  have hw : InC a.rn.k c n t := hz.w
  have hc : c < a.rn.rows.length := hz.c
  have hl : Rdy a ls c t := hz.l
  have hn : n ∈ src a.rn.k.c := hn
  have h := ha.ok
  obtain ⟨p, hp⟩ := List.mem_iff_getElem?.mp hn
  have hpl := (List.getElem?_eq_some_iff.mp hp).1
  have hsl := h.sl
  obtain ⟨sh, hsh⟩ : ∃ sh, a.rn.x.sh[p]? = some sh := ⟨_, List.getElem?_eq_getElem (by omega)⟩
  have s14 := h.s sh (List.mem_of_getElem? hsh)
  have s0 : (0 : Int) < (sh.length : Nat) := by have := s14.1; omega
  have m0 := Int.emod_nonneg t (Int.ne_of_gt s0)
  have m1 := Int.emod_lt_of_pos t s0
  obtain ⟨b, hb⟩ : ∃ b, sh[(t % (sh.length : Nat)).toNat]? = some b := ⟨_, List.getElem?_eq_getElem (by omega)⟩
  show Ec _ _ [.dat ((a.q K).D K), .dat (.str n), .dat (.int t), .no, .no, .no] _
  refine ec_set (ev_dget (k := .inr n) (ev_bD (rq_pk (y := a.q K) G rfl)) (ev_var rfl) (ha.pk p n hp)) ?_
  refine ec_set (s := .dat (bsD sh)) (ev_ixL (ds := a.rn.x.sh.map bsD) (ev_bL (rq_sh (y := a.q K) G rfl)) (ev_var rfl) (atI_map hsh)) ?_
  refine ec_set (s := .dat (.bl b)) (ev_ixL (ds := sh.map .bl) (i := (((t % (sh.length : Nat)).toNat : Nat) : Int)) (ev_bL (ev_var rfl)) ((ev_bc (g := fun i j => i % j) (ev_var rfl) ((ev_lenL (ds := sh.map .bl) (ev_bL (ev_var rfl))).to (by rw [List.length_map])) (by show (0 : Int) < (sh.length : Nat); exact s0)).to (congrArg (fun i => Sl.dat (.int i)) (Int.toNat_of_nonneg m0).symm)) (atI_map hb)) ?_
  have nI : ∀ {W : Wd} {Γ : List Sl}, Γ[0]? = some (.dat ((a.q K).D K)) → EvE W (tCB (Dn.rLen K) (tCons (tOp (rIx K) (tFld K (tVar 0) "_circuit") (tC (.int 0))) tNil)) Γ (.dat (.int (a.rn.k.c.ins.length : Nat))) := fun e => (ev_lenT (ds := a.rn.k.c.ins.map .str) (ev_ixT (rq_cir (y := a.q K) G e) ev_int rfl)).to (by rw [List.length_map])
  by_cases q : p < a.rn.k.c.ins.length
  · refine ec_seq (M := fun _ => False) (ec_if (b := true) ((et_bb (g := fun i j => decide (i < j)) (ev_var rfl) (nI rfl)).to (decide_eq_true (by omega))) (fun _ => ?_) fun h => nomatch h) fun _ h => h.elim
    exact ec_ret (evf_meth (⟨⟨a.q K, p, n, t, b, c⟩, h, hp, q, hw, hc⟩ : A_iv) (ev_var rfl) rfl (ea_cons (ev_var rfl) (ea_cons (ev_var rfl) (ea_1 (ev_var rfl)))) rfl rfl) rfl
  · refine ec_noS ((et_bb (g := fun i j => decide (i < j)) (ev_var rfl) (nI rfl)).to (decide_eq_false (by omega))) ?_
    have hp2 := hp
    unfold src at hp2
    rw [List.getElem?_append_right (by omega), List.getElem?_map] at hp2
    cases er : a.rn.k.c.regs[p - a.rn.k.c.ins.length]? with
    | none => rw [er] at hp2; cases hp2
    | some r =>
      rw [er] at hp2
      have en : r.nm = n := Option.some.inj hp2
      subst en
      refine ec_retR (ev_meth (p := p_ClockedRun__output_value P w K) (⟨⟨a, ls, p - a.rn.k.c.ins.length, r, t, b, c⟩, ⟨ha, er, hw, hc, hl _ r t er (Int.le_refl _) hw⟩⟩ : A_ov) (ev_var rfl) rfl (ea_cons ((ev_bi (g := fun i j => i - j) (ev_var rfl) (nI rfl)).to (congrArg (fun i => Sl.dat (.int i)) (by dsimp only; omega))) (ea_cons (ev_var rfl) (ea_1 (ev_var rfl)))) rfl (fits_same rfl rfl) rfl) fun s hs => ?_
      have e := hs.1
      subst e
      exact ⟨(fun o h => nomatch h), rfl⟩
end Sg
/-! W30: Tracker.value. -/
namespace Sg
open PySem PySem.Spec PyProof.Rows L2 Dn
variable {P : Program} {w : World} {K : PySem.W.Frag} {mg : Str → Option Value} {base : Heap}
theorem ech_frz {W : Wd} {t : TS} {Γ : List Sl} {N : List Sl → Hp → Hp → Prop} {o : Ow} (i : Nat) (hi : Γ[i]? = some (.own o)) (e : EcH W t (Γ.set i (.dat o.d)) N) : EcH W t Γ N := fun σ F H ko Z n => by
  obtain ⟨F', k', l⟩ := ko.frz hi
  exact e σ F' H k' Z fun Γ' σ' F2 H2 k2 l2 m => n Γ' σ' F2 H2 k2 (l.trans l2) m
abbrev A_tv (r : Nat) := {z : SvA // SvOk z ∧ -1000 + 100 * (z.a.rk z.n : Int) ≤ z.t ∧ z.t < 100000 ∧ z.a.rk z.n < r}
def p_Tracker_value (P : Program) (w : World) (K : PySem.W.Frag) (r : Nat) : Prm (A_tv r) := rP P w K (fun z => z.1.a) (fun z => z.1.ls) (fun z => [.dat (tkD K z.1.a), .dat (.str z.1.n), .dat (.int z.1.t)]) fun z s => s = .dat (.bl (z.1.a.rn.V z.1.c z.1.n))
def k2D (n : Str) (t : Int) : D := .tup [.str n, .int t]
theorem sc_Tracker_value : FnScope ["self", "net", "time", "key", "index", "gate", "bits", "name", "row"] ["self", "net", "time"] (defScope (inClass (top 28) 1)) := ⟨rfl, rfl, rfl, by decide +kernel, rfl, by decide +kernel, by decide +kernel⟩
theorem met_value (G : Gs K mg) : ∀ r : Nat, C8.Met P w K mg base (r + 6) (He.ga K "Tracker") "value" (p_Tracker_value P w K r).sp []
  | 0 => Prm.met (k := 5) (p_Tracker_value P w K 0) G.cls_Tracker G.me_Tracker_value G.d_Tracker_value sc_Tracker_value (fun _ _ _ _ _ _ us hl => match us, hl with | [_, _, _], _ => rfl) (fun _ => rfl) (fun cdv A' outer s H E hr => ⟨_, pss_never, fun y => absurd y.2.2.2.2 (Nat.not_lt_zero _)⟩)
  | m + 1 => by
    have m_Tracker_value := met_value G m
    have m_ClockedRun_source_value := met_source_value (P := P) (w := w) (base := base) G
    have c_look_up := cal_look_up (P := P) (w := w) (base := base) G
    refine Prm.met (k := m + 6) (p_Tracker_value P w K (m + 1)) G.cls_Tracker G.me_Tracker_value G.d_Tracker_value sc_Tracker_value (fun _ _ _ _ _ _ us hl => match us, hl with | [_, _, _], _ => rfl) (fun _ => rfl) (fun cdv A' outer s H E hr => ⟨_, (PSs.nox (pss_cons (ps_if (pt_cmp (pc_dnotin (hu_of hr) (pvx 1) (k_fld (K := K) (pvx 0)))) (pss_one (ps_ret (C8.pe_mt m_ClockedRun_source_value hr (by omega) (k_fld (K := K) (pvx 0)) (pa_cons (pvx 1) (pa_cons (pvx 2) pa_nil))))) pss_nil) (pss_cons (psx 3 sc_Tracker_value.nd (pe_tup (pa_cons (pvx 1) (pa_cons (pvx 2) pa_nil)))) (pss_cons (ps_if (pt_cmp (pc_nnotin (P := P) (w := w) hr.units (pvx 3) (k_fld (K := K) (pvx 0)))) (pss_cons (psx 4 sc_Tracker_value.nd (pe_dget (hu_of hr) (k_fld (K := K) (pvx 0)) (pvx 1) (fun _ _ => rfl))) (pss_cons (psx 5 sc_Tracker_value.nd (pe_ix (k_ix (K := K)) (pe_ix (k_ix (K := K)) (k_fld (K := K) (pvx 0)) pe_int (fun _ _ => rfl)) (pvx 4) (fun _ _ => rfl))) (pss_cons (psx 6 sc_Tracker_value.nd (pe_lst pa_nil)) (pss_cons (ps_for PassesOwn.never (by rfl) (k_zip (K := K) (by rfl) G.f_zip (pa_cons (pe_ix (k_ix (K := K)) (pvx 5) pe_int (fun _ _ => rfl)) (pa_cons (pe_ix (k_ix (K := K)) (k_fld (K := K) (pvx 0)) (pvx 4) (fun _ _ => rfl)) pa_nil))) (k_tup (K := K) (n := 2) (pgs_cons (pgx 7 sc_Tracker_value.nd) (pgs_cons (pgx 8 sc_Tracker_value.nd) pgs_nil))) (pss_one (ps_expr (k_app (K := K) (pvx 6) (pa_cons (C8.pe_mt m_Tracker_value hr (by omega) (pvx 0) (pa_cons (pvx 7) (pa_cons (pe_op op_sub (pvx 2) (pe_ix (k_ix (K := K)) (pvx 8) (pe_op op_mod (pvx 2) (pe_callB (k_len (K := K)) (by rfl) G.f_len (by decide +kernel) (pa_cons (pvx 8) pa_nil))) (fun _ _ => rfl))) pa_nil))) pa_nil))))) (pss_one (ps_nput (P := P) (w := w) hr.units (k_fld (K := K) (pvx 0)) (pvx 3) (C8.pe_c c_look_up hr (by omega) (by rfl) (pa_cons (pe_ix (k_ix (K := K)) (pvx 5) pe_int (fun _ _ => rfl)) (pa_cons (pvx 6) pa_nil))))))))) pss_nil) (pss_one (ps_ret (pe_nget (P := P) (w := w) hr.units (k_fld (K := K) (pvx 0)) (pvx 3) (fun _ _ => rfl)))))))), ?_⟩)
    rintro ⟨⟨a, ls, net, t, c⟩, hz, hlo, hhi, hrk⟩ F H
    have ha : RaOk a := hz.a
    have hnet : net ∈ nets a.rn.k.c := hz.n
    have hw : InC a.rn.k c net t := hz.w
    have hc : c < a.rn.rows.length := hz.c
    have hl : Rdy a ls c t := hz.l
    have hlo : -1000 + 100 * (a.rk net : Int) ≤ t := hlo
    have hhi : t < 100000 := hhi
    have hrk : a.rk net < m + 1 := hrk
    have h := ha.ok
    have wf := h.ck.wf
    have fD : ∀ {W : Wd} {Γ : List Sl}, Γ[0]? = some (.dat (tkD K a)) → EvE W (tFld K (tVar 0) "driven") Γ (.dat (.dic a.dk)) := fun e => ev_fld G.cls_Tracker G.na_Tracker_driven (ev_var e) rfl
    show Ec _ _ [.dat (tkD K a), .dat (.str net), .dat (.int t), .no, .no, .no, .no, .no, .no] _
    have tst : EvTE ((p_Tracker_value P w K (m + 1)).wd ⟨⟨a, ls, net, t, c⟩, hz, hlo, hhi, hrk⟩ F H) (tB (tDNotIn (tVar 1) (tFld K (tVar 0) "driven"))) [.dat (tkD K a), .dat (.str net), .dat (.int t), .no, .no, .no, .no, .no, .no] (gix a.rn.k.c net).isNone := (et_B (ev_dnotin (k := .inr net) (ev_var rfl) (ev_bD (fD rfl)))).to (by rw [ha.dk.at_]; cases gix a.rn.k.c net <;> rfl)
    cases e : gix a.rn.k.c net with
    | none =>
      rw [e] at tst
      refine ec_seq (M := fun _ => False) (ec_if tst (fun _ => ?_) fun h => nomatch h) fun _ h => h.elim
      refine ec_retR (ev_meth (p := p_ClockedRun_source_value P w K) (⟨⟨a, ls, net, t, c⟩, hz, gix_net hnet e⟩ : A_srv) (ev_adr (b := a.R) (ev_fld G.cls_Tracker G.na_Tracker_origin (ev_var rfl) rfl) fun F H s => (show raJ P w K a ls F H from s.j).1) rfl (ea_cons (ev_var rfl) (ea_1 (ev_var rfl))) rfl (fits_same rfl rfl) rfl) fun s hs => ?_
      have e := hs.1
      subst e
      exact ⟨(fun o h => nomatch h), rfl⟩
    | some j =>
      rw [e] at tst
      obtain ⟨g, hj, hnm⟩ := gix_some e
      subst hnm
      have hg := List.mem_of_getElem? hj
      have ok := wf.gate g hg
      have hp3 := ok.pins
      have hdr : lk a.dk (.inr g.nm) = some (.int (j : Nat)) := by rw [ha.dk.at_, e]; rfl
      obtain ⟨rows, hrows⟩ : ∃ rows, a.rn.x.dl[j]? = some rows := ⟨_, List.getElem?_eq_getElem (by rw [h.d.ok.len]; exact (List.getElem?_eq_some_iff.mp hj).1)⟩
      have rok := h.d.ok.row j g rows hj hrows
      obtain ⟨row0, hrow0⟩ : ∃ row, a.rn.rows[c]? = some row := ⟨_, List.getElem?_eq_getElem hc⟩
      have sol := h.sol c row0 hrow0
      refine ec_noS tst ?_
      refine ec_set (s := .dat (k2D g.nm t)) (ev_tup (ds := [.str g.nm, .int t]) (ea_cons (ev_var rfl) (ea_1 (ev_var rfl))) (by simp)) ?_
      show Ec _ _ [.dat (tkD K a), .dat (.str g.nm), .dat (.int t), .dat (k2D g.nm t), .no, .no, .no, .no, .no] _
      generalize hWW : (p_Tracker_value P w K (m + 1)).wd ⟨⟨a, ls, g.nm, t, c⟩, hz, hlo, hhi, hrk⟩ F H = WW
      have wM : WW.M = raM a := by rw [← hWW]; rfl
      have wJ : WW.J = raJ P w K a ls := by rw [← hWW]; rfl
      have fK : ∀ {Γ : List Sl}, Γ[0]? = some (.dat (tkD K a)) → EvP WW (tFld K (tVar 0) "known") Γ (.adr a.kn) := fun e => evp_fld G.cls_Tracker G.na_Tracker_known (evp_var e) rfl
      have fk : ∀ {Γ : List Sl}, Γ[3]? = some (.dat (k2D g.nm t)) → EvP WW (tVar 3) Γ (k2D g.nm t) := fun e => evp_var e
      have ik : IsKey (k2D g.nm t) (k2N g.nm t) := ⟨fun F v r => by
        have := k2_key r
        cases r
        exact ⟨_, rfl, this⟩, k2N_depth ..⟩
      refine ec_memo (R := fun d => d = .bl (a.rn.V c g.nm)) (G := fun Γ => ∃ s4 s5 s6 s7 s8, Γ = [.dat (tkD K a), .dat (.str g.nm), .dat (.int t), .dat (k2D g.nm t), s4, s5, s6, s7, s8]) (fK rfl) (fk rfl) ik ?_ ?_ ⟨_, _, _, _, _, rfl⟩ ?_
      · rintro F H s
        have sj := s.j
        rw [wJ] at sj
        obtain ⟨_, ⟨kk, h1, h2⟩, _⟩ := sj
        refine ⟨kk, h1, h2.keys, fun v e => ?_⟩
        obtain ⟨b, rfl, hb⟩ := h2.tr _ _ v e hnet
        exact ⟨.bl b, .bl b, by rw [hb c hc hw]⟩
      · refine ech_seq (M := fun Γ => Γ = [.dat (tkD K a), .dat (.str g.nm), .dat (.int t), .dat (k2D g.nm t), .dat (.int (j : Nat)), .no, .no, .no, .no]) (ec_asg (ev_dget (k := .inr g.nm) (ev_bD (fD rfl)) (ev_var rfl) hdr) (fun o h => nomatch h) rfl) ?_
        rintro _ rfl
        refine ech_seq (M := fun Γ => Γ = [.dat (tkD K a), .dat (.str g.nm), .dat (.int t), .dat (k2D g.nm t), .dat (.int (j : Nat)), .dat (gD g), .no, .no, .no]) (ec_asg (ev_ixT (ev_ixT (d := .tup (a.rn.k.c.gates.map gD)) (ev_fld (d := cD a.rn.k.c) G.cls_Tracker G.na_Tracker_circuit (ev_var rfl) rfl) ev_int rfl) (ev_var rfl) (atI_gate hj)) (fun o h => nomatch h) rfl) ?_
        rintro _ rfl
        refine ech_seq (M := fun Γ => Γ = [.dat (tkD K a), .dat (.str g.nm), .dat (.int t), .dat (k2D g.nm t), .dat (.int (j : Nat)), .dat (gD g), .own (.lst []), .no, .no]) (ec_asg (ev_lst (ds := []) ea_nil (by decide)) (fun o h => nomatch h) rfl) ?_
        rintro _ rfl
        refine ech_seq (M := fun Γ => ∃ s7 s8, Γ = [.dat (tkD K a), .dat (.str g.nm), .dat (.int t), .dat (k2D g.nm t), .dat (.int (j : Nat)), .dat (gD g), .own (.lst ((g.nets.map (a.rn.V c)).map .bl)), s7, s8]) ?_ ?_
        · refine ec_forX (g.nets.zip rows) (fun _ p => .tup [.str p.1, isD p.2]) (it_zip (b := false) (c := true) (ds := g.nets.map .str) (es := rows.map isD) (ea_cons (ev_ixT (ev_var rfl) ev_int rfl) (ea_1 (ev_ixL (ds := a.rn.x.dl.map rowsD) (d := rowsD rows) (ev_bL (ev_fld G.cls_Tracker G.na_Tracker_delays (ev_var rfl) rfl)) (ev_var rfl) (atI_map hrows))))) zip_at ?_
            (fun i Γ => ∃ s7 s8, Γ = [.dat (tkD K a), .dat (.str g.nm), .dat (.int t), .dat (k2D g.nm t), .dat (.int (j : Nat)), .dat (gD g), .own (.lst (((g.nets.take i).map (a.rn.V c)).map .bl)), s7, s8]) ⟨_, _, rfl⟩ ?_ ?_
          · rw [zipD_len, List.length_map, List.length_map, List.length_zip]
          · rintro i ⟨n, row⟩ _ hzi ⟨s7, s8, rfl⟩
            obtain ⟨h1, h2⟩ := List.getElem?_zip_eq_some.mp hzi
            have h1 : g.nets[i]? = some n := h1
            have h2 : rows[i]? = some row := h2
            have hil := (List.getElem?_eq_some_iff.mp h1).1
            have hn : n ∈ g.nets := List.mem_of_getElem? h1
            have h3 : g.rng[i]? = some (g.rng[i]'(by rw [ok.rng]; exact hil)) := List.getElem?_eq_getElem _
            generalize g.rng[i]'(by rw [ok.rng]; exact hil) = q at h3
            obtain ⟨lo, hi⟩ := q
            have hlh : 0 ≤ lo ∧ lo ≤ hi ∧ hi ≤ 100 := ok.lo (lo, hi) (List.mem_of_getElem? h3)
            have hrkn := ha.rk.lt g hg n hn
            have hnn := wf.net hg hn
            have rne := rok.ne row (List.mem_of_getElem? h2)
            have s0 : (0 : Int) < (row.length : Nat) := by have := List.length_pos_iff.mpr rne; omega
            have m0 := Int.emod_nonneg t (Int.ne_of_gt s0)
            have m1 := Int.emod_lt_of_pos t s0
            obtain ⟨d, hd⟩ : ∃ d, row[(t % (row.length : Nat)).toNat]? = some d := ⟨_, List.getElem?_eq_getElem (by omega)⟩
            have hdr : lo ≤ d ∧ d ≤ hi := rok.rg i row (lo, hi) h2 h3 d (List.mem_of_getElem? hd)
            have so : SvOk ⟨a, ls, n, t - d, c⟩ := ⟨ha, hnn, InWin.pin (m := t - d - c * a.rn.k.T) hw hg h1 h3 (by omega) (by omega), hc, fun j r t' e1 e2 e3 => hl j r t' e1 (by dsimp only at e2; omega) e3⟩
            refine ⟨_, _, tg_tup (tgs_cons tg_name (tgs_cons tg_name tgs_nil)) rfl, ?_⟩
            refine ec_appR (R := fun s => s = .dat (.bl (a.rn.V c n))) rfl ((ev_meth (p := p_Tracker_value P w K m) (⟨⟨a, ls, n, t - d, c⟩, so, by show -1000 + 100 * (a.rk n : Int) ≤ t - d; omega, by show t - d < 100000; omega, by show a.rk n < m; omega⟩ : A_tv m) (ev_var rfl) rfl (ea_cons (ev_var rfl) (ea_1 (ev_bi (g := fun i j => i - j) (ev_var rfl) (ev_ixL (ds := row.map .int) (i := (((t % (row.length : Nat)).toNat : Nat) : Int)) (ev_bL (ev_var rfl)) ((ev_bc (g := fun i j => i % j) (ev_var rfl) ((ev_lenL (ds := row.map .int) (ev_bL (ev_var rfl))).to (by rw [List.length_map])) (by show (0 : Int) < (row.length : Nat); exact s0)).to (congrArg (fun i => Sl.dat (.int i)) (Int.toNat_of_nonneg m0).symm)) (atI_map hd))))) rfl ⟨fun _ h => by rw [wM]; exact h, fun _ _ s => by have := s.j; rw [wJ] at this; exact this, fun _ _ _ _ _ g => by rw [wJ]; exact g.ok.j⟩ rfl).imp fun s h => h.1) ?_ ?_
            · rw [List.length_map, List.length_map, List.length_take]; omega
            · rintro _ rfl
              exact ⟨_, rfl, .dat (.str n), .dat (isD row), by rw [take_snoc h1, List.map_append, List.map_append]; rfl⟩
          · rintro _ ⟨s7, s8, rfl⟩
            have hrl := rok.len
            rw [List.length_zip, hrl, Nat.min_self, List.take_length]
            exact ⟨_, _, rfl⟩
        rintro _ ⟨s7, s8, rfl⟩
        refine ech_frz 6 rfl ?_
        intro σ1 F1 H1 ko1 Z1 n1
        refine ech_put (P := P) (w := w) (R := fun d => d = .bl (a.rn.V c g.nm)) (fK rfl) (fk rfl) ik (EvE.ev (s := .dat (.bl (a.rn.V c g.nm))) (evf_call (⟨(g.tab, g.nets.map (a.rn.V c), a.rn.V c g.nm), sol.g g hg, by rw [List.length_map]; omega⟩ : A_look) (ea_cons (ev_ixT (ev_var rfl) ev_int rfl) (ea_1 (ev_var rfl))) rfl) ⟨_, rfl, rfl⟩) (by rw [wM]; exact .inl rfl) ?_ σ1 F1 H1 ko1 Z1 fun Γ' σ' F' H' k' l ⟨eG, hh⟩ => n1 Γ' σ' F' H' k' l ⟨⟨_, _, _, _, _, eG⟩, hh⟩
        rintro F H s
        have sj := s.j
        rw [wJ] at sj
        obtain ⟨hR, ⟨kk, h1, h2⟩, h3⟩ := sj
        refine ⟨kk, h1, h2.keys, h2.len ha, fun b v' d rb rv hRd => ?_⟩
        rw [wJ]
        refine ⟨hR, ⟨_, upd_same, ptN_nodup h2.nd, fun p hp => ?_, fun n' t' v2 hl2 hn' => ?_⟩, fun i b' hb' => ?_⟩
        · rcases ptN_mem hp with ⟨q, hq, e1, e2, _⟩ | e1
          · obtain ⟨n', t', r, e3, q'⟩ := h2.all q hq
            exact ⟨n', t', by rw [e2]; exact r, e1.trans e3, q'⟩
          · subst e1; exact ⟨g.nm, t, rb, rfl, hnet, by omega, hhi⟩
        · rw [lkN_pt] at hl2
          by_cases q : k2N g.nm t = k2N n' t'
          · rw [if_pos q] at hl2
            cases hl2
            obtain ⟨rfl, rfl⟩ := k2N_inj q
            subst hRd
            cases rv
            exact ⟨_, rfl, fun c' hc' hw' => V_uniq h ha.rk hc hc' 6 g.nm t (Nat.lt_succ_of_le (ha.rk.le _)) hnet hw hw'⟩
          · rw [if_neg q] at hl2
            exact h2.tr n' t' v2 hl2 hn'
        · rw [upd_ne (fun q => ha.ne (by rw [← q]; exact List.mem_of_getElem? hb'))]
          exact h3 i b' hb'
      · rintro _ ⟨s4, s5, s6, s7, s8, rfl⟩
        have rt : (Po.fn ((p_Tracker_value P w K (m + 1)).res ⟨⟨a, ls, g.nm, t, c⟩, hz, hlo, hhi, hrk⟩)).rt (.dat (.bl (a.rn.V c g.nm))) := rfl
        exact ret_get (fK rfl) (fk rfl) ik fun d hd => by rw [hd]; exact rt
end Sg
/-! DenP: sorted of tuples of ints; loops over a list while the world changes. -/
namespace Dn
open PySem PySem.Spec PyProof.Rows L2
section
variable {α β : Type}
theorem paired_perm {R : α → β → Prop} {ys xs : List α} (h : ys.Perm xs) : ∀ {es : List β}, Paired R xs es → ∃ es', Paired R ys es' ∧ es'.Perm es := by
  induction h with
  | nil => intro es hp; cases hp; exact ⟨[], .nil, .nil⟩
  | cons x _ ih =>
    intro es hp
    cases hp with
    | cons r q =>
      obtain ⟨es', p', h'⟩ := ih q
      exact ⟨_ :: es', .cons r p', h'.cons _⟩
  | swap x y l =>
    intro es hp
    cases hp with
    | cons r q =>
      cases q with
      | cons r' q => exact ⟨_, .cons r' (.cons r q), List.Perm.swap ..⟩
  | trans _ _ ih1 ih2 =>
    intro es hp
    obtain ⟨e1, p1, h1⟩ := ih2 hp
    obtain ⟨e2, p2, h2⟩ := ih1 p1
    exact ⟨e2, p2, h2.trans h1⟩
theorem paired_mem {R : α → β → Prop} : ∀ {xs : List α} {es : List β}, Paired R xs es → ∀ e ∈ es, ∃ x ∈ xs, R x e
  | _, _, .nil, _, h => nomatch h
  | _, _, .cons r q, e, h => by
    rcases List.mem_cons.mp h with rfl | h
    · exact ⟨_, List.mem_cons_self .., r⟩
    · obtain ⟨x, hx, hr⟩ := paired_mem q e h
      exact ⟨x, List.mem_cons_of_mem _ hx, hr⟩
theorem paired_pw {R : α → β → Prop} {P : α → α → Prop} {Q : β → β → Prop} (h : ∀ x y e f, R x e → R y f → P x y → Q e f) : ∀ {xs : List α} {es : List β}, Paired R xs es → xs.Pairwise P → es.Pairwise Q
  | _, _, .nil, _ => .nil
  | _, _, .cons r q, hp => by
    rw [List.pairwise_cons] at hp ⊢
    refine ⟨fun f hf => ?_, paired_pw h q hp.2⟩
    obtain ⟨y, hy, hr⟩ := paired_mem q f hf
    exact h _ _ _ _ r hr (hp.1 y hy)
end
def t3D (e : Int × Int × Int) : D := .tup [.int e.1, .int e.2.1, .int e.2.2]
def t3L (e : Int × Int × Int) : List Int := [e.1, e.2.1, e.2.2]
def T3 (F : Hp) (x : V) (e : Int × Int × Int) : Prop := ∃ t, x = .ref t ∧ F t = some (.tup ((t3L e).map V.int))
theorem reps_t3 {F : Hp} : ∀ {xs : List V} {es : List (Int × Int × Int)}, Reps F xs (es.map t3D) → Paired (T3 F) xs es
  | _, [], .nil => .nil
  | _, e :: es, .cons h r => by
    refine .cons ?_ (reps_t3 r)
    cases h with
    | tup e1 r1 =>
      cases r1 with
      | cons a r1 =>
        cases r1 with
        | cons b r1 =>
          cases r1 with
          | cons c r1 =>
            cases a; cases b; cases c; cases r1
            exact ⟨_, rfl, e1⟩
theorem t3_reps {F : Hp} : ∀ {xs : List V} {es : List (Int × Int × Int)}, Paired (T3 F) xs es → Reps F xs (es.map t3D)
  | _, _, .nil => .nil
  | _, _, .cons ⟨t, e, h⟩ r => by
    subst e
    exact .cons (.tup h (.cons (.int _) (.cons (.int _) (.cons (.int _) .nil)))) (t3_reps r)
theorem map_int_inj {a b : List Int} (h : a.map V.int = b.map V.int) : a = b := List.map_inj_right (fun x y e => by injection e) |>.mp h
section
variable {W : Wd} {Γ : List Sl} {K : PySem.W.Frag} {te : TE}
/-- sorted of fewer than 64 triples of small numbers -/
theorem ev_sort3 {es : List (Int × Int × Int)} (h : EvE W te Γ (.bor (.lst (es.map t3D)))) (hl : es.length < 64) (hb : ∀ e ∈ es, TS.Bd 1099511627776 (t3L e)) : Ev W (tCB (rSortU K 3 1099511627776) (tCons te tNil)) Γ fun s => ∃ es' : List (Int × Int × Int), s = .own (.lst (es'.map t3D)) ∧ es'.Perm es ∧ es'.Pairwise fun x y => TS.code 1099511627776 (t3L x) ≤ TS.code 1099511627776 (t3L y) := ev_cb (ea_1 h) fun Hb F H vs s h Q q => by
  obtain ⟨a, rfl, xs, e, r⟩ := one_bor h
  have hp := reps_t3 r
  refine ⟨a, xs, rfl, SqL.of e, ?_, fun x hx => ?_, fun ys p hperm hpw hpn => ?_⟩
  · have := r.length
    rw [List.length_map] at this
    omega
  · obtain ⟨i, hi⟩ := List.mem_iff_getElem?.mp hx
    obtain ⟨d, hd, rd⟩ := r.get' hi
    obtain ⟨e0, he0, rfl⟩ := map_get hd
    refine ⟨t3L e0, ?_, rfl, hb e0 (List.mem_of_getElem? he0)⟩
    cases rd with
    | tup e1 r1 =>
      cases r1 with
      | cons a r1 =>
        cases r1 with
        | cons b r1 =>
          cases r1 with
          | cons c r1 =>
            cases a; cases b; cases c; cases r1
            exact ⟨_, rfl, SqT.of (s.le _ _ e1)⟩
  · obtain ⟨es', p1, p2⟩ := paired_perm hperm hp
    refine q _ F _ _ (Gr.newO s hpn) ⟨es', rfl, p2, paired_pw (fun x y e f ⟨t, ex, ht⟩ ⟨u, ey, hu⟩ hc => ?_) p1 hpw⟩ ⟨p, rfl, hpn, s.le.no hpn, ys, upd_same, t3_reps p1⟩
    exact hc _ _ ⟨t, ex, SqT.of (s.le _ _ ht)⟩ ⟨u, ey, SqT.of (s.le _ _ hu)⟩
/-- a walk that changes nothing -/
def ItS (J : It) (F1 : Hp) (ds : List D) : Prop := ∀ i F' H', Le F1 F' → Le F' H' → (∀ d, ds[i]? = some d → J.go i H' ∧ ∀ x H2, J.yld i H' x H2 → H2 = H' ∧ Rep F' x d) ∧ (i = ds.length → J.stop i H')
theorem itS_list {S : List D → Prop} (h : Ev W te Γ fun s => ∃ ds, s = .dat (.lst ds) ∧ S ds) : ∀ σ F H, Ok W Γ σ F H → ∀ Q : It → Hp → Prop, (∀ J F1 H1 ds, Gr W F H F1 H1 → S ds → ItS J F1 ds → Q J H1) → iSeq K te σ H Q := fun σ F H k Q q =>
  h σ F H k _ fun v F1 H1 s g ⟨ds, es, hS⟩ z => by
    subst es
    obtain ⟨a, xs, rfl, e, r⟩ := seq_rep (b := true) (show Rep F1 v (.lst ds) from z)
    have hv : ∀ F' H', Le F' H' → Le F1 F' → H' a = some (.lst xs) := fun F' H' s l => s _ _ (l _ _ e)
    refine ⟨a, rfl, .inl ⟨⟨xs, SqL.of (hv F1 H1 g.ok.le (Le.refl _))⟩, q _ F1 H1 ds g hS fun i F' H' l s => ⟨fun d hd => ?_, fun hi => ⟨xs, SqL.of (hv F' H' s l), by rw [r.length]; exact Nat.le_of_eq hi.symm⟩⟩⟩⟩
    obtain ⟨v, hvi, rv⟩ := r.get hd
    refine ⟨⟨xs, v, SqL.of (hv F' H' s l), hvi⟩, fun x H2 ⟨e2, hx⟩ => ?_⟩
    subst e2
    have := hx xs (SqL.of (hv F' _ s l))
    rw [hvi] at this
    cases this
    exact ⟨rfl, rv.mono l⟩
/-- slots that tell of no world -/
def simpG (Γ : List Sl) : Bool := Γ.all fun | .no => true | .dat _ => true | .raw _ => true | _ => false
theorem simp_of {Γ : List Sl} (h : simpG Γ = true) : ∀ s ∈ Γ, s = .no ∨ (∃ d, s = .dat d) ∨ ∃ v, s = .raw v := fun s hs => by
  have := List.all_eq_true.mp h s hs
  cases s <;> first | exact .inl rfl | exact .inr (.inl ⟨_, rfl⟩) | exact .inr (.inr ⟨_, rfl⟩) | cases this
theorem simp_now {Γ : List Sl} (h : simpG Γ = true) : noOw Γ = true := List.all_eq_true.mpr fun s hs => by
  rcases simp_of h s hs with rfl | ⟨_, rfl⟩ | ⟨_, rfl⟩ <;> rfl
/-- the same state told in another world -/
theorem ok_swap {W1 W : Wd} {σ : L2.St} {F H : Hp} (k : Ok W1 Γ σ F H) (h : simpG Γ = true) (s0 : Sok W W.F0 W.H0) (g : Gr W W.F0 W.H0 F H) : Ok W Γ σ F H := by
  refine ⟨s0, g, k.len, fun i s e => ?_, fun i _ _ ⟨t, e, ht⟩ => absurd (noOw_of (simp_now h) t (List.mem_of_getElem? e)) ht⟩
  have := k.sl i s e
  rcases simp_of h s (List.mem_of_getElem? e) with rfl | ⟨d, rfl⟩ | ⟨v, rfl⟩
  · trivial
  · exact this
  · exact this
theorem gr_weak {W1 W : Wd} {F H F' H' : Hp} (g : Gr W1 F H F' H') (hM : ∀ a, W1.M a ↔ W.M a) (hJ : W.J F' H') : Gr W F H F' H' :=
  ⟨⟨g.ok.le, fun a m => g.ok.mf a ((hM a).mpr m), fun a m => g.ok.mh a ((hM a).mpr m), hJ⟩, g.ff, g.nw, fun a o e m => g.kp a o e fun z => m ((hM a).mp z)⟩
theorem as4 {s1 s2 s3 s4 s5 : TS} {Z : Ends} {σ : L2.St} {H : Hp} (h : tSeq (tSeq (tSeq (tSeq s1 s2) s3) s4) s5 Z σ H) : tSeq s1 (tSeq s2 (tSeq s3 (tSeq s4 s5))) Z σ H := h
/-- a loop over a list; W the world at large, HI what holds of the heap between two items -/
theorem for_H {Q0 : List D → Hp → Hp → List Sl → Prop} {g : TG} {ti : TI} {t : TS} {σ : L2.St} {H : Hp} {Z : Ends} (hit : ∀ Q : It → Hp → Prop, (∀ J F1 H1 (ds : List D), (∃ Γ0, Ok W Γ0 σ F1 H1 ∧ Q0 ds F1 H1 Γ0) → ItS J F1 ds → Q J H1) → ti σ H Q) (Inv : List D → Nat → List Sl → Prop) (HI : List D → Nat → Hp → Hp → Prop)
    (h0 : ∀ ds F1 H1 Γ0, Q0 ds F1 H1 Γ0 → Inv ds 0 Γ0 ∧ HI ds 0 F1 H1)
    (hs : ∀ ds (i : Nat) (d : D) Γ1 σ1 F' H', ds[i]? = some d → Ok W Γ1 σ1 F' H' → Inv ds i Γ1 → HI ds i F' H' → ∃ js Γ2, TgE W g js d Γ1 Γ2 ∧ ∀ σ2, Ok W Γ2 σ2 F' H' → ∀ Z2 : Ends, (∀ Γ3 σ3 F3 H3, Ok W Γ3 σ3 F3 H3 → Le F' F3 → Inv ds (i + 1) Γ3 → HI ds (i + 1) F3 H3 → Z2.nx σ3 H3) → t Z2 σ2 H')
    (hd : ∀ ds Γ1 σ1 F' H', Ok W Γ1 σ1 F' H' → Inv ds ds.length Γ1 → HI ds ds.length F' H' → Z.nx σ1 H') : tFor ti g t Z σ H := by
  refine hit _ fun J F1 H1 ds ⟨Γ0, k0, q0⟩ hJ => ?_
  obtain ⟨i0, hh0⟩ := h0 ds F1 H1 Γ0 q0
  refine ⟨fun i m σ' H' => m = ds.length - i ∧ i ≤ ds.length ∧ ∃ Γ1 F', Ok W Γ1 σ' F' H' ∧ Le F1 F' ∧ Inv ds i Γ1 ∧ HI ds i F' H', ⟨ds.length, rfl, Nat.zero_le _, Γ0, F1, k0, Le.refl _, i0, hh0⟩, ?_⟩
  rintro i m σ' H' ⟨rfl, hi, Γ1, F', k1, le1, hI, hH⟩
  obtain ⟨hgo, hst⟩ := hJ i F' H' le1 k1.ok.le
  by_cases hlt : i < ds.length
  · obtain ⟨go, yl⟩ := hgo ds[i] (List.getElem?_eq_getElem hlt)
    obtain ⟨js, Γ2, tg, body⟩ := hs ds i ds[i] Γ1 σ' F' H' (List.getElem?_eq_getElem hlt) k1 hI hH
    refine .inr ⟨go, fun σ2 H2 => ∃ Γ3 F3, Ok W Γ3 σ2 F3 H2 ∧ Le F1 F3 ∧ Inv ds (i + 1) Γ3 ∧ HI ds (i + 1) F3 H2, fun σ2 H2 ⟨Γ3, F3, a, b, c⟩ => ⟨ds.length - (i + 1), by omega, rfl, hlt, Γ3, F3, a, b, c⟩, fun x H2 y => ?_⟩
    obtain ⟨rfl, rx⟩ := yl x H2 y
    refine tg σ' F' _ x k1 rx _ fun σ3 k3 _ => ?_
    exact body σ3 k3 _ fun Γ3 σ4 F4 H4 k4 l4 q4 h4 => ⟨Γ3, F4, k4, le1.trans l4, q4, h4⟩
  · have e : i = ds.length := by omega
    subst e
    exact .inl ⟨hst rfl, hd ds Γ1 σ' F' H' k1 hI hH⟩
end
end Dn
/-! Mth8: the events of a run in their order. -/
namespace Sg
open PySem L2 Dn
def BB : Int := 1099511627776
def evOf (ρ : Rn) (j i : Nat) (r : Reg) : Int × Int × Int := (et ρ j i + r.ho, (i : Int), (j : Int))
structure Evs (ρ : Rn) (es : List (Int × Int × Int)) : Prop where
  mem : ∀ e, e ∈ es ↔ ∃ (j i : Nat) (r : Reg), ρ.k.c.regs[j]? = some r ∧ 1 ≤ i ∧ i ≤ ρ.rows.length ∧ e = evOf ρ j i r
  nd : es.Nodup
def LsOk2 (ρ : Rn) (es : List (Int × Int × Int)) (i : Nat) (ls : Nat → Nat) : Prop := ∀ j, j < ρ.k.c.regs.length → 1 ≤ ls j ∧ ls j ≤ ρ.rows.length + 1 ∧ ∀ k : Nat, 1 ≤ k → k ≤ ρ.rows.length → ((∃ m e, m < i ∧ es[m]? = some e ∧ e.2 = ((k : Int), (j : Int))) ↔ k < ls j)
section
variable {ρ : Rn} {es : List (Int × Int × Int)}
/-- all events, register by register -/
def evs (ρ : Rn) : List (Int × Int × Int) := ρ.k.c.regs.zipIdx.flatMap fun p => (List.range ρ.rows.length).map fun i => evOf ρ p.2 (i + 1) p.1
theorem evs_ok (ρ : Rn) : Evs ρ (evs ρ) := by
  refine ⟨fun e => ?_, ?_⟩
  · unfold evs
    rw [List.mem_flatMap]
    constructor
    · rintro ⟨⟨r, j⟩, hp, he⟩
      obtain ⟨i, hi, rfl⟩ := List.mem_map.mp he
      have := List.mem_range.mp hi
      have hj := (List.mem_zipIdx_iff_getElem?).mp hp
      exact ⟨j, i + 1, r, hj, by omega, by omega, rfl⟩
    · rintro ⟨j, i, r, hj, h1, hn, rfl⟩
      exact ⟨(r, j), (List.mem_zipIdx_iff_getElem?).mpr hj, List.mem_map.mpr ⟨i - 1, List.mem_range.mpr (by omega), by rw [Nat.sub_add_cancel h1]⟩⟩
  · unfold evs
    refine List.pairwise_flatMap.mpr ⟨fun p _ => List.pairwise_map.mpr ?_, ?_⟩
    · refine List.Pairwise.imp ?_ (List.nodup_range (n := ρ.rows.length))
      intro a b hab e
      have : ((a + 1 : Nat) : Int) = ((b + 1 : Nat) : Int) := congrArg (fun x : Int × Int × Int => x.2.1) e
      omega
    · refine List.pairwise_iff_getElem.mpr fun a b ha hb hab x hx y hy e => ?_
      obtain ⟨i, _, rfl⟩ := List.mem_map.mp hx
      obtain ⟨i', _, rfl⟩ := List.mem_map.mp hy
      have : ((ρ.k.c.regs.zipIdx[a].2 : Nat) : Int) = (ρ.k.c.regs.zipIdx[b].2 : Nat) := congrArg (fun x : Int × Int × Int => x.2.2) e
      rw [List.getElem_zipIdx, List.getElem_zipIdx] at this
      dsimp only at this
      omega
theorem Evs.perm {es' : List (Int × Int × Int)} (h : Evs ρ es) (p : es'.Perm es) : Evs ρ es' := ⟨fun e => p.mem_iff.trans (h.mem e), p.nodup_iff.mpr h.nd⟩
theorem et_bd (h : RnOk ρ) {j i : Nat} {r : Reg} (hj : ρ.k.c.regs[j]? = some r) (hi : i ≤ ρ.rows.length) : 0 ≤ et ρ j i + r.ho ∧ et ρ j i + r.ho ≤ 60000 := by
  obtain ⟨_, _, _, _, _, b0, b1⟩ := h.off hj i
  have ok := h.ck.wf.reg r (List.mem_of_getElem? hj)
  have hT := h.ck.T
  have hT2 := h.ck.T2
  have h4 := h.n4
  have m1 := mul_le (T := ρ.k.T) hT (show i ≤ 4 by omega)
  have m0 := mul_le (T := ρ.k.T) hT (show 0 ≤ i by omega)
  have e0 := ok.e0
  have e2 := ok.e2
  have ho := ok.ho
  unfold et
  omega
theorem ev_bd (h : RnOk ρ) (hE : Evs ρ es) : ∀ e ∈ es, TS.Bd BB (t3L e) := fun e he => by
  obtain ⟨j, i, r, hj, h1, hn, rfl⟩ := (hE.mem e).mp he
  have hb := et_bd h hj hn
  have h4 := h.n4
  have h3 := h.ck.wf.r
  have hjl := (List.getElem?_eq_some_iff.mp hj).1
  intro m hm
  have e1 : BB = 1099511627776 := rfl
  rw [e1]
  rcases List.mem_cons.mp hm with rfl | hm
  · show 0 ≤ et ρ j i + r.ho ∧ et ρ j i + r.ho < _
    omega
  · rcases List.mem_cons.mp hm with rfl | hm
    · show 0 ≤ (i : Int) ∧ (i : Int) < _
      omega
    · rw [List.mem_singleton.mp hm]
      show 0 ≤ (j : Int) ∧ (j : Int) < _
      omega
theorem evs_len (h : RnOk ρ) : (evs ρ).length < 64 := by
  have : (evs ρ).length ≤ ρ.k.c.regs.length * 4 := by
    unfold evs
    have := flat_len_le (xs := ρ.k.c.regs.zipIdx) (ys := fun p => (List.range ρ.rows.length).map fun i => evOf ρ p.2 (i + 1) p.1) (n := 4) fun p _ => by rw [List.length_map, List.length_range]; exact h.n4
    rwa [List.length_zipIdx] at this
  have h3 := h.ck.wf.r
  omega
/-- edges of one register come one after the other -/
theorem et_lt (h : RnOk ρ) {j i i' : Nat} {r : Reg} (hj : ρ.k.c.regs[j]? = some r) (hi : i < i') : et ρ j i < et ρ j i' := by
  obtain ⟨_, _, _, _, _, b0, b1⟩ := h.off hj i
  obtain ⟨_, _, _, _, _, c0, c1⟩ := h.off hj i'
  have := h.ck.pr.r r (List.mem_of_getElem? hj)
  have m := mul_lt h.ck.T hi
  unfold et
  omega
structure EvO (ρ : Rn) (es : List (Int × Int × Int)) : Prop extends Evs ρ es where
  pw : es.Pairwise fun x y => TS.code BB (t3L x) ≤ TS.code BB (t3L y)
theorem EvO.before (h : RnOk ρ) (hE : EvO ρ es) {i : Nat} {e e' : Int × Int × Int} (hi : es[i]? = some e) (he : e' ∈ es) (hl : e'.1 < e.1) : ∃ m, m < i ∧ es[m]? = some e' := by
  obtain ⟨m, hm⟩ := List.mem_iff_getElem?.mp he
  have b1 := ev_bd h hE.toEvs e (List.mem_of_getElem? hi)
  have b2 := ev_bd h hE.toEvs e' he
  have lt : TS.code BB (t3L e') < TS.code BB (t3L e) := TS.code_lt rfl b2.tail b1.tail hl
  refine ⟨m, Nat.not_le.mp fun q => ?_, hm⟩
  obtain ⟨hml, em⟩ := List.getElem?_eq_some_iff.mp hm
  obtain ⟨hil, ei⟩ := List.getElem?_eq_some_iff.mp hi
  by_cases z : i = m
  · subst z
    rw [hm] at hi
    cases hi
    omega
  · have := List.pairwise_iff_getElem.mp hE.pw i m hil hml (by omega)
    rw [em, ei] at this
    omega
section
variable {i : Nat} {ls : Nat → Nat} {j k : Nat} {r : Reg}
theorem ls_at (h : RnOk ρ) (hE : EvO ρ es) (hL : LsOk2 ρ es i ls) (hj : ρ.k.c.regs[j]? = some r) (h1 : 1 ≤ k) (hn : k ≤ ρ.rows.length) (hi : es[i]? = some (evOf ρ j k r)) : ls j = k := by
  have hjl := (List.getElem?_eq_some_iff.mp hj).1
  obtain ⟨a, b, c⟩ := hL j hjl
  have nk : ¬ k < ls j := fun q => by
    obtain ⟨m, e, hm, he, e2⟩ := (c k h1 hn).mpr q
    obtain ⟨j', k', r', hj', _, _, rfl⟩ := (hE.mem e).mp (List.mem_of_getElem? he)
    have e3 : (k' : Int) = k := congrArg Prod.fst e2
    have e4 : (j' : Int) = j := congrArg Prod.snd e2
    have e3 : k' = k := by omega
    have e4 : j' = j := by omega
    subst e3 e4
    rw [hj] at hj'
    cases hj'
    have hml := (List.getElem?_eq_some_iff.mp he).1
    have := (List.getElem?_inj hml hE.nd).mp (he.trans hi.symm)
    omega
  by_cases q : k = 1
  · omega
  · have : k - 1 < ls j := (c (k - 1) (by omega) (by omega)).mp (by
      obtain ⟨m, hm, he⟩ := hE.before h hi (e' := evOf ρ j (k - 1) r) ((hE.mem _).mpr ⟨j, k - 1, r, hj, by omega, by omega, rfl⟩) (by
        have := et_lt h hj (show k - 1 < k by omega)
        show et ρ j (k - 1) + r.ho < et ρ j k + r.ho
        omega)
      exact ⟨m, _, hm, he, rfl⟩)
    omega
theorem ls_rdy (h : RnOk ρ) (hE : EvO ρ es) (hL : LsOk2 ρ es i ls) (h1 : 1 ≤ k) (hn : k ≤ ρ.rows.length) (hi : es[i]? = some (evOf ρ j k r)) {q : Nat} {g : Reg} {t : Int} (hq : ρ.k.c.regs[q]? = some g) (ht : t ≤ et ρ j k + r.ho) (hw : InC ρ.k (k - 1) g.nm t) : k - 1 < ls q := by
  have hql := (List.getElem?_eq_some_iff.mp hq).1
  obtain ⟨a, b, c⟩ := hL q hql
  by_cases z : k = 1
  · omega
  · refine (c (k - 1) (by omega) (by omega)).mp ?_
    have ed := (edge_in h hq hw (k - 1)).1 (Nat.le_refl _)
    have hh := (h.ck.wf.reg g (List.mem_of_getElem? hq)).hh
    obtain ⟨m, hm, he⟩ := hE.before h hi (e' := evOf ρ q (k - 1) g) ((hE.mem _).mpr ⟨q, k - 1, g, hq, by omega, by omega, rfl⟩) (by
      show et ρ q (k - 1) + g.ho < et ρ j k + r.ho
      omega)
    exact ⟨m, _, hm, he, rfl⟩
theorem ls_next (h : RnOk ρ) (hE : EvO ρ es) (hL : LsOk2 ρ es i ls) (hj : ρ.k.c.regs[j]? = some r) (h1 : 1 ≤ k) (hn : k ≤ ρ.rows.length) (hi : es[i]? = some (evOf ρ j k r)) : LsOk2 ρ es (i + 1) fun q => if q = j then k + 1 else ls q := fun q hq => by
  have hk := ls_at h hE hL hj h1 hn hi
  obtain ⟨a, b, c⟩ := hL q hq
  by_cases z : q = j
  · subst z
    dsimp only
    rw [if_pos rfl]
    refine ⟨by omega, by omega, fun k' h1' hn' => ⟨?_, fun hlt => ?_⟩⟩
    · rintro ⟨m, e, hm, he, e2⟩
      by_cases y : m = i
      · subst y
        rw [hi] at he
        cases he
        have : (k : Int) = k' := congrArg Prod.fst e2
        omega
      · have := (c k' h1' hn').mp ⟨m, e, by omega, he, e2⟩
        omega
    · by_cases y : k' = k
      · subst y
        exact ⟨i, _, by omega, hi, rfl⟩
      · obtain ⟨m, e, hm, he, e2⟩ := (c k' h1' hn').mpr (by omega)
        exact ⟨m, e, by omega, he, e2⟩
  · dsimp only
    rw [if_neg z]
    refine ⟨a, b, fun k' h1' hn' => ⟨?_, fun hlt => ?_⟩⟩
    · rintro ⟨m, e, hm, he, e2⟩
      by_cases y : m = i
      · subst y
        rw [hi] at he
        cases he
        have : (j : Int) = q := congrArg Prod.snd e2
        exact absurd (by omega) z
      · exact (c k' h1' hn').mp ⟨m, e, by omega, he, e2⟩
    · obtain ⟨m, e, hm, he, e2⟩ := (c k' h1' hn').mpr hlt
      exact ⟨m, e, by omega, he, e2⟩
theorem ls_start : LsOk2 ρ es 0 fun _ => 1 := fun j _ => ⟨Nat.le_refl _, by dsimp only; omega, fun k h1 _ => ⟨fun ⟨m, e, hm, _⟩ => absurd hm (Nat.not_lt_zero _), fun q => by dsimp only at q; omega⟩⟩
theorem ls_end (hE : EvO ρ es) (hL : LsOk2 ρ es es.length ls) (hj : ρ.k.c.regs[j]? = some r) : ls j = ρ.rows.length + 1 := by
  obtain ⟨a, b, c⟩ := hL j (List.getElem?_eq_some_iff.mp hj).1
  by_cases z : ρ.rows.length = 0
  · omega
  · have := (c ρ.rows.length (by omega) (Nat.le_refl _)).mp (by
      obtain ⟨m, hm⟩ := List.mem_iff_getElem?.mp ((hE.mem _).mpr ⟨j, ρ.rows.length, r, hj, by omega, Nat.le_refl _, rfl⟩)
      exact ⟨m, _, (List.getElem?_eq_some_iff.mp hm).1, hm, rfl⟩)
    omega
end
end
end Sg
/-! W31: ClockedRun._play. -/
namespace Sg
open PySem PySem.Spec PyProof.Rows L2 Dn
variable {P : Program} {w : World} {K : PySem.W.Frag} {mg : Str → Option Value} {base : Heap}
def raW (P : Program) (w : World) (K : PySem.W.Frag) (a : Ra) (ls : Nat → Nat) (F H : Hp) : Wd := ⟨raM a, raJ P w K a ls, fun {_ _ _ _} h l e => raJ_st h l e, F, H⟩
def raW0 (a : Ra) (F H : Hp) : Wd := ⟨raM a, fun _ _ => True, fun {_ _ _ _} _ _ _ => trivial, F, H⟩
def spPlay (P : Program) (w : World) (K : PySem.W.Frag) : Sp := fun vs H Q _ => ∃ (a : Ra) (F : Hp) (v g : V), RaOk a ∧ Sok (raW P w K a (fun _ => 1) F H) F H ∧ vs = [v, g] ∧ Rep F v ((a.q K).D K) ∧ Rep F g (.lst (a.rn.x.gu.map bsD)) ∧ ∀ F' H', Gr (raW0 a F H) F H F' H' → StJ a (fun _ => a.rn.rows.length + 1) H' → Q .non H'
def gP (K : PySem.W.Frag) (a : Ra) (od s3 s5 s6 : Sl) : List Sl := [.dat ((a.q K).D K), .dat (.lst (a.rn.x.gu.map bsD)), od, s3, .no, s5, s6, .no, .no, .no, .no, .no, .no, .no]
theorem evs_row {ρ : Rn} {j : Nat} {r : Reg} (h : ρ.k.c.regs[j]? = some r) : (ρ.k.c.regs.zipIdx.take (j + 1)).flatMap (fun p => (List.range ρ.rows.length).map fun i => evOf ρ p.2 (i + 1) p.1) = (ρ.k.c.regs.zipIdx.take j).flatMap (fun p => (List.range ρ.rows.length).map fun i => evOf ρ p.2 (i + 1) p.1) ++ (List.range ρ.rows.length).map fun i => evOf ρ j (i + 1) r :=
  flat_take (ys := fun p => (List.range ρ.rows.length).map fun i => evOf ρ p.2 (i + 1) p.1) (x := (r, j)) (by rw [List.getElem?_zipIdx, h]; simp)
theorem run_seq {W : Wd} {Γ : List Sl} {σ : L2.St} {F H : Hp} {t u : TS} {M : List Sl → Prop} (k : Ok W Γ σ F H) (h : Ec W t Γ { nx := M, rt := fun _ => False }) {Z : Ends} (c : ∀ Γ' σ' F' H', Ok W Γ' σ' F' H' → Le F F' → M Γ' → u Z σ' H') : tSeq t u Z σ H :=
  h σ F H k _ c (fun _ _ _ _ _ _ z => z.elim) (fun _ _ _ _ _ _ z => z.elim) fun _ _ _ _ _ _ z => z.elim
theorem as2 {s1 s2 s3 : TS} {Z : Ends} {σ : L2.St} {H : Hp} (h : tSeq (tSeq s1 s2) s3 Z σ H) : tSeq s1 (tSeq s2 s3) Z σ H := h
theorem sc_ClockedRun__play : FnScope ["self", "guesses", "order", "r", "row", "k", "last", "times", "bits", "_", "net", "setup", "hold", "time"] ["self", "guesses"] (defScope (inClass (top 46) 1)) := ⟨rfl, rfl, rfl, by decide +kernel, rfl, by decide +kernel, by decide +kernel⟩
theorem met_play (G : Gs K mg) : C8.Met P w K mg base 13 (He.ga K "ClockedRun") "_play" (spPlay P w K) [] := by
  have m_ClockedRun_edge_time := met_ClockedRun_edge_time (P := P) (w := w) (base := base) G
  have m_Tracker_value : C8.Met P w K mg base 12 (He.ga K "Tracker") "value" (p_Tracker_value P w K 6).sp [] := met_value G 6
  obtain ⟨fd, FD⟩ := G.d_ClockedRun__play
  refine ⟨_, fd, ["self", "guesses"], [], G.cls_ClockedRun, G.me_ClockedRun__play, FD.ok sc_ClockedRun__play (fun vs H Q E ⟨a, F, v, g, _, _, e, _⟩ => by rw [e]; rfl) (fun cdv A' outer s H vs Q E hr h => ⟨_, (PSs.nox (pss_cons (psx 2 sc_ClockedRun__play.nd (pe_lst pa_nil)) (pss_cons (ps_for PassesOwn.never (by rfl) (k_enum (K := K) (by rfl) G.f_enumerate (pa_cons (pe_ix (k_ix (K := K)) (k_fld (K := K) (pvx 0)) pe_int (fun _ _ => rfl)) pa_nil)) (k_tup (K := K) (n := 2) (pgs_cons (pgx 3 sc_ClockedRun__play.nd) (pgs_cons (pgx 4 sc_ClockedRun__play.nd) pgs_nil))) (pss_one (ps_for PassesOwn.never (by rfl) (pi_range2 (by rfl) G.f_range (pa_cons pe_int (pa_cons (pe_op (k_plus (K := K)) (pe_callB (k_len (K := K)) (by rfl) G.f_len (by decide +kernel) (pa_cons (k_fld (K := K) (pvx 0)) pa_nil)) pe_int) pa_nil))) (pgx 5 sc_ClockedRun__play.nd) (pss_one (ps_expr (k_app (K := K) (pvx 2) (pa_cons (pe_tup (pa_cons (pe_op (k_plus (K := K)) (C8.pe_mt m_ClockedRun_edge_time hr (by decide) (pvx 0) (pa_cons (pvx 3) (pa_cons (pvx 5) pa_nil))) (pe_ix (k_ix (K := K)) (pvx 4) pe_int (fun _ _ => rfl))) (pa_cons (pvx 5) (pa_cons (pvx 3) pa_nil)))) pa_nil))))))) (pss_one (ps_for PassesOwn.never (by rfl) (k_seq (K := K) (pe_callB (k_sortT (K := K)) (by rfl) G.f_sorted (by decide +kernel) (pa_cons (pvx 2) pa_nil))) (k_tup (K := K) (n := 3) (pgs_cons (pgx 6 sc_ClockedRun__play.nd) (pgs_cons (pgx 5 sc_ClockedRun__play.nd) (pgs_cons (pgx 3 sc_ClockedRun__play.nd) pgs_nil)))) (pss_cons (ps_asg (pe_ix (k_ix (K := K)) (pe_ix (k_ix (K := K)) (k_fld (K := K) (pvx 0)) pe_int (fun _ _ => rfl)) (pvx 3) (fun _ _ => rfl)) (k_tup (K := K) (n := 7) (pgs_cons (pgx 9 sc_ClockedRun__play.nd) (pgs_cons (pgx 10 sc_ClockedRun__play.nd) (pgs_cons (pgx 9 sc_ClockedRun__play.nd) (pgs_cons (pgx 9 sc_ClockedRun__play.nd) (pgs_cons (pgx 11 sc_ClockedRun__play.nd) (pgs_cons (pgx 12 sc_ClockedRun__play.nd) (pgs_cons (pgx 9 sc_ClockedRun__play.nd) pgs_nil))))))))) (pss_cons (psx 7 sc_ClockedRun__play.nd (pe_callTy cr_range (by rfl) G.f_range (by decide +kernel) (pa_cons (pe_op op_sub (pe_op op_sub (pvx 6) (pvx 12)) (pvx 11)) (pa_cons (pe_op (k_plus (K := K)) (pvx 6) pe_int) pa_nil)))) (pss_cons (ps_setLc (i := 8) (own := [("time", 13)]) (g := (gName 13)) (by rfl) sc_ClockedRun__play.nd (by rfl) (by rfl) (by rfl) (k_seq (K := K) (pvx 7)) (blkOk_by (by kernel_rfl)) (fun _ _ _ _ _ => (pgx 13 sc_ClockedRun__play.nd)) (fun _ _ _ _ _ => pts_nil) (fun _ _ _ _ _ => (C8.pe_mt m_Tracker_value hr (by decide) (k_fld (K := K) (pvx 0)) (pa_cons (pvx 10) (pa_cons (pvx 13) pa_nil))))) (pss_cons (ps_if (PW.pt (pw_and (pt_cmpR (k_in (K := K)) pe_bl (pvx 8) (by with_unfolding_all rfl)) (pw_and1 (pt_cmpR (k_in (K := K)) pe_bl (pvx 8) (by with_unfolding_all rfl))))) (pss_one (psx 8 sc_ClockedRun__play.nd (pe_lst (pa_cons (pe_ix (k_ix (K := K)) (pe_ix (k_ix (K := K)) (pvx 1) (pvx 3) (fun _ _ => rfl)) (pe_op op_mod (pvx 5) (pe_callB (k_len (K := K)) (by rfl) G.f_len (by decide +kernel) (pa_cons (pe_ix (k_ix (K := K)) (pvx 1) (pvx 3) (fun _ _ => rfl)) pa_nil))) (fun _ _ => rfl)) pa_nil)))) pss_nil) (pss_one (ps_expr (k_app (K := K) (pe_ix (k_ix (K := K)) (k_fld (K := K) (pvx 0)) (pvx 3) (fun _ _ => rfl)) (pa_cons (pe_ix (k_ix (K := K)) (pvx 8) pe_int (fun _ _ => rfl)) pa_nil))))))))))))), ?_⟩), FD.bindsN (fun _ _ _ _ _ _ us hl => match us, hl with | [_, _], _ => rfl), .nil⟩
  obtain ⟨a, F, v, g, ha, s0, rfl, rv, rg, q⟩ := h
  have h := ha.ok
  have hk := h.ck
  have wf := hk.wf
  have h3 := wf.r
  have h4 := h.n4
  have hT := hk.T
  have hT2 := hk.T2
  have k0 : Ok (raW P w K a (fun _ => 1) F H) (gP K a .no .no .no .no) (L2.start ["self", "guesses", "order", "r", "row", "k", "last", "times", "bits", "_", "net", "setup", "hold", "time"] [v, g]) F H := ok_start (W := raW P w K a (fun _ => 1) F H) (N := ["self", "guesses", "order", "r", "row", "k", "last", "times", "bits", "_", "net", "setup", "hold", "time"]) (vs := [v, g]) (ss := [.dat ((a.q K).D K), .dat (.lst (a.rn.x.gu.map bsD))]) s0 (.cons rv (.cons rg .nil))
  have sw : Sok (raW0 a F H) F H := ⟨s0.le, s0.mf, s0.mh, trivial⟩
  have eL := evs_len h
  have cirA : ∀ {W : Wd} {Γ : List Sl}, Γ[0]? = some (.dat ((a.q K).D K)) → EvE W (tFld K (tVar 0) "_circuit") Γ (.dat (cD a.rn.k.c)) := fun e => rq_cir (y := a.q K) G e
  refine as2 (run_seq k0 (M := fun Γ => ∃ s3 s4 s5, Γ = [.dat ((a.q K).D K), .dat (.lst (a.rn.x.gu.map bsD)), .own (.lst ((evs a.rn).map t3D)), s3, s4, s5, .no, .no, .no, .no, .no, .no, .no, .no]) ?_ fun Γ' σ1 F1 H1 k1 l1 m1 => ?_)
  · refine ec_set (ev_lst (ds := []) ea_nil (by decide)) ?_
    show Ec _ _ [.dat ((a.q K).D K), .dat (.lst (a.rn.x.gu.map bsD)), .own (.lst []), .no, .no, .no, .no, .no, .no, .no, .no, .no, .no, .no] _
    refine ec_forX a.rn.k.c.regs (fun r g => .tup [.int r, rD g]) (it_enum (b := false) (ds := a.rn.k.c.regs.map rD) (ea_1 (ev_ixT (d := .tup (a.rn.k.c.regs.map rD)) (cirA rfl) (ev_int (i := 2)) rfl))) enum_at (by rw [enumD_len, List.length_map])
      (fun j Γ => ∃ s3 s4 s5, Γ = [.dat ((a.q K).D K), .dat (.lst (a.rn.x.gu.map bsD)), .own (.lst (((a.rn.k.c.regs.zipIdx.take j).flatMap (fun p => (List.range a.rn.rows.length).map fun i => evOf a.rn p.2 (i + 1) p.1)).map t3D)), s3, s4, s5, .no, .no, .no, .no, .no, .no, .no, .no]) ⟨_, _, _, rfl⟩ ?_ ?_
    · rintro j r _ hj ⟨s3, s4, s5, rfl⟩
      have hjl := (List.getElem?_eq_some_iff.mp hj).1
      generalize hpre : (a.rn.k.c.regs.zipIdx.take j).flatMap (fun p => (List.range a.rn.rows.length).map fun i => evOf a.rn p.2 (i + 1) p.1) = pre
      have hpl : pre.length ≤ 12 := by
        rw [← hpre]
        have := flat_len_le (xs := a.rn.k.c.regs.zipIdx.take j) (ys := fun p => (List.range a.rn.rows.length).map fun i => evOf a.rn p.2 (i + 1) p.1) (n := 4) fun p _ => by rw [List.length_map, List.length_range]; exact h4
        rw [List.length_take] at this
        have : min j a.rn.k.c.regs.zipIdx.length * 4 ≤ 3 * 4 := Nat.mul_le_mul_right _ (by omega)
        omega
      refine ⟨_, _, tg_tup (tgs_cons tg_name (tgs_cons tg_name tgs_nil)) rfl, ?_⟩
      refine ec_for (it_rng2 (ea_cons ev_int (ea_1 (ev_add (rq_nrows (y := a.q K) G rfl) ev_int))) (b62 ⟨by omega, by omega⟩ ⟨by dsimp only [Ra.q]; omega, by dsimp only [Ra.q]; omega⟩)) (fun i Γ => ∃ s5, Γ = [.dat ((a.q K).D K), .dat (.lst (a.rn.x.gu.map bsD)), .own (.lst ((pre ++ (List.range i).map fun i => evOf a.rn j (i + 1) r).map t3D)), .dat (.int j), .dat (rD r), s5, .no, .no, .no, .no, .no, .no, .no, .no]) ⟨_, by rw [List.range_zero, List.map_nil, List.append_nil]; rfl⟩ ?_ ?_
      · rintro i d _ hd ⟨s5, rfl⟩
        obtain ⟨hi, rfl⟩ := rngD_get hd
        have hi : i < ((a.rn.rows.length : Int) + 1 - 1).toNat := hi
        have hin : i + 1 ≤ a.rn.rows.length := by omega
        refine ⟨_, _, tg_name, ?_⟩
        have ek : ∀ {W : Wd} {Γ : List Sl}, Γ[5]? = some (.dat (.int (1 + (i : Nat)))) → EvE W (tVar 5) Γ (.dat (.int ((i + 1 : Nat) : Int))) := fun e => (ev_var e).to (congrArg (fun i => Sl.dat (.int i)) (by omega))
        refine ec_app (d := t3D (evOf a.rn j (i + 1) r)) rfl (ev_tup (ds := [.int (et a.rn j (i + 1) + r.ho), .int ((i + 1 : Nat) : Int), .int j]) (ea_cons (ev_add (evf_meth (⟨⟨a.q K, j, i + 1, r⟩, h, hj, Nat.le_add_left 1 i, hin⟩ : A_et) (ev_var rfl) rfl (ea_cons (ev_var rfl) (ea_1 (ek rfl))) rfl rfl) (ev_ixT (d := .int r.ho) (ev_var rfl) ev_int rfl)) (ea_cons (ek rfl) (ea_1 (ev_var rfl)))) (by simp)) ?_ ⟨.dat (.int (1 + (i : Nat))), ?_⟩
        · rw [List.length_map, List.length_append, List.length_map, List.length_range]; omega
        · rw [List.range_succ, List.map_append (l₁ := List.range i), ← List.append_assoc, List.map_append (l₁ := pre ++ _)]
          rfl
      · rintro _ ⟨s5, rfl⟩
        rw [rngD_len, show ((((a.q K).rn.rows.length : Nat) : Int) + 1 - 1).toNat = a.rn.rows.length by dsimp only [Ra.q]; omega]
        exact ⟨_, _, _, by rw [evs_row hj, hpre]⟩
    · rintro _ ⟨s3, s4, s5, rfl⟩
      refine ⟨s3, s4, s5, ?_⟩
      rw [show a.rn.k.c.regs.zipIdx.take a.rn.k.c.regs.length = a.rn.k.c.regs.zipIdx from List.take_of_length_le (by rw [List.length_zipIdx]; exact Nat.le_refl _)]
      rfl
  · obtain ⟨s3, s4, s5, rfl⟩ := m1
    obtain ⟨F2, k2, l2⟩ := k1.frz (i := 2) rfl
    have k3 : Ok (raW P w K a (fun _ => 1) F H) (gP K a (.dat (.lst ((evs a.rn).map t3D))) .no .no .no) σ1 F2 H1 := k2.weak rfl fun i s e => by
      match i, e with
      | 0, e => exact .inr e
      | 1, e => exact .inr e
      | 2, e => exact .inr e
      | 3, e => cases e; exact .inl rfl
      | 4, e => cases e; exact .inl rfl
      | 5, e => cases e; exact .inl rfl
      | i + 6, e => exact .inr e
    refine for_H (W := raW0 a F H) (Q0 := fun ds F3 H3 Γ => Γ = gP K a (.dat (.lst ((evs a.rn).map t3D))) .no .no .no ∧ (∃ es, ds = es.map t3D ∧ EvO a.rn es) ∧ raJ P w K a (fun _ => 1) F3 H3) (fun Q qq => itS_list (W := raW P w K a (fun _ => 1) F H) (S := fun ds => ∃ es, ds = es.map t3D ∧ EvO a.rn es) ((ev_sort3 (es := evs a.rn) (ev_bL (ev_var (i := 2) rfl)) eL fun e he => ev_bd h (evs_ok a.rn) e he).fz ?_) σ1 F2 H1 k3 Q fun J F3 H3 ds g hS hJ => qq J F3 H3 ds ⟨_, ok_swap (k3.gr g) rfl sw (gr_weak (k3.g.trans g) (fun _ => Iff.rfl) trivial), rfl, hS, g.ok.j⟩ hJ)
      (fun _ _ Γ => Γ = gP K a (.dat (.lst ((evs a.rn).map t3D))) .no .no .no) (fun ds i F' H' => ∃ es ls, ds = es.map t3D ∧ EvO a.rn es ∧ LsOk2 a.rn es i ls ∧ raJ P w K a ls F' H') ?_ ?_ ?_
    · rintro s ⟨es', rfl, hp, hw⟩
      exact .inr ⟨_, rfl, _, rfl, es', rfl, (evs_ok a.rn).perm hp, hw⟩
    · rintro ds F3 H3 Γ ⟨rfl, ⟨es, rfl, hE⟩, hJ⟩
      exact ⟨rfl, es, _, rfl, hE, ls_start, hJ⟩
    · rintro ds i d Γ1 σ2 F3 H3 hd kk rfl ⟨es, ls, rfl, hE, hL, hJ⟩
      obtain ⟨e, he, rfl⟩ := map_get hd
      obtain ⟨j, k, r, hj, h1, hn, rfl⟩ := (hE.mem e).mp (List.mem_of_getElem? he)
      have hjl := (List.getElem?_eq_some_iff.mp hj).1
      have rok := wf.reg r (List.mem_of_getElem? hj)
      obtain ⟨sa, hsa⟩ : ∃ b, a.so[j]? = some b := ⟨_, List.getElem?_eq_getElem (by rw [ha.sol]; exact hjl)⟩
      have lsj := ls_at h hE hL hj h1 hn he
      refine ⟨_, _, tg_tup (tgs_cons tg_name (tgs_cons tg_name (tgs_cons tg_name tgs_nil))) rfl, fun σ3 kz Z2 nz => ?_⟩
      have kz : Ok (raW0 a F H) (gP K a (.dat (.lst ((evs a.rn).map t3D))) (.dat (.int j)) (.dat (.int k)) (.dat (.int (et a.rn j k + r.ho)))) σ3 F3 H3 := kz
      have sI : Sok (raW P w K a ls F3 H3) F3 H3 := ⟨kz.ok.le, kz.ok.mf, kz.ok.mh, hJ⟩
      have kI : Ok (raW P w K a ls F3 H3) (gP K a (.dat (.lst ((evs a.rn).map t3D))) (.dat (.int j)) (.dat (.int k)) (.dat (.int (et a.rn j k + r.ho)))) σ3 F3 H3 := ok_swap kz rfl sI (.refl sI)
      have e6 : rD r = .tup [.str r.nm, .str r.net, .tup [.int r.e0, .int r.e1], .tup [.int r.o0, .int r.o1], .int r.su, .int r.ho, .bl r.ini] := rfl
      have m1 := mul_le hT (show 0 ≤ k - 1 by omega)
      have m2 := mul_le hT (show k - 1 ≤ 3 by omega)
      have mk : ((k : Nat) : Int) * a.rn.k.T = ((k - 1 : Nat) : Int) * a.rn.k.T + a.rn.k.T := by
        have : (k : Int) = ((k - 1 : Nat) : Int) + 1 := by omega
        rw [this, Int.add_mul, Int.one_mul]
      obtain ⟨_, _, _, _, _, o0, o1⟩ := h.off hj k
      have eto : et a.rn j k = k * a.rn.k.T + off a.rn j k := rfl
      have su := rok.su
      have ho := rok.ho
      have e0 := rok.e0
      have e2 := rok.e2
      have hcl : ∀ t, et a.rn j k + r.ho - r.ho - r.su ≤ t → t ≤ et a.rn j k + r.ho → InC a.rn.k (k - 1) r.net t ∧ -500 ≤ t ∧ t < 100000 := fun t t1 t2 => by
        have := h.cl r (List.mem_of_getElem? hj) (t - ((k - 1 : Nat) : Int) * a.rn.k.T) (by omega) (by omega)
        exact ⟨this.1, by omega, by omega⟩
      generalize hb : a.rn.V (k - 1) r.net = b
      generalize hlast : et a.rn j k + r.ho = last at hcl kI
      have hlb : -100000 ≤ last ∧ last ≤ 100000 := by
        have := et_bd h hj hn
        omega
      have lenN : (last + 1 - (last - r.ho - r.su)).toNat = (r.ho + r.su + 1).toNat := congrArg Int.toNat (by omega)
      generalize hN : (r.ho + r.su + 1).toNat = N at lenN
      have hN0 : 0 < N ∧ N ≤ 100 := by omega
      refine as4 (run_seq kI (M := fun Γ => ∃ s7 s9 s13, Γ = [.dat ((a.q K).D K), .dat (.lst (a.rn.x.gu.map bsD)), .dat (.lst ((evs a.rn).map t3D)), .dat (.int j), .no, .dat (.int k), .dat (.int last), s7, .own (.lst ((List.replicate N b).map .bl)), s9, .dat (.str r.net), .dat (.int r.su), .dat (.int r.ho), s13]) ?_ fun Γ4 σ4 F4 H4 k4 l4 m4 => ?_)
      · show Ec (raW P w K a ls F3 H3) _ [.dat ((a.q K).D K), .dat (.lst (a.rn.x.gu.map bsD)), .dat (.lst ((evs a.rn).map t3D)), .dat (.int j), .no, .dat (.int k), .dat (.int last), .no, .no, .no, .no, .no, .no, .no] _
        refine ec_seq (M := fun Γ => Γ = [.dat ((a.q K).D K), .dat (.lst (a.rn.x.gu.map bsD)), .dat (.lst ((evs a.rn).map t3D)), .dat (.int j), .no, .dat (.int k), .dat (.int last), .dat (.rng (last - r.ho - r.su) (last + 1)), .own (.lst ((List.replicate N b).map .bl)), .dat (.bl r.ini), .dat (.str r.net), .dat (.int r.su), .dat (.int r.ho), .no]) (ec_seq (M := fun Γ => Γ = [.dat ((a.q K).D K), .dat (.lst (a.rn.x.gu.map bsD)), .dat (.lst ((evs a.rn).map t3D)), .dat (.int j), .no, .dat (.int k), .dat (.int last), .dat (.rng (last - r.ho - r.su) (last + 1)), .no, .dat (.bl r.ini), .dat (.str r.net), .dat (.int r.su), .dat (.int r.ho), .no]) (ec_seq (M := fun Γ => Γ = [.dat ((a.q K).D K), .dat (.lst (a.rn.x.gu.map bsD)), .dat (.lst ((evs a.rn).map t3D)), .dat (.int j), .no, .dat (.int k), .dat (.int last), .no, .no, .dat (.bl r.ini), .dat (.str r.net), .dat (.int r.su), .dat (.int r.ho), .no]) (ec_unp (d := rD r) (ev_ixT (d := rD r) (ev_ixT (d := .tup (a.rn.k.c.regs.map rD)) (cirA rfl) ev_int rfl) (ev_var rfl) (atI_map hj)) (tg_tup (tgs_cons tg_name (tgs_cons tg_name (tgs_cons tg_name (tgs_cons tg_name (tgs_cons tg_name (tgs_cons tg_name (tgs_cons tg_name tgs_nil))))))) rfl) rfl) ?_) ?_) ?_
        · rintro _ rfl
          exact ec_asg (ev_range (i := last - r.ho - r.su) (j := last + 1) (ea_cons (ev_bi (g := fun i j => i - j) (ev_bi (g := fun i j => i - j) (ev_var rfl) (ev_var rfl)) (ev_var rfl)) (ea_1 (ev_add (ev_var rfl) ev_int)))) (fun o h => nomatch h) rfl
        · rintro _ rfl
          refine ec_asg (s := .own (.lst ((List.replicate N b).map .bl))) ((ev_lcX (List.range N) (fun i => .int (last - r.ho - r.su + (i : Nat))) (fun _ => .bl b) ((it_range (ev_var rfl) (b62 ⟨by omega, by omega⟩ ⟨by omega, by omega⟩)).imp fun ds e => by rw [e, lenN]; rfl) (by rw [List.length_range]; omega) fun i t ht => ⟨_, _, tg_name, fun _ h => h, ?_⟩).to (by rw [List.map_const', List.length_range, List.map_replicate])) (fun o h => nomatch h) rfl
          have hti : i < N ∧ t = i := by
            have := (List.getElem?_eq_some_iff.mp ht)
            obtain ⟨h1, h2⟩ := this
            rw [List.length_range] at h1
            rw [List.getElem_range] at h2
            exact ⟨h1, h2.symm⟩
          obtain ⟨hil, rfl⟩ := hti
          obtain ⟨c1, c2, c3⟩ := hcl (last - r.ho - r.su + (t : Int)) (by omega) (by omega)
          have so : SvOk ⟨a, ls, r.net, last - r.ho - r.su + (t : Int), k - 1⟩ := ⟨ha, rok.net, c1, by show k - 1 < a.rn.rows.length; omega, fun q g t' e1 e2 e3 => ls_rdy h hE hL h1 hn he e1 (by rw [hlast]; dsimp only at e2; omega) e3⟩
          rw [← hb]
          exact ev_one (ev_meth (p := p_Tracker_value P w K 6) (⟨⟨a, ls, r.net, last - r.ho - r.su + (t : Int), k - 1⟩, so, by have := ha.rk.le r.net; show -1000 + 100 * (a.rk r.net : Int) ≤ last - r.ho - r.su + (t : Int); omega, c3, Nat.lt_succ_of_le (ha.rk.le _)⟩ : A_tv 6) (rq_tk (y := a.q K) G rfl) rfl (ea_cons (ev_var rfl) (ea_1 (ev_var rfl))) rfl ⟨fun _ h => h, fun _ _ s => s.j, fun _ _ _ _ _ g => g.ok.j⟩ rfl) fun s h => h.1
        · rintro _ rfl
          refine ec_no (EvTE.to (et_and (b := decide (true ∈ List.replicate N b)) (c := decide (false ∈ List.replicate N b)) ((et_test (ev_inL (neg := false) ev_bl (ev_own rfl) rfl flat_bl)).to (by rw [inD_bl]; rfl)) fun _ => (et_test (ev_inL (neg := false) ev_bl (ev_own rfl) rfl flat_bl)).to (by rw [inD_bl]; rfl)) ?_) ⟨_, _, _, rfl⟩
          cases b
          · rw [decide_eq_false (p := true ∈ List.replicate N false) (fun z => Bool.noConfusion (List.mem_replicate.mp z).2), Bool.false_and]
          · rw [decide_eq_false (p := false ∈ List.replicate N true) (fun z => Bool.noConfusion (List.mem_replicate.mp z).2), Bool.and_false]
      · obtain ⟨s7, s9, s13, rfl⟩ := m4
        have rc : EvE (raW P w K a ls F3 H3) (tOp (rIx K) (tFld K (tVar 0) "_stored") (tVar 3)) [.dat ((a.q K).D K), .dat (.lst (a.rn.x.gu.map bsD)), .dat (.lst ((evs a.rn).map t3D)), .dat (.int j), .no, .dat (.int k), .dat (.int last), s7, .own (.lst ((List.replicate N b).map .bl)), s9, .dat (.str r.net), .dat (.int r.su), .dat (.int r.ho), s13] (.dat (.adr sa)) := ev_ixL (ds := a.so.map .adr) (ev_bL (rq_st (y := a.q K) G rfl)) (ev_var rfl) (atI_map hsa)
        refine rc σ4 F4 H4 k4 _ fun v5 F5 H5 g5 z5 => ?_
        cases (show Rep F5 v5 (.adr sa) from z5)
        obtain ⟨_, _, st5⟩ := (show raJ P w K a ls F5 H5 from g5.ok.j)
        obtain ⟨bs5, eb5, _⟩ := st5 j sa hsa
        refine ⟨.inl ⟨rfl, _, SqL.of eb5⟩, ?_⟩
        refine (ev_ixL (K := K) (ds := (List.replicate N b).map .bl) (d := .bl b) (ev_own (i := 8) rfl) (ev_int (i := 0)) (atI_map (n := 0) (by rw [List.getElem?_replicate, if_pos hN0.1])) : EvE (raW P w K a ls F3 H3) (tOp (rIx K) (tVar 8) (tC (.int 0))) _ (.dat (.bl b))) σ4 F5 H5 (k4.gr g5) _ fun v6 F6 H6 g6 z6 => ?_
        cases (show Rep F6 v6 (.bl b) from z6)
        obtain ⟨hR6, ⟨kk6, hk6, hkr6⟩, st6⟩ := (show raJ P w K a ls F6 H6 from g6.ok.j)
        obtain ⟨bs, eb, hbl, hbv⟩ := st6 j sa hsa
        have k6 := (k4.gr g5).gr g6
        refine ⟨sa, _, _, rfl, rfl, eb, by rw [List.length_map]; have := (hL j hjl).2.1; exact Nat.lt_of_le_of_lt (show bs.length ≤ 5 by omega) (by decide), ?_⟩
        have mSa : (raW0 a F H).M sa := .inr (List.mem_of_getElem? hsa)
        have gw : Gr (raW0 a F H) F3 H3 F6 H6 := gr_weak k6.g (fun _ => Iff.rfl) trivial
        have gp : Gr (raW0 a F H) F6 H6 F6 (upd H6 sa (.lst (bs.map V.bl ++ [V.bl b]))) := .putM gw.ok mSa trivial
        have kw : Ok (raW P w K a ls F3 H3) (gP K a (.dat (.lst ((evs a.rn).map t3D))) .no .no .no) σ4 F6 H6 := k6.weak rfl fun i s e => by
          match i, e with
          | 0, e => exact .inr e
          | 1, e => exact .inr e
          | 2, e => exact .inr e
          | 3, e => cases e; exact .inl rfl
          | 4, e => exact .inr e
          | 5, e => cases e; exact .inl rfl
          | 6, e => cases e; exact .inl rfl
          | 7, e => cases e; exact .inl rfl
          | 8, e => cases e; exact .inl rfl
          | 9, e => cases e; exact .inl rfl
          | 10, e => cases e; exact .inl rfl
          | 11, e => cases e; exact .inl rfl
          | 12, e => cases e; exact .inl rfl
          | 13, e => cases e; exact .inl rfl
          | i + 14, e => exact .inr e
        refine nz _ σ4 F6 _ ((ok_swap kw rfl sw (kz.g.trans gw)).gr gp) gw.ff rfl ⟨es, fun q => if q = j then k + 1 else ls q, rfl, hE, ls_next h hE hL hj h1 hn he, hR6, ⟨kk6, ?_, hkr6⟩, fun i b' hb' => ?_⟩
        · rw [upd_ne (fun z => ha.ne (by rw [z]; exact List.mem_of_getElem? hsa))]; exact hk6
        · by_cases z : i = j
          · subst z
            rw [hsa] at hb'
            cases hb'
            refine ⟨bs ++ [b], by rw [upd_same, List.map_append]; rfl, by dsimp only; rw [if_pos rfl, List.length_append]; show bs.length + 1 = _; omega, fun m v hm => ?_⟩
            by_cases y : m < bs.length
            · rw [List.getElem?_append_left y] at hm
              exact hbv m v hm
            · rw [List.getElem?_append_right (by omega)] at hm
              have em : m = k := by
                have := (List.getElem?_eq_some_iff.mp hm).1
                simp at this
                omega
              rw [em, hbl, lsj, Nat.sub_self] at hm
              cases hm
              have sk := h.SS (k - 1) (by omega)
              rw [Nat.sub_add_cancel h1] at sk
              rw [em, sk, List.getElem?_map, hj, ← hb]
              rfl
          · have nb : b' ≠ sa := fun y => z ((List.getElem?_inj (List.getElem?_eq_some_iff.mp hb').1 ha.nd).mp (hb'.trans (by rw [y]; exact hsa.symm)))
            obtain ⟨bs', e1, e2, e3⟩ := st6 i b' hb'
            exact ⟨bs', by rw [upd_ne nb]; exact e1, by dsimp only; rw [if_neg z]; exact e2, e3⟩
    · rintro ds Γ1 σ2 F3 H3 kk rfl ⟨es, ls, rfl, hE, hL, hJ⟩
      rw [List.length_map] at hL
      refine q F3 H3 kk.g fun i b hb => ?_
      obtain ⟨bs, e1, e2, e3⟩ := hJ.2.2 i b hb
      have hil := (List.getElem?_eq_some_iff.mp hb).1
      rw [ha.sol] at hil
      exact ⟨bs, e1, by rw [e2]; exact ls_end hE hL (List.getElem?_eq_getElem hil), e3⟩
end Sg
/-! W32: Tracker made; boxes. -/
namespace Sg
open PySem PySem.Spec PyProof.Rows L2 Dn
variable {P : Program} {w : World} {K : PySem.W.Frag} {mg : Str → Option Value} {base : Heap}
theorem ev_rawA {W : Wd} {Γ : List Sl} {te : TE} {a : Addr} (h : EvE W te Γ (.raw (.ref a))) : EvE W te Γ (.dat (.adr a)) := fun σ F H k Q q => h σ F H k Q fun v F' H' g z => by
  have e : v = .ref a := z
  subst e
  exact q _ F' H' g (.adr a)
def tkL (c : Circ) (dl : Dls) (R : Addr) (dk : List (Key × D)) (kn : Addr) : List (Str × D) := [("circuit", cD c), ("delays", dlD dl), ("origin", .adr R), ("driven", .dic dk), ("known", .adr kn)]
def TNew (P : Program) (w : World) (K : PySem.W.Frag) (c : Circ) (dl : Dls) (R a : Addr) (H0 F' H' : Hp) : Prop := ∃ dk kn, Drv c dk ∧ F' a = none ∧ OwRep F' H' a (.ins (He.ga K "Tracker") (tkL c dl R dk kn)) ∧ kn ≠ a ∧ H0 a = none ∧ H0 kn = none ∧ F' kn = none ∧ H' kn = some (NDo P w kn [])
abbrev A_ti := {y : Circ × Dls × Addr // WF y.1 ∧ DlOk y.1 y.2.1}
def p_Tracker_init (P : Program) (w : World) (K : PySem.W.Frag) : IPrm A_ti := ⟨fun y => [.dat (cD y.1.1), .dat (dlD y.1.2.1), .raw (.ref y.1.2.2)], fun y a H1 F' H' => TNew P w K y.1.1 y.1.2.1 y.1.2.2 a H1 F' H'⟩
theorem sc_Tracker_init : FnScope ["self", "circuit", "delays", "origin", "rows", "row"] ["self", "circuit", "delays", "origin"] (defScope (inClass (top 28) 0)) := ⟨rfl, rfl, rfl, by decide +kernel, rfl, by decide +kernel, by decide +kernel⟩
theorem mak_Tracker (G : Gs K mg) : C8.Mak P w K mg base 2 "Tracker" (He.ga K "Tracker") ((p_Tracker_init P w K).sp (He.ga K "Tracker")) [] := by
  have c_drivers := cal_drivers (P := P) (w := w) (base := base) G
  refine IPrm.mak (p_Tracker_init P w K) G.mk_Tracker G.g_Tracker G.d_Tracker_init sc_Tracker_init (fun _ _ _ _ _ _ us hl => match us, hl with | [_, _, _, _], _ => rfl) (fun _ => rfl) (fun cdv A' outer s H E hr => ⟨_, (PSs.nox (pss_cons (k_sfld (K := K) (pvx 0) (pvx 1)) (pss_cons (k_sfld (K := K) (pvx 0) (pe_lc (own := [("rows", 4)]) (g := (gName 4)) (by rfl) sc_Tracker_init.nd (k_seq (K := K) (pvx 2)) (blkOk_by (by kernel_rfl)) (fun _ _ _ _ _ => (pgx 4 sc_Tracker_init.nd)) (fun _ _ _ _ _ => pts_nil) (fun _ _ _ _ _ => (pe_lc (own := [("row", 5)]) (g := (gName 5)) (by rfl) sc_Tracker_init.nd (k_seq (K := K) (pvx 4)) (blkOk_by (by kernel_rfl)) (fun _ _ _ _ _ => (pgx 5 sc_Tracker_init.nd)) (fun _ _ _ _ _ => pts_nil) (fun _ _ _ _ _ => (pe_callTy (k_list (K := K)) (by rfl) G.f_list (by decide +kernel) (pa_cons (pvx 5) pa_nil))))))) (pss_cons (k_sfld (K := K) (pvx 0) (pvx 3)) (pss_cons (k_sfld (K := K) (pvx 0) (C8.pe_c c_drivers hr (by decide) (by rfl) (pa_cons (pvx 1) pa_nil))) (pss_one (k_sfld (K := K) (pvx 0) (pe_nnew (P := P) (w := w))))))))), ?_⟩)
  rintro ⟨⟨c, dl, R⟩, hc, hd⟩ F H1 a H σ ko Z q
  have hc : WF c := hc
  have hd : DlOk c dl := hd
  have hg5 := hc.g
  have hdl := hd.len
  refine (ech_seq (N := fun _ F' H' => TNew P w K c dl R a H1 F' H') (M := fun G => G = [.slf a (.ins (He.ga K "Tracker") [("circuit", cD c)]), .dat (cD c), .dat (dlD dl), .raw (.ref R), .no, .no]) (ec_fld G.cls_Tracker G.na_Tracker_circuit rfl (ev_var rfl) (by decide) rfl) ?_) σ F H ko Z fun Γ' σ' F' H' k' l n => q σ' F' H' k'.g n
  rintro _ rfl
  refine ech_seq (M := fun G => G = [.slf a (.ins (He.ga K "Tracker") [("circuit", cD c), ("delays", dlD dl)]), .dat (cD c), .dat (dlD dl), .raw (.ref R), .no, .no]) (ec_fld (d := dlD dl) G.cls_Tracker G.na_Tracker_delays rfl (ev_fL (ev_lcX dl rowsD rowsD (it_list (ev_var rfl)) (by omega) fun i rows hr => ⟨_, _, tg_name, fun _ h => h, ?_⟩)) (by show 1 < 1000; decide) rfl) ?_
  · have hi := (List.getElem?_eq_some_iff.mp hr).1
    have hgi : c.gates[i]? = some (c.gates[i]'(by omega)) := List.getElem?_eq_getElem _
    have rok := hd.row i _ rows hgi hr
    have ok := hc.gate _ (List.mem_of_getElem? hgi)
    have p3 := ok.pins
    have rl := rok.len
    exact ev_fL (ev_lcX rows isD isD (it_list (ev_var rfl)) (by omega) fun j row hj => ⟨_, _, tg_name, fun _ h => h, ev_fL (ev_listL (ev_bL (ev_var rfl)))⟩)
  rintro _ rfl
  refine ech_seq (M := fun G => G = [.slf a (.ins (He.ga K "Tracker") [("circuit", cD c), ("delays", dlD dl), ("origin", .adr R)]), .dat (cD c), .dat (dlD dl), .raw (.ref R), .no, .no]) (ec_fld (d := .adr R) G.cls_Tracker G.na_Tracker_origin rfl (ev_rawA (ev_raw rfl)) (by show 2 < 1000; decide) rfl) ?_
  rintro _ rfl
  refine ech_seq (M := fun G => ∃ dk, G = [.slf a (.ins (He.ga K "Tracker") [("circuit", cD c), ("delays", dlD dl), ("origin", .adr R), ("driven", .dic dk)]), .dat (cD c), .dat (dlD dl), .raw (.ref R), .no, .no] ∧ Drv c dk)
    (ec_fldR (R := fun d => ∃ dk, d = .dic dk ∧ Drv c dk) G.cls_Tracker G.na_Tracker_driven rfl ((ev_call (⟨c, hc.sz, hc.nd⟩ : A_nd) (ea_1 (ev_var rfl)) fits_pure rfl).fz ?_) (by show 3 < 1000; decide) ?_) ?_
  · rintro s ⟨⟨dk, rfl, h⟩, _⟩
    exact .inr ⟨_, rfl, _, rfl, dk, rfl, h⟩
  · rintro d ⟨dk, rfl, h⟩
    exact ⟨dk, rfl, h⟩
  rintro _ ⟨dk, rfl, hdk⟩
  intro σ F H ko Z n
  refine ech_new (Pg := P) (w := w) G.cls_Tracker G.na_Tracker_known rfl (by show 4 < 1000; decide) σ F H ko Z fun Γ' σ' F' H' k' l ⟨p, eG, hpa, np⟩ => ?_
  subst eG
  obtain ⟨_, h0, f0, r⟩ := k'.sl 0 _ rfl
  exact n _ σ' F' H' k' l ⟨dk, p, hdk, f0, r, hpa, h0, np.h0, np.f0, np.at_⟩
/-! a list of new lists -/
structure Bxs (W : Wd) (H0 F' H' : Hp) (so : List Addr) (bs : List Bool) : Prop where
  len : so.length = bs.length
  nd : so.Nodup
  at_ : ∀ (i : Nat) (s : Addr) (b : Bool), so[i]? = some s → bs[i]? = some b → H' s = some (.lst [.bl b])
  h0 : ∀ s ∈ so, H0 s = none ∧ F' s = none ∧ ∃ o, H' s = some o
theorem Bxs.gr {W : Wd} {H0 F1 H1 F2 H2 : Hp} {so : List Addr} {bs : List Bool} (h : Bxs W H0 F1 H1 so bs) (g : Gr W F1 H1 F2 H2) (hM : ∀ s ∈ so, ¬ W.M s) : Bxs W H0 F2 H2 so bs := ⟨h.len, h.nd, fun i s b hs hb => g.kp s _ (h.at_ i s b hs hb) (hM s (List.mem_of_getElem? hs)), fun s hs => by
  obtain ⟨a, b, o, e⟩ := h.h0 s hs
  exact ⟨a, g.out b e, o, g.kp s o e (hM s hs)⟩⟩
theorem Bxs.upd {W : Wd} {H0 F1 H1 : Hp} {so : List Addr} {bs : List Bool} (h : Bxs W H0 F1 H1 so bs) {p : Addr} {o : HO} (hp : p ∉ so) : Bxs W H0 F1 (upd H1 p o) so bs := ⟨h.len, h.nd, fun i s b hs hb => by
  rw [upd_ne (fun e => hp (by rw [← e]; exact List.mem_of_getElem? hs))]; exact h.at_ i s b hs hb, fun s hs => by
  obtain ⟨a, b, o', e⟩ := h.h0 s hs
  exact ⟨a, b, o', by rw [upd_ne (fun e => hp (by rw [← e]; exact hs))]; exact e⟩⟩
theorem ev_box {W : Wd} {Γ : List Sl} {ti : TI} {i : Nat} (bs : List Bool) (hl : bs.length ≤ 100) (hil : i < Γ.length) (h : ItE W ti Γ (bs.map .bl)) : ∀ σ F H, Ok W Γ σ F H → ∀ Q : VK,
    (∀ l so F' H', Gr W F H F' H' → H l = none → F' l = none → H' l = some (.lst (so.map V.ref)) → l ∉ so → Bxs W H F' H' so bs → Q (.ref l) H') → tLc ti (gName i) tYes (tLst (tCons (tVar i) tNil)) [i] σ H Q := fun σ F H k Q q => by
  refine h σ F H k _ fun J F1 H1 ds g1 hS hJ Dl hD => ?_
  subst hS
  have hDH : H Dl = none := g1.no hD
  have hm : ¬ W.M Dl := fun m => k.ok.mh Dl m hDH
  refine ⟨fun j m H' => m = (bs.map D.bl).length - j ∧ j ≤ (bs.map D.bl).length ∧ ∃ F' so, Gr W F H F' H' ∧ Le F1 F' ∧ F' Dl = none ∧ H' Dl = some (.lst (so.map V.ref)) ∧ Dl ∉ so ∧ Bxs W H F' H' so (bs.take j),
    ⟨_, rfl, Nat.zero_le _, F1, [], g1.put k.ok hDH (g1.ok.le.no hD), Le.refl _, g1.ok.le.no hD, upd_same, (fun h => nomatch h), ⟨rfl, List.nodup_nil, (fun _ _ _ h => nomatch h), fun _ h => nomatch h⟩⟩, ?_⟩
  rintro j m H' ⟨rfl, hj, F', so, g', le', fD, hDl, nD, bx⟩
  obtain ⟨hgo, hst⟩ := hJ j F' H' g'.ok le'
  by_cases hlt : j < (bs.map D.bl).length
  · obtain ⟨go, yl⟩ := hgo (bs.map D.bl)[j] (List.getElem?_eq_getElem hlt)
    refine .inr ⟨go, fun H2 => j + 1 ≤ (bs.map D.bl).length ∧ ∃ F2 so, Gr W F H F2 H2 ∧ Le F1 F2 ∧ F2 Dl = none ∧ H2 Dl = some (.lst (so.map V.ref)) ∧ Dl ∉ so ∧ Bxs W H F2 H2 so (bs.take (j + 1)), fun H2 ⟨a, b⟩ => ⟨_, by omega, rfl, a, b⟩, fun x H2 y => ?_⟩
    obtain ⟨F2, g2, rx⟩ := yl x H2 y
    have k2 : Ok W (wipeG Γ [i]) (L2.wipe σ [i]) F2 H2 := (k.gr (g'.trans g2)).wipe [i]
    refine (tg_name (W := W) (Γ := wipeG Γ [i]) (i := i)) _ F2 H2 x k2 rx _ fun σ3 k3 at3 => ⟨wipe_back at3 fun _ h => h, ?_⟩
    refine et_yes σ3 F2 H2 k3 _ fun F3 H3 g3 => ?_
    rw [if_pos rfl]
    have hbj : bs[j]? = some (bs[j]'(by rw [List.length_map] at hlt; exact hlt)) := List.getElem?_eq_getElem _
    generalize hbv : bs[j]'(by rw [List.length_map] at hlt; exact hlt) = b at hbj
    have ex : x = V.bl b := by
      rw [List.getElem_map, hbv] at rx
      cases rx
      rfl
    obtain ⟨x', ex', rx'⟩ := k3.sl i (.dat (bs.map D.bl)[j]) (List.getElem?_set_self (by show i < (Γ.set i .no).length; rw [List.length_set]; exact hil))
    have ex2 : x' = V.bl b := by
      rw [List.getElem_map, hbv] at rx'
      cases rx'
      rfl
    have g23 := g2.trans g3
    have gg := g'.trans g23
    have fD3 : F3 Dl = none := g23.out fD hDl
    have hD3 : H3 Dl = some (.lst (so.map V.ref)) := g23.kp Dl _ hDl hm
    have hMs : ∀ s ∈ so, ¬ W.M s := fun s hs m => k.ok.mh s m (bx.h0 s hs).1
    have bx3 := bx.gr g23 hMs
    refine ⟨x', ex', by show 1 ≤ sizeLine; decide, fun p hp => ⟨so.map V.ref, ?_, ?_, hlt, F3, so ++ [p], ?_, le'.trans g23.ff, fD3, ?_, ?_, ?_⟩⟩
    · rw [upd_ne (fun e => by rw [← e, hD3] at hp; cases hp)]; exact hD3
    · rw [List.length_map, bx.len, List.length_take]
      exact Nat.lt_of_le_of_lt (show min j bs.length ≤ 100 by omega) (by decide)
    · exact (gg.trans (.newO gg.ok hp)).put k.ok hDH fD3
    · rw [upd_same, List.map_append]; rfl
    · intro hm'
      rcases List.mem_append.mp hm' with z | z
      · exact nD z
      · rw [List.mem_singleton.mp z] at hD3; rw [hp] at hD3; cases hD3
    · have pn : p ∉ so := fun z => by
        obtain ⟨_, _, o, e⟩ := bx3.h0 p z
        rw [hp] at e; cases e
      have pD : p ≠ Dl := fun e => by rw [e, hD3] at hp; cases hp
      refine Bxs.upd (p := Dl) ⟨?_, ?_, fun i s b' hs hb => ?_, fun s hs => ?_⟩ fun hm' => ?_
      · rw [take_snoc hbj, List.length_append, List.length_append, bx.len]; rfl
      · exact List.nodup_append.mpr ⟨bx.nd, List.pairwise_singleton .., fun a ha c hc e => by rw [List.mem_singleton.mp hc] at e; exact pn (e ▸ ha)⟩
      · rw [take_snoc hbj] at hb
        have hlen := bx.len
        by_cases z : i < so.length
        · rw [List.getElem?_append_left z] at hs
          rw [List.getElem?_append_left (by omega)] at hb
          rw [upd_ne (fun e => pn (by rw [← e]; exact List.mem_of_getElem? hs))]
          exact bx3.at_ i s b' hs hb
        · rw [List.getElem?_append_right (by omega)] at hs
          rw [List.getElem?_append_right (by omega)] at hb
          have e0 : i - so.length = 0 := by
            have := (List.getElem?_eq_some_iff.mp hs).1
            simp at this
            omega
          rw [e0] at hs
          rw [← hlen, e0] at hb
          cases hs
          cases hb
          rw [upd_same, ex2]
      · rcases List.mem_append.mp hs with z | z
        · obtain ⟨a, b', o, e⟩ := bx3.h0 s z
          exact ⟨a, b', o, by rw [upd_ne (fun e' => pn (by rw [← e']; exact z))]; exact e⟩
        · rw [List.mem_singleton.mp z]
          exact ⟨gg.no hp, gg.ok.le.no hp, _, upd_same⟩
      · rcases List.mem_append.mp hm' with z | z
        · exact nD z
        · exact pD (List.mem_singleton.mp z).symm
  · have e : j = (bs.map D.bl).length := by omega
    subst e
    rw [List.length_map, List.take_length] at bx
    exact .inl ⟨hst rfl, q Dl so F' H' g' hDH fD hDl nD bx⟩
end Sg
/-! W33: ClockedRun made. -/
namespace Sg
open PySem PySem.Spec PyProof.Rows L2 Dn
variable {P : Program} {w : World} {K : PySem.W.Frag} {mg : Str → Option Value} {base : Heap}
structure StF (ρ : Rn) (st : List (List Bool)) : Prop where
  len : st.length = ρ.k.c.regs.length
  b : ∀ (j : Nat) (b : List Bool), st[j]? = some b → b.length = ρ.rows.length + 1 ∧ ∀ m v, b[m]? = some v → (ρ.S m)[j]? = some v
def RunOut (K : PySem.W.Frag) (ρ : Rn) (a : Addr) (F' : Hp) : Prop := ∃ pk st tk, Rep F' (.ref a) ((Rq.mk ρ pk (stD st) tk).D K) ∧ StF ρ st
abbrev A_ri := {ρ : Rn // RnOk ρ}
def p_ClockedRun_init (K : PySem.W.Frag) : IPrm A_ri := ⟨fun x => [.dat (kD' K x.1.k), .dat (.lst (x.1.rows.map bT)), .dat (.lst (x.1.x.es.map isD)), .dat (.lst (x.1.x.sh.map bsD)), .dat (.lst (x.1.x.gu.map bsD)), .dat (dlD x.1.x.dl)], fun x a _ F' _ => RunOut K x.1 a F'⟩
theorem reps_adr {F : Hp} : ∀ so : List Addr, Reps F (so.map V.ref) (so.map D.adr)
  | [] => .nil
  | s :: so => .cons (.adr s) (reps_adr so)
theorem adr_reps {F : Hp} : ∀ {xs : List V} {so : List Addr}, Reps F xs (so.map D.adr) → xs = so.map V.ref
  | _, [], .nil => rfl
  | _, s :: so, .cons h r => by
    cases h
    rw [List.map_cons, adr_reps r]
theorem frz_all {W : Wd} {F H : Hp} (s0 : Sok W F H) : ∀ {so : List Addr} {F1 H1 : Hp}, Gr W F H F1 H1 → so.Nodup → (∀ s ∈ so, H s = none ∧ F1 s = none ∧ ∃ o, H1 s = some o) → ∃ F2, Gr W F H F2 H1 ∧ Le F1 F2 ∧ ∀ s ∈ so, F2 s = H1 s
  | [], F1, H1, g, _, _ => ⟨F1, g, Le.refl _, fun _ h => nomatch h⟩
  | s :: so, F1, H1, g, nd, h => by
    rw [List.nodup_cons] at nd
    obtain ⟨a, b, o, e⟩ := h s (List.mem_cons_self ..)
    obtain ⟨F2, g2, l2, h2⟩ := frz_all s0 (so := so) (g.frz s0 a b e) nd.2 fun t ht => by
      obtain ⟨a', b', o', e'⟩ := h t (List.mem_cons_of_mem _ ht)
      exact ⟨a', by rw [upd_ne (fun q => nd.1 (by rw [← q]; exact ht))]; exact b', o', e'⟩
    refine ⟨F2, g2, (Le.new (Le.refl _) b).trans l2, fun t ht => ?_⟩
    rcases List.mem_cons.mp ht with q | q
    · rw [q, e]; exact l2 s o upd_same
    · exact h2 t q
theorem choose_list {β : Type} : ∀ {so : List Addr} {Pr : Nat → Addr → β → Prop}, (∀ i b, so[i]? = some b → ∃ x, Pr i b x) → ∃ st : List β, st.length = so.length ∧ ∀ i b, so[i]? = some b → ∃ x, st[i]? = some x ∧ Pr i b x
  | [], _, _ => ⟨[], rfl, fun _ _ h => nomatch h⟩
  | s :: so, Pr, h => by
    obtain ⟨x, hx⟩ := h 0 s rfl
    obtain ⟨st, hl, hs⟩ := choose_list (so := so) (Pr := fun i => Pr (i + 1)) fun i b hb => h (i + 1) b hb
    refine ⟨x :: st, congrArg Nat.succ hl, fun i b hb => ?_⟩
    cases i with
    | zero => cases hb; exact ⟨x, rfl, hx⟩
    | succ i => exact hs i b hb
theorem bls_reps {F : Hp} : ∀ b : List Bool, Reps F (b.map V.bl) (b.map D.bl)
  | [] => .nil
  | x :: b => .cons (.bl x) (bls_reps b)
theorem boxes_rep {F : Hp} : ∀ {so : List Addr} {st : List (List Bool)}, st.length = so.length → (∀ (i : Nat) (s : Addr) (b : List Bool), so[i]? = some s → st[i]? = some b → F s = some (.lst (b.map V.bl))) → Reps F (so.map V.ref) (st.map bsD)
  | [], [], _, _ => .nil
  | s :: so, b :: st, hl, h => .cons (.lst (h 0 s b rfl rfl) (bls_reps b)) (boxes_rep (Nat.succ.inj hl) fun i s' b' h1 h2 => h (i + 1) s' b' h1 h2)
  | [], _ :: _, hl, _ => nomatch hl
  | _ :: _, [], hl, _ => nomatch hl
theorem seq_fld {ta tv : TE} {f : Str} {u : TS} {Z : Ends} {σ : L2.St} {H : Hp} (h : tv σ H fun y H1 => ta σ H1 fun x H2 => ∃ a C dx fs, x = .ref a ∧ H2 a = some (.ins C dx fs) ∧ Cls K C ∧ NoAttr K C f ∧ fs.length < 1000 ∧ u Z σ (upd H2 a (.ins C dx (putF f y fs)))) : tSeq (sFld K ta tv f) u Z σ H := h
theorem drop_of {te : TE} {Z : Ends} {σ : L2.St} {H : Hp} (h : te σ H fun _ H1 => Z.nx σ H1) : tDrop te Z σ H := h
def cg (K : PySem.W.Frag) (ρ : Rn) (s : Sl) (s7 s8 s9 : Sl) : List Sl := [s, .dat (kD' K ρ.k), .dat (.lst (ρ.rows.map bT)), .dat (.lst (ρ.x.es.map isD)), .dat (.lst (ρ.x.sh.map bsD)), .dat (.lst (ρ.x.gu.map bsD)), .dat (dlD ρ.x.dl), s7, s8, s9, .no, .no, .no]
theorem sc_ClockedRun_init : FnScope ["self", "clocked", "rows", "edges", "shakes", "guesses", "delays", "circuit", "row", "offsets", "bit", "k", "net"] ["self", "clocked", "rows", "edges", "shakes", "guesses", "delays"] (defScope (inClass (top 46) 0)) := ⟨rfl, rfl, rfl, by decide +kernel, rfl, by decide +kernel, by decide +kernel⟩
theorem mak_ClockedRun (G : Gs K mg) : MakN P w K mg base 14 "ClockedRun" (He.ga K "ClockedRun") 2 ["edges", "shakes", "guesses", "delays"] (fun vs zs => vs ++ zs) ((p_ClockedRun_init K).sp (He.ga K "ClockedRun")) := by
  have m_Clocked_circuit := met_Clocked_circuit (P := P) (w := w) (base := base) G
  have c_check_lists := cal_check_lists (P := P) (w := w) (base := base) G
  have c_sources := cal_sources (P := P) (w := w) (base := base) G
  have c_check_delays := cal_check_delays (P := P) (w := w) (base := base) G
  have c_start_state := cal_start_state (P := P) (w := w) (base := base) G
  have k_Tracker := mak_Tracker (P := P) (w := w) (base := base) G
  have m_ClockedRun__play := met_play (P := P) (w := w) (base := base) G
  obtain ⟨fd, FD⟩ := G.d_ClockedRun_init
  refine ⟨_, fd, ["self", "clocked", "rows", "edges", "shakes", "guesses", "delays"], _, G.mk_ClockedRun, (p_ClockedRun_init K).okE FD sc_ClockedRun_init (fun _ => rfl) (fun cdv A' outer s H E hr => ⟨_, (PSs.nox (pss_cons (psx 7 sc_ClockedRun_init.nd (C8.pe_mt0 m_Clocked_circuit hr (by decide) (pvx 1))) (pss_cons (ps_expr (C8.pe_c c_check_lists hr (by decide) (by rfl) (pa_cons (pvx 3) (pa_cons (pe_callB (k_len (K := K)) (by rfl) G.f_len (by decide +kernel) (pa_cons (pe_ix (k_ix (K := K)) (pvx 7) pe_int (fun _ _ => rfl)) pa_nil)) pa_nil)))) (pss_cons (ps_expr (C8.pe_c c_check_lists hr (by decide) (by rfl) (pa_cons (pvx 4) (pa_cons (pe_callB (k_len (K := K)) (by rfl) G.f_len (by decide +kernel) (pa_cons (C8.pe_c c_sources hr (by decide) (by rfl) (pa_cons (pvx 7) pa_nil)) pa_nil)) pa_nil)))) (pss_cons (ps_expr (C8.pe_c c_check_lists hr (by decide) (by rfl) (pa_cons (pvx 5) (pa_cons (pe_callB (k_len (K := K)) (by rfl) G.f_len (by decide +kernel) (pa_cons (pe_ix (k_ix (K := K)) (pvx 7) pe_int (fun _ _ => rfl)) pa_nil)) pa_nil)))) (pss_cons (ps_for PassesOwn.never (by rfl) (k_seq (K := K) (pvx 2)) (pgx 8 sc_ClockedRun_init.nd) (pss_one (ps_if (pt_cmpR op_ne (pe_callB (k_len (K := K)) (by rfl) G.f_len (by decide +kernel) (pa_cons (pvx 8) pa_nil)) (pe_callB (k_len (K := K)) (by rfl) G.f_len (by decide +kernel) (pa_cons (pe_ix (k_ix (K := K)) (pvx 7) pe_int (fun _ _ => rfl)) pa_nil)) (nomark _)) (pss_one ps_never) pss_nil))) (pss_cons (ps_expr (C8.pe_c c_check_delays hr (by decide) (by rfl) (pa_cons (pvx 7) (pa_cons (pvx 6) pa_nil)))) (pss_cons (ps_for PassesOwn.never (by rfl) (k_zip (K := K) (by rfl) G.f_zip (pa_cons (pe_ix (k_ix (K := K)) (pvx 7) pe_int (fun _ _ => rfl)) (pa_cons (pvx 3) pa_nil))) (k_tup (K := K) (n := 2) (pgs_cons (pgx 8 sc_ClockedRun_init.nd) (pgs_cons (pgx 9 sc_ClockedRun_init.nd) pgs_nil))) (pss_one (ps_if (PW.pt (pw_or (pt_cmpR op_lt (pe_callB (k_min (K := K)) (by rfl) G.f_min (by decide +kernel) (pa_cons (pvx 9) pa_nil)) (pe_ix (k_ix (K := K)) (pe_ix (k_ix (K := K)) (pvx 8) pe_int (fun _ _ => rfl)) pe_int (fun _ _ => rfl)) (nomark _)) (pw_or1 (pt_cmpR op_gt (pe_callB (k_max (K := K)) (by rfl) G.f_max (by decide +kernel) (pa_cons (pvx 9) pa_nil)) (pe_ix (k_ix (K := K)) (pe_ix (k_ix (K := K)) (pvx 8) pe_int (fun _ _ => rfl)) pe_int (fun _ _ => rfl)) (nomark _))))) (pss_one ps_never) pss_nil))) (pss_cons (k_sfld (K := K) (pvx 0) (pvx 1)) (pss_cons (k_sfld (K := K) (pvx 0) (pvx 7)) (pss_cons (k_sfld (K := K) (pvx 0) (pe_callTy (k_list (K := K)) (by rfl) G.f_list (by decide +kernel) (pa_cons (pvx 2) pa_nil))) (pss_cons (k_sfld (K := K) (pvx 0) (pe_lc (own := [("row", 8)]) (g := (gName 8)) (by rfl) sc_ClockedRun_init.nd (k_seq (K := K) (pvx 3)) (blkOk_by (by kernel_rfl)) (fun _ _ _ _ _ => (pgx 8 sc_ClockedRun_init.nd)) (fun _ _ _ _ _ => pts_nil) (fun _ _ _ _ _ => (pe_callTy (k_list (K := K)) (by rfl) G.f_list (by decide +kernel) (pa_cons (pvx 8) pa_nil))))) (pss_cons (k_sfld (K := K) (pvx 0) (pe_lc (own := [("row", 8)]) (g := (gName 8)) (by rfl) sc_ClockedRun_init.nd (k_seq (K := K) (pvx 4)) (blkOk_by (by kernel_rfl)) (fun _ _ _ _ _ => (pgx 8 sc_ClockedRun_init.nd)) (fun _ _ _ _ _ => pts_nil) (fun _ _ _ _ _ => (pe_callTy (k_list (K := K)) (by rfl) G.f_list (by decide +kernel) (pa_cons (pvx 8) pa_nil))))) (pss_cons (k_sfld (K := K) (pvx 0) (pe_dc (own := [("k", 11), ("net", 12)]) (g := (gTup K 2 (gCons (gName 11) (gCons (gName 12) gNil)))) (by rfl) sc_ClockedRun_init.nd (k_enum (K := K) (by rfl) G.f_enumerate (pa_cons (C8.pe_c c_sources hr (by decide) (by rfl) (pa_cons (pvx 7) pa_nil)) pa_nil)) (blkOk_by (by kernel_rfl)) (fun _ _ _ _ _ => (k_tup (K := K) (n := 2) (pgs_cons (pgx 11 sc_ClockedRun_init.nd) (pgs_cons (pgx 12 sc_ClockedRun_init.nd) pgs_nil)))) (fun _ _ _ _ _ => pts_nil) (fun _ _ _ _ _ => (pvx 12)) (fun _ _ _ _ _ => (pvx 11)))) (pss_cons (k_sfld (K := K) (pvx 0) (pe_lc (own := [("bit", 10)]) (g := (gName 10)) (by rfl) sc_ClockedRun_init.nd (k_seq (K := K) (C8.pe_c c_start_state hr (by decide) (by rfl) (pa_cons (pvx 7) pa_nil))) (blkOk_by (by kernel_rfl)) (fun _ _ _ _ _ => (pgx 10 sc_ClockedRun_init.nd)) (fun _ _ _ _ _ => pts_nil) (fun _ _ _ _ _ => (pe_lst (pa_cons (pvx 10) pa_nil))))) (pss_cons (k_sfld (K := K) (pvx 0) (C8.pe_mk k_Tracker hr (by decide) (by rfl) (pa_cons (pvx 7) (pa_cons (pvx 6) (pa_cons (pvx 0) pa_nil))))) (pss_one (ps_expr (C8.pe_mt m_ClockedRun__play hr (by decide) (pvx 0) (pa_cons (pe_lc (own := [("row", 8)]) (g := (gName 8)) (by rfl) sc_ClockedRun_init.nd (k_seq (K := K) (pvx 5)) (blkOk_by (by kernel_rfl)) (fun _ _ _ _ _ => (pgx 8 sc_ClockedRun_init.nd)) (fun _ _ _ _ _ => pts_nil) (fun _ _ _ _ _ => (pe_callTy (k_list (K := K)) (by rfl) G.f_list (by decide +kernel) (pa_cons (pvx 8) pa_nil)))) pa_nil)))))))))))))))))))), ?_⟩), G.g_ClockedRun, kbindsP FD 3 ["edges", "shakes", "guesses", "delays"] fun _ _ _ _ _ _ us ws h1 h2 => match us, ws, h1, h2 with | [_, _, _], [_, _, _, _], _, _ => rfl⟩
  rintro ⟨ρ, h⟩ F0 H0 a H σ ko Z q
  have h : RnOk ρ := h
  have hk := h.ck
  have wf := hk.wf
  have h3 := wf.r
  have h4 := h.n4
  have hi2 := wf.i
  have h200 := src_len wf.sz
  have sl5 : (src ρ.k.c).length ≤ 5 := by unfold src; rw [List.length_append, List.length_map]; omega
  have hel := h.el
  have hsl := h.sl
  have hgl := h.gl
  have ko : Ok (wd0 F0 H0) (cg K ρ (.slf a (.ins (He.ga K "ClockedRun") [])) .no .no .no) σ F0 H := ko
  refine (ech_seq (N := fun _ F' H' => RunOut K ρ a F') (M := fun Γ => Γ = cg K ρ (.slf a (.ins (He.ga K "ClockedRun") [])) (.dat (cD ρ.k.c)) .no .no) (ec_asg (s := .dat (cD ρ.k.c)) (evf_meth ρ.k (ev_var rfl) rfl ea_nil rfl rfl) (fun o h => nomatch h) rfl) ?_) σ F0 H ko Z fun Γ' σ' F' H' k' l n => q σ' F' H' k'.g n
  rintro _ rfl
  have llE : (D.lst (ρ.x.es.map isD)) = lls (ρ.x.es.map fun e => e.map .int) := by unfold lls; rw [List.map_map]; rfl
  have llS : ∀ l : List (List Bool), (D.lst (l.map bsD)) = lls (l.map fun e => e.map .bl) := fun l => by unfold lls; rw [List.map_map]; rfl
  have okE : LsOk (ρ.x.es.map fun e => e.map .int, ρ.k.c.regs.length) := ⟨by dsimp only; rw [List.length_map]; exact hel, fun ds hds => by
    obtain ⟨e, he, rfl⟩ := List.mem_map.mp hds
    obtain ⟨j, hj⟩ := List.mem_iff_getElem?.mp he
    have hjl := (List.getElem?_eq_some_iff.mp hj).1
    have ed := h.e j _ e (List.getElem?_eq_getElem (by omega)) hj
    refine ⟨fun z => ?_, fun d hd => ?_⟩
    · have := ed.1.1
      rw [List.map_eq_nil_iff.mp z] at this
      exact absurd this (by decide)
    · obtain ⟨i, _, rfl⟩ := List.mem_map.mp hd
      rfl⟩
  have okS : ∀ (l : List (List Bool)) (n : Nat), l.length = n → (∀ b ∈ l, n14 b.length) → LsOk (l.map fun e => e.map .bl, n) := fun l n hl hb => ⟨by dsimp only; rw [List.length_map]; exact hl, fun ds hds => by
    obtain ⟨e, he, rfl⟩ := List.mem_map.mp hds
    refine ⟨fun z => ?_, fun d hd => ?_⟩
    · have := (hb e he).1
      rw [List.map_eq_nil_iff.mp z] at this
      exact absurd this (by decide)
    · obtain ⟨i, _, rfl⟩ := List.mem_map.mp hd
      rfl⟩
  have nR : ∀ {W : Wd} {Γ : List Sl}, Γ[7]? = some (.dat (cD ρ.k.c)) → EvE W (tCB (Dn.rLen K) (tCons (tOp (rIx K) (tVar 7) (tC (.int 2))) tNil)) Γ (.dat (.int (ρ.k.c.regs.length : Nat))) := fun e => (ev_lenT (ds := ρ.k.c.regs.map rD) (ev_ixT (ev_var e) ev_int rfl)).to (by rw [List.length_map])
  refine ech_seq (M := fun Γ => Γ = cg K ρ (.slf a (.ins (He.ga K "ClockedRun") [])) (.dat (cD ρ.k.c)) .no .no) (ec_drop (ev_call (p := p_check_lists K) (⟨_, okE⟩ : A_lsx) (ea_cons ((ev_var rfl).to (congrArg Sl.dat llE)) (ea_1 (nR rfl))) fits_pure rfl) rfl) ?_
  rintro _ rfl
  refine ech_seq (M := fun Γ => Γ = cg K ρ (.slf a (.ins (He.ga K "ClockedRun") [])) (.dat (cD ρ.k.c)) .no .no) (ec_drop (ev_call (p := p_check_lists K) (⟨_, okS ρ.x.sh _ hsl h.s⟩ : A_lsx) (ea_cons ((ev_var rfl).to (congrArg Sl.dat (llS _))) (ea_1 ((ev_lenL (ds := (src ρ.k.c).map .str) (ev_own_bor (evf_call (⟨ρ.k.c, wf.sz⟩ : A_sz) (ea_1 (ev_var rfl)) rfl))).to (by rw [List.length_map])))) fits_pure rfl) rfl) ?_
  rintro _ rfl
  refine ech_seq (M := fun Γ => Γ = cg K ρ (.slf a (.ins (He.ga K "ClockedRun") [])) (.dat (cD ρ.k.c)) .no .no) (ec_drop (ev_call (p := p_check_lists K) (⟨_, okS ρ.x.gu _ hgl h.g⟩ : A_lsx) (ea_cons ((ev_var rfl).to (congrArg Sl.dat (llS _))) (ea_1 (nR rfl))) fits_pure rfl) rfl) ?_
  rintro _ rfl
  refine ech_seq (M := fun Γ => ∃ s8, Γ = cg K ρ (.slf a (.ins (He.ga K "ClockedRun") [])) (.dat (cD ρ.k.c)) s8 .no) ?_ ?_
  · refine ec_forX ρ.rows (fun _ b => bT b) (ds := ρ.rows.map bT) (it_list (ev_var rfl)) (fun i d h => map_get h) (by rw [List.length_map]) (fun _ Γ => ∃ s8, Γ = cg K ρ (.slf a (.ins (He.ga K "ClockedRun") [])) (.dat (cD ρ.k.c)) s8 .no) ⟨_, rfl⟩ ?_ fun _ h => h
    rintro i row _ hr ⟨s8, rfl⟩
    refine ⟨_, _, tg_name, ?_⟩
    exact ec_no ((et_test (ev_neI (ev_lenT (ds := row.map .bl) (ev_var (i := 8) rfl)) (ev_lenT (ds := ρ.k.c.ins.map .str) (ev_ixT (d := .tup (ρ.k.c.ins.map .str)) (ev_var (i := 7) (d := cD ρ.k.c) rfl) (ev_int (i := 0)) rfl)))).to (by rw [List.length_map, List.length_map, h.row row (List.mem_of_getElem? hr), decide_eq_true rfl]; rfl)) ⟨_, rfl⟩
  rintro _ ⟨s8, rfl⟩
  refine ech_seq (M := fun Γ => Γ = cg K ρ (.slf a (.ins (He.ga K "ClockedRun") [])) (.dat (cD ρ.k.c)) s8 .no) (ec_drop (ev_call (p := p_check_delays K) (⟨(ρ.k.c, ρ.x.dl), wf, h.d.ok⟩ : A_cdl) (ea_cons (ev_var rfl) (ea_1 (ev_var rfl))) fits_pure rfl) rfl) ?_
  rintro _ rfl
  refine ech_seq (M := fun Γ => ∃ s8 s9, Γ = cg K ρ (.slf a (.ins (He.ga K "ClockedRun") [])) (.dat (cD ρ.k.c)) s8 s9) ?_ ?_
  · refine ec_forX (ρ.k.c.regs.zip ρ.x.es) (fun _ p => .tup [rD p.1, isD p.2]) (it_zip (b := false) (c := true) (ds := ρ.k.c.regs.map rD) (es := ρ.x.es.map isD) (ea_cons (ev_ixT (d := .tup (ρ.k.c.regs.map rD)) (ev_var (i := 7) (d := cD ρ.k.c) rfl) (ev_int (i := 2)) rfl) (ea_1 (ev_var rfl)))) zip_at (by rw [zipD_len, List.length_map, List.length_map, List.length_zip]) (fun _ Γ => ∃ s8 s9, Γ = cg K ρ (.slf a (.ins (He.ga K "ClockedRun") [])) (.dat (cD ρ.k.c)) s8 s9) ⟨_, _, rfl⟩ ?_ fun _ h => h
    rintro i ⟨r, e⟩ _ hi ⟨s8, s9, rfl⟩
    obtain ⟨e1, e2⟩ := List.getElem?_zip_eq_some.mp hi
    have ed := h.e i r e e1 e2
    have hne : e ≠ [] := fun z => by
      have := ed.1.1
      rw [z] at this
      exact absurd this (by decide)
    have b1 := (ed.2 _ (minI_mem hne)).1
    have b2 := (ed.2 _ (maxI_mem hne)).2
    refine ⟨_, _, tg_tup (tgs_cons tg_name (tgs_cons tg_name tgs_nil)) rfl, ?_⟩
    have r2 : ∀ {W : Wd} {Γ : List Sl}, Γ[8]? = some (.dat (rD r)) → EvE W (tOp (rIx K) (tVar 8) (tC (.int 2))) Γ (.dat (.tup [.int r.e0, .int r.e1])) := fun e => ev_ixT (ev_var e) ev_int rfl
    exact ec_no (EvTE.to (et_or (b := false) (c := false) ((et_bb (g := fun i j => decide (i < j)) (ev_minL (ns := e) (ev_bL (ev_var (i := 9) (d := isD e) rfl)) hne) (ev_ixT (r2 rfl) (ev_int (i := 0)) rfl)).to (decide_eq_false (by omega))) fun _ => (et_bb (g := fun i j => decide (i > j)) (ev_maxL (ns := e) (ev_bL (ev_var (i := 9) (d := isD e) rfl)) hne) (ev_ixT (r2 rfl) (ev_int (i := 1)) rfl)).to (decide_eq_false (by omega))) rfl) ⟨_, _, rfl⟩
  clear s8
  rintro _ ⟨s8, s9, rfl⟩
  refine ech_seq (M := fun Γ => Γ = cg K ρ (.slf a (.ins (He.ga K "ClockedRun") [("_clocked", kD' K ρ.k)])) (.dat (cD ρ.k.c)) s8 s9) (ec_fld G.cls_ClockedRun G.na_ClockedRun__clocked rfl (ev_var rfl) (by decide) rfl) ?_
  rintro _ rfl
  refine ech_seq (M := fun Γ => Γ = cg K ρ (.slf a (.ins (He.ga K "ClockedRun") [("_clocked", kD' K ρ.k), ("_circuit", cD ρ.k.c)])) (.dat (cD ρ.k.c)) s8 s9) (ec_fld G.cls_ClockedRun G.na_ClockedRun__circuit rfl (ev_var rfl) (by show 1 < 1000; decide) rfl) ?_
  rintro _ rfl
  refine ech_seq (M := fun Γ => Γ = cg K ρ (.slf a (.ins (He.ga K "ClockedRun") [("_clocked", kD' K ρ.k), ("_circuit", cD ρ.k.c), ("_rows", .lst (ρ.rows.map bT))])) (.dat (cD ρ.k.c)) s8 s9) (ec_fld (d := .lst (ρ.rows.map bT)) G.cls_ClockedRun G.na_ClockedRun__rows rfl (ev_fL (ev_listL (ev_bL (ev_var rfl)))) (by show 2 < 1000; decide) rfl) ?_
  rintro _ rfl
  refine ech_seq (M := fun Γ => Γ = cg K ρ (.slf a (.ins (He.ga K "ClockedRun") [("_clocked", kD' K ρ.k), ("_circuit", cD ρ.k.c), ("_rows", .lst (ρ.rows.map bT)), ("_edges", .lst (ρ.x.es.map isD))])) (.dat (cD ρ.k.c)) s8 s9) (ec_fld (d := .lst (ρ.x.es.map isD)) G.cls_ClockedRun G.na_ClockedRun__edges rfl (ev_fL (ev_lcX ρ.x.es isD isD (it_list (ev_var rfl)) (by omega) fun i e he => ⟨_, _, tg_name, fun _ h => h, ev_fL (ev_listL (ev_bL (ev_var rfl)))⟩)) (by show 3 < 1000; decide) rfl) ?_
  rintro _ rfl
  refine ech_seq (M := fun Γ => Γ = cg K ρ (.slf a (.ins (He.ga K "ClockedRun") [("_clocked", kD' K ρ.k), ("_circuit", cD ρ.k.c), ("_rows", .lst (ρ.rows.map bT)), ("_edges", .lst (ρ.x.es.map isD)), ("_shakes", .lst (ρ.x.sh.map bsD))])) (.dat (cD ρ.k.c)) s8 s9) (ec_fld (d := .lst (ρ.x.sh.map bsD)) G.cls_ClockedRun G.na_ClockedRun__shakes rfl (ev_fL (ev_lcX ρ.x.sh bsD bsD (it_list (ev_var rfl)) (by omega) fun i e he => ⟨_, _, tg_name, fun _ h => h, ev_fL (ev_listL (ev_bL (ev_var rfl)))⟩)) (by show 4 < 1000; decide) rfl) ?_
  rintro _ rfl
  refine ech_seq (M := fun Γ => ∃ pk, Γ = cg K ρ (.slf a (.ins (He.ga K "ClockedRun") [("_clocked", kD' K ρ.k), ("_circuit", cD ρ.k.c), ("_rows", .lst (ρ.rows.map bT)), ("_edges", .lst (ρ.x.es.map isD)), ("_shakes", .lst (ρ.x.sh.map bsD)), ("_places", .dic pk)])) (.dat (cD ρ.k.c)) s8 s9 ∧ ∀ (i : Nat) (n : Str), (src ρ.k.c)[i]? = some n → lk pk (.inr n) = some (.int i))
    (ec_fldR (R := fun d => ∃ pk, d = .dic pk ∧ ∀ (i : Nat) (n : Str), (src ρ.k.c)[i]? = some n → lk pk (.inr n) = some (.int i)) G.cls_ClockedRun G.na_ClockedRun__places rfl ((ev_dcX (src ρ.k.c) (fun i n => .tup [.int i, .str n]) (fun _ n => .inr n) (fun i _ => .int i) (it_enum (b := true) (ds := (src ρ.k.c).map .str) (ea_1 (ev_fL (evf_call (⟨ρ.k.c, wf.sz⟩ : A_sz) (ea_1 (ev_var rfl)) rfl)))) enum_at (by rw [enumD_len, List.length_map]) (by omega) fun i n hn => ⟨_, _, tg_tup (tgs_cons tg_name (tgs_cons tg_name tgs_nil)) rfl, fun _ h => h, ev_var rfl, ev_var rfl⟩).fz ?_) (by show 5 < 1000; decide) ?_) ?_
  · rintro s ⟨out, rfl, ho, _, h2⟩
    refine .inr ⟨_, rfl, _, rfl, out, rfl, fun i n hi => h2 i n hi fun j y hij hy e => ?_⟩
    rw [Sum.inr.inj e] at hy
    have := (List.getElem?_inj (List.getElem?_eq_some_iff.mp hi).1 (nd_src wf.nd)).mp (hi.trans hy.symm)
    omega
  · rintro d ⟨pk, rfl, h⟩
    exact ⟨pk, rfl, h⟩
  rintro _ ⟨pk, rfl, hpk⟩
  intro σ1 F1 H1 k1 Z1 n1
  generalize hfs : ([("_clocked", kD' K ρ.k), ("_circuit", cD ρ.k.c), ("_rows", .lst (ρ.rows.map bT)), ("_edges", .lst (ρ.x.es.map isD)), ("_shakes", .lst (ρ.x.sh.map bsD)), ("_places", .dic pk)] : List (Str × D)) = fs at k1
  have hs8 : ∀ x y, ptF "_tracker" y (ptF "_stored" x fs) = rnF K ρ pk x y := fun x y => by rw [← hfs]; rfl
  have hfl : fs.length = 6 := by rw [← hfs]; rfl
  -- the boxes
  refine seq_fld ?_
  refine ev_box (W := wd0 F0 H0) (Γ := cg K ρ (.slf a (.ins (He.ga K "ClockedRun") fs)) (.dat (cD ρ.k.c)) s8 s9) (ρ.k.c.regs.map (·.ini)) (by rw [List.length_map]; omega) (by show 10 < 13; decide) (it_tup (evf_call (args := fun x : A_sz => [.dat (cD x.1)]) (res := fun x : A_sz => .dat (.tup ((x.1.regs.map (·.ini)).map .bl))) (⟨ρ.k.c, wf.sz⟩ : A_sz) (ea_1 (ev_var (i := 7) rfl)) rfl)) σ1 F1 H1 k1 _ fun l so F2 H2 g2 hl0 hlF hlH hlso bx => ?_
  obtain ⟨hsa0, ha0, fa1, dx1, xs1, ea1, _⟩ := k1.sl 0 _ rfl
  have aso : a ∉ so := fun z => by rw [(bx.h0 a z).1] at ea1; cases ea1
  have gl := g2.frz k1.ok hl0 hlF hlH
  have k2 := k1.gr gl
  obtain ⟨_, _, _, dx, xs, ea, rf⟩ := k2.sl 0 _ rfl
  refine ⟨.ref a, hsa0, a, _, dx, xs, rfl, ea, G.cls_ClockedRun, G.na_ClockedRun__stored, by rw [rf.length, hfl]; decide, ?_⟩
  have rl : Rep (upd F2 l (.lst (so.map V.ref))) (.ref l) (.lst (so.map .adr)) := .lst upd_same (reps_adr so)
  have k3 := k2.putA (i := 0) (o' := .ins (He.ga K "ClockedRun") (ptF "_stored" (.lst (so.map .adr)) fs)) rfl ⟨dx, _, upd_same, rf.put rl⟩
  have bx3 : Bxs (wd0 F0 H0) H1 (upd F2 l (.lst (so.map V.ref))) (upd H2 a (.ins (He.ga K "ClockedRun") dx (putF "_stored" (.ref l) xs))) so (ρ.k.c.regs.map (·.ini)) := Bxs.upd ⟨bx.len, bx.nd, bx.at_, fun s hs => by
    obtain ⟨p1, p2, p3⟩ := bx.h0 s hs
    exact ⟨p1, by rw [upd_ne (fun e => hlso (by rw [← e]; exact hs))]; exact p2, p3⟩⟩ aso
  generalize hF3 : upd F2 l (.lst (so.map V.ref)) = F3 at k3 bx3 rl
  generalize hH3 : upd H2 a (.ins (He.ga K "ClockedRun") dx (putF "_stored" (.ref l) xs)) = H3 at k3 bx3
  -- the tracker
  refine seq_fld ?_
  refine make_run (p := p_Tracker_init P w K) (W := wd0 F0 H0) (Γ := cg K ρ (.slf a (.ins (He.ga K "ClockedRun") (ptF "_stored" (.lst (so.map .adr)) fs))) (.dat (cD ρ.k.c)) s8 s9) (⟨(ρ.k.c, ρ.x.dl, a), wf, h.d.ok⟩ : A_ti) (ea_cons (ev_var rfl) (ea_cons (ev_var rfl) (ea_1 (ev_slf rfl)))) rfl σ1 F3 H3 k3 _ fun t F4 H4 F5 H5 g4 g5 ht4 out => ?_
  obtain ⟨dk, kn, hdk, ft, ⟨dxt, xst, et', rt⟩, kna, ht0, kn0, fkn, hkn⟩ := out
  have g45 : Gr (wd0 F0 H0) F3 H3 F5 H5 := g4.trans (gr0_of g4.ok g5)
  have ht3 : H3 t = none := g4.no ht4
  have hkn3 : H3 kn = none := g4.no kn0
  have gt := g45.frz k3.ok ht3 ft et'
  have k6 := k3.gr gt
  obtain ⟨_, _, _, dx6, xs6, ea6, rf6⟩ := k6.sl 0 _ rfl
  refine ⟨.ref a, hsa0, a, _, dx6, xs6, rfl, ea6, G.cls_ClockedRun, G.na_ClockedRun__tracker, by rw [rf6.length]; have := lt_ptF (f := "_stored") (d := .lst (so.map .adr)) (show fs.length < 7 by omega); omega, ?_⟩
  have rt6 : Rep (upd F5 t (.ins (He.ga K "Tracker") dxt xst)) (.ref t) (.ins (He.ga K "Tracker") (tkL ρ.k.c ρ.x.dl a dk kn)) := .ins upd_same (rt.mono (Le.new (Le.refl _) ft))
  have k7 := k6.putA (i := 0) (o' := .ins (He.ga K "ClockedRun") (ptF "_tracker" (.ins (He.ga K "Tracker") (tkL ρ.k.c ρ.x.dl a dk kn)) (ptF "_stored" (.lst (so.map .adr)) fs))) rfl ⟨dx6, _, upd_same, rf6.put rt6⟩
  rw [hs8] at k7
  have hso3 : ∀ s ∈ so, ∃ o, H3 s = some o := fun s hs => (bx3.h0 s hs).2.2
  have tso : t ∉ so := fun z => by obtain ⟨o, e⟩ := hso3 t z; rw [ht3] at e; cases e
  have knso : kn ∉ so := fun z => by obtain ⟨o, e⟩ := hso3 kn z; rw [hkn3] at e; cases e
  have kna' : kn ≠ a := fun e => by
    obtain ⟨_, _, _, _, _, e3, _⟩ := k3.sl 0 _ rfl
    rw [e, e3] at hkn3; cases hkn3
  have bx5 := bx3.gr g45 fun _ _ h => h
  have bx6 : Bxs (wd0 F0 H0) H1 (upd F5 t (.ins (He.ga K "Tracker") dxt xst)) (upd H5 a (.ins (He.ga K "ClockedRun") dx6 (putF "_tracker" (.ref t) xs6))) so (ρ.k.c.regs.map (·.ini)) := Bxs.upd ⟨bx5.len, bx5.nd, bx5.at_, fun s hs => by
    obtain ⟨p1, p2, p3⟩ := bx5.h0 s hs
    exact ⟨p1, by rw [upd_ne (fun e => tso (by rw [← e]; exact hs))]; exact p2, p3⟩⟩ aso
  have hkn6 : upd H5 a (.ins (He.ga K "ClockedRun") dx6 (putF "_tracker" (.ref t) xs6)) kn = some (NDo P w kn []) := by rw [upd_ne kna']; exact hkn
  have fkn6 : upd F5 t (.ins (He.ga K "Tracker") dxt xst) kn = none := by rw [upd_ne kna]; exact fkn
  generalize hF6 : upd F5 t (.ins (He.ga K "Tracker") dxt xst) = F6 at k7 bx6 fkn6 rt6
  generalize hH6 : upd H5 a (.ins (He.ga K "ClockedRun") dx6 (putF "_tracker" (.ref t) xs6)) = H6 at k7 bx6 hkn6
  -- the run itself is frozen
  obtain ⟨_, ha00, fa6, dx7, xs7, ea7, rf7⟩ := k7.sl 0 _ rfl
  obtain ⟨F7, k8, l7, a', hsa', hF7⟩ := k7.frzS (i := 0) rfl rfl
  rw [hsa0] at hsa'
  cases hsa'
  have hF7 := hF7 _ ea7
  subst hF7
  have r7 : Rep (upd F6 a (.ins (He.ga K "ClockedRun") dx7 xs7)) (.ref a) (.ins (He.ga K "ClockedRun") (rnF K ρ pk (.lst (so.map .adr)) (.ins (He.ga K "Tracker") (tkL ρ.k.c ρ.x.dl a dk kn)))) := .ins upd_same (rf7.mono l7)
  have fso7 : ∀ s ∈ so, upd F6 a (.ins (He.ga K "ClockedRun") dx7 xs7) s = none := fun s hs => by rw [upd_ne (fun e => aso (by rw [← e]; exact hs))]; exact (bx6.h0 s hs).2.1
  have fkn7 : upd F6 a (.ins (He.ga K "ClockedRun") dx7 xs7) kn = none := by rw [upd_ne kna']; exact fkn6
  generalize hF7 : upd F6 a (.ins (He.ga K "ClockedRun") dx7 xs7) = F7 at k8 r7 fso7 fkn7
  refine drop_of ?_
  refine ⟨.ref a, hsa0, a, dx7, xs7, rfl, ea7, rf7.lookN rfl, ?_⟩
  refine (ea_1 (ev_fL (ev_lcX ρ.x.gu bsD bsD (it_list (ev_var (i := 5) rfl)) (by omega) fun i e he => ⟨_, _, tg_name, fun _ h => h, ev_fL (ev_listL (ev_bL (ev_var rfl)))⟩)) : EvAE (wd0 F0 H0) _ (cg K ρ (.dat (.ins (He.ga K "ClockedRun") (rnF K ρ pk (.lst (so.map .adr)) (.ins (He.ga K "Tracker") (tkL ρ.k.c ρ.x.dl a dk kn))))) (.dat (cD ρ.k.c)) s8 s9) [.dat (.lst (ρ.x.gu.map bsD))]) σ1 F7 H6 k8 _ fun vs F8 H8 g8 z8 => ?_
  obtain ⟨gv, rfl, rg⟩ := one_dat z8
  obtain ⟨rk, hrk⟩ := wf.rank
  have bx8 : ∀ (i : Nat) (s : Addr), so[i]? = some s → ∃ b, (ρ.k.c.regs.map (·.ini))[i]? = some b ∧ H8 s = some (.lst [.bl b]) := fun i s hs => by
    have hil := (List.getElem?_eq_some_iff.mp hs).1
    rw [bx6.len] at hil
    exact ⟨_, List.getElem?_eq_getElem hil, g8.kp s _ (bx6.at_ i s _ hs (List.getElem?_eq_getElem hil)) fun h => h⟩
  have hso6 : ∀ s ∈ so, ∃ o, H6 s = some o := fun s hs => (bx6.h0 s hs).2.2
  have raok : RaOk ⟨ρ, pk, dk, rk, a, kn, so⟩ := ⟨h, hpk, hdk, hrk, by rw [bx6.len, List.length_map], bx6.nd, knso⟩
  have r8 := r7.mono g8.ff
  have sok : Sok (raW P w K ⟨ρ, pk, dk, rk, a, kn, so⟩ (fun _ => 1) F8 H8) F8 H8 := by
    refine ⟨g8.ok.le, fun b m => ?_, fun b m => ?_, r8, ⟨[], g8.kp kn _ hkn6 fun h => h, ⟨List.nodup_nil, (fun _ h => nomatch h), fun _ _ _ h => nomatch h⟩⟩, fun i s hs => ?_⟩
    · rcases m with e | e
      · rw [e]; exact g8.out fkn7 hkn6
      · obtain ⟨o, eo⟩ := hso6 b e
        exact g8.out (fso7 b e) eo
    · rcases m with e | e
      · rw [e, g8.kp kn _ hkn6 fun h => h]; exact fun z => nomatch z
      · obtain ⟨o, eo⟩ := hso6 b e
        rw [g8.kp b o eo fun h => h]; exact fun z => nomatch z
    · obtain ⟨b, hb, e⟩ := bx8 i s hs
      refine ⟨[b], e, rfl, fun m v hm => ?_⟩
      have m0 : m = 0 := by
        have := (List.getElem?_eq_some_iff.mp hm).1
        simp at this
        omega
      subst m0
      cases hm
      show (ρ.S 0)[i]? = some b
      rw [h.S0]
      exact hb
  refine ⟨⟨ρ, pk, dk, rk, a, kn, so⟩, F8, .ref a, gv, raok, sok, rfl, r8, rg, fun F9 H9 gr st => ?_⟩
  have gb : Gr (wd0 F0 H0) F0 H0 F9 H9 := gr_back (W := wd0 F0 H0) (W2 := raW0 ⟨ρ, pk, dk, rk, a, kn, so⟩ F8 H8) (fun _ h => h) (fun _ _ => trivial) (k8.g.trans g8) (fun b m => by
    rcases m with e | e
    · rw [e]; exact k3.g.no hkn3
    · exact k1.g.no (bx.h0 b e).1) gr
  have h9 : ∀ (i : Nat) (s : Addr), so[i]? = some s → ∃ b : List Bool, H9 s = some (.lst (b.map V.bl)) ∧ b.length = ρ.rows.length + 1 ∧ ∀ m v, b[m]? = some v → (ρ.S m)[i]? = some v := st
  obtain ⟨F10, g10, l10, e10⟩ := frz_all k8.s0 gb bx6.nd fun s hs => by
    obtain ⟨i, hi⟩ := List.mem_iff_getElem?.mp hs
    obtain ⟨b, e, _⟩ := h9 i s hi
    exact ⟨k1.g.no (bx.h0 s hs).1, gr.ok.mf s (.inr hs), _, e⟩
  obtain ⟨sts, hsl2, hst⟩ := choose_list (so := so) h9
  have sol : so.length = ρ.k.c.regs.length := raok.sol
  refine n1 (List.replicate 13 .no) σ1 F10 H9 ⟨k8.s0, g10, k8.len, fun i s e => ?_, fun i _ _ ⟨s, e, hs⟩ => ?_⟩ (((k1.g.ff.trans (Le.refl _)).trans (Le.refl _)) |> fun _ => gl.ff.trans ((hF3 ▸ Le.refl _ : Le (upd F2 l (.lst (so.map V.ref))) F3).trans (gt.ff.trans ((hF6 ▸ Le.refl _ : Le _ F6).trans ((hF7 ▸ l7 : Le F6 F7).trans (g8.ff.trans (gr.ff.trans l10))))))) ?_
  · rw [List.getElem?_replicate] at e
    split at e
    · cases e; trivial
    · cases e
  · rw [List.getElem?_replicate] at e
    split at e
    · cases e; exact absurd rfl hs
    · cases e
  · refine ⟨pk, sts, .ins (He.ga K "Tracker") (tkL ρ.k.c ρ.x.dl a dk kn), ?_, ⟨by rw [hsl2, sol], fun j b hb => ?_⟩⟩
    · have r10 := (r8.mono gr.ff).mono l10
      cases r10 with
      | ins e rr =>
        refine .ins e ?_
        cases rr with | cons a1 rr => cases rr with | cons a2 rr => cases rr with | cons a3 rr => cases rr with | cons a4 rr => cases rr with | cons a5 rr => cases rr with | cons a6 rr => cases rr with | cons a7 rr => cases rr with | cons a8 rr =>
        refine .cons a1 (.cons a2 (.cons a3 (.cons a4 (.cons a5 (.cons a6 (.cons ?_ (.cons a8 rr)))))))
        cases a7 with
        | lst e7 r7' =>
          refine .lst e7 ?_
          rw [adr_reps r7']
          refine boxes_rep hsl2 fun i s b hs hb => ?_
          obtain ⟨b', hb', e', _⟩ := hst i s hs
          rw [hb] at hb'
          cases hb'
          rw [e10 s (List.mem_of_getElem? hs)]
          exact e'
    · have hjl := (List.getElem?_eq_some_iff.mp hb).1
      obtain ⟨b', hb', _, e2, e3⟩ := hst j so[j] (List.getElem?_eq_getElem (by omega))
      rw [hb] at hb'
      cases hb'
      exact ⟨e2, e3⟩
end Sg
/-! Mth9: what is drawn fits what is asked. -/
namespace Sg
open PySem L2 Dn
section
variable {α : Type}
theorem isum_bd {f : α → Int} {B : Int} : ∀ {l : List α}, (∀ x ∈ l, f x ≤ B) → (l.map f).sum ≤ B * l.length
  | [], _ => by simp
  | x :: l, h => by
    rw [List.map_cons, List.sum_cons, List.length_cons]
    have h1 := h x (List.mem_cons_self ..)
    have h2 := isum_bd (l := l) fun y hy => h y (List.mem_cons_of_mem _ hy)
    rw [show ((l.length + 1 : Nat) : Int) = (l.length : Int) + 1 by omega, Int.mul_add, Int.mul_one]
    omega
theorem mul_bd {B : Int} {n m : Nat} (hB : 0 ≤ B) (h : n ≤ m) : B * (n : Int) ≤ B * m := Int.mul_le_mul_of_nonneg_left (by omega) hB
end
section
variable {c : Circ} {hs : Hs}
theorem wid4 (hc : GenC c) : wid c ≤ 4 := by
  have nn : c.regs.map (fun r => r.e1 - r.e0) ≠ [] := fun e => hc.wf.r1 (List.map_eq_nil_iff.mp e)
  obtain ⟨r, hr, e⟩ := List.mem_map.mp (maxI_mem nn)
  have t := hc.tm r hr
  have := t.e0
  have := t.e2
  have e : r.e1 - r.e0 = wid c := e
  omega
theorem T0_bd (hc : GenC c) (hl : hs.length = c.ins.length) (hh : ∀ q ∈ hs, HoldOk q) : wid c + 1 ≤ T0 c hs ∧ T0 c hs ≤ 300 := by
  have w := hc.wf
  have w0 := wid_nn w
  have w4 := wid4 hc
  have r1 := isum_bd (l := c.regs) (f := fun r => r.e1 + r.o1 + r.su + 1) (B := 15) fun r hr => by
    have t := hc.tm r hr
    have := t.e2
    have := t.o2
    have := t.su
    omega
  have r0 := isum_nn (f := fun r : Reg => r.e1 + r.o1 + r.su + 1) (reg_nn w)
  have r3 := mul_bd (B := 15) (by decide) w.r
  have g1 := isum_bd (l := c.gates) (f := fun g => (g.rng.map fun p => p.2).sum) (B := 30) fun g hg => by
    have := isum_bd (l := g.rng) (f := fun p : Int × Int => p.2) (B := 10) fun q hq => (hc.span g hg q hq).2.2
    have ok := w.gate g hg
    have := mul_bd (B := 10) (by decide) (show g.rng.length ≤ 3 by rw [ok.rng]; exact ok.pins)
    omega
  have g0 := isum_nn (l := c.gates) (f := fun g => (g.rng.map fun p => p.2).sum) fun g hg => isum_nn (rng_nn w hg)
  have g3 := mul_bd (B := 30) (by decide) w.g
  have h1 := isum_bd (l := hs) (f := fun p => ab p.1 + ab p.2) (B := 18) fun q hq => by
    have h := hh q hq
    have := h.a
    have := h.b
    have := h.c
    have := h.d
    unfold ab
    split <;> split <;> omega
  have h0 := isum_nn (f := fun p : Int × Int => ab p.1 + ab p.2) (l := hs) hs_nn
  have h3 := mul_bd (B := 18) (by decide) (show hs.length ≤ 2 by rw [hl]; exact w.i)
  unfold T0
  rw [isum_flat]
  omega
theorem gen_lp (hc : GenC c) (hl : hs.length = c.ins.length) (hh : ∀ q ∈ hs, HoldOk q) : LpOk c hs := by
  have w := hc.wf
  have w0 := wid_nn w
  obtain ⟨b1, b2⟩ := T0_bd hc hl hh
  have he := hi0_eq (c := c) (hs := hs)
  have h3 := w.r
  have m1 : 0 ≤ T0 c hs * (c.regs.length + 1 : Int) := Int.mul_nonneg (by omega) (by omega)
  have m2 : T0 c hs * (c.regs.length + 1 : Int) ≤ T0 c hs * 4 := Int.mul_le_mul_of_nonneg_left (by omega) (by omega)
  exact ⟨w, hl, fun q hq => (hh q hq).a, by omega, by omega⟩
theorem win_bd (hc : GenC c) (hh : ∀ q ∈ hs, HoldOk q) {T : Int} {i : Nat} {x : Int × Int} (h : (wins ⟨c, T, hs⟩)[i]? = some x) : x.1 ≤ 12 ∧ T - 2 ≤ x.2 := by
  unfold wins at h
  dsimp only at h
  by_cases q : i < hs.length
  · rw [List.getElem?_append_left (by rw [List.length_map]; exact q), List.getElem?_map] at h
    cases e : hs[i]? with
    | none => rw [e] at h; cases h
    | some p =>
      rw [e] at h
      cases h
      have hp := hh p (List.mem_of_getElem? e)
      have := hp.b
      have := hp.c
      have := hp.d
      exact ⟨by dsimp only; omega, by dsimp only; omega⟩
  · rw [List.getElem?_append_right (by rw [List.length_map]; omega), List.length_map, List.getElem?_map] at h
    cases e : c.regs[i - hs.length]? with
    | none => rw [e] at h; cases h
    | some r =>
      rw [e] at h
      cases h
      have t := hc.tm r (List.mem_of_getElem? e)
      have := t.e2
      have := t.o2
      have := t.e0
      have := t.o0
      exact ⟨by dsimp only; omega, by dsimp only; omega⟩
theorem gen_bnd (hc : GenC c) (hh : ∀ q ∈ hs, HoldOk q) {T : Int} (hT : 1 ≤ T) : Bnd ⟨c, T, hs⟩ := by
  refine ⟨fun x hx => ?_, fun r hr => Int.le_trans (hc.tm r hr).e2 (by decide)⟩
  cases x with
  | su i r m =>
    obtain ⟨s, g, w, v, e1, e2, e3, lv, e⟩ := hx
    obtain ⟨a, b, p, ev⟩ := lv.ex
    have ev : v = b := ev
    have := p.le500 hc.wf
    have wb := win_bd hc hh e3
    have t := hc.tm g (List.mem_of_getElem? e2)
    have := t.e0
    have := t.su
    show -9350 ≤ m
    dsimp only at e
    omega
  | ho i r m =>
    obtain ⟨s, g, w, v, e1, e2, e3, lv, e⟩ := hx
    obtain ⟨a, b, p, ev⟩ := lv.ex
    have ev : v = -a := ev
    have := p.nonneg hc.wf
    have wb := win_bd hc hh e3
    have t := hc.tm g (List.mem_of_getElem? e2)
    have := t.e2
    have := t.ho
    show -9350 ≤ m
    dsimp only at e
    omega
  | fl r => show (-9350 : Int) ≤ 0; decide
theorem wins_T {T T' : Int} {i : Nat} {x : Int × Int} (h : (wins ⟨c, T, hs⟩)[i]? = some x) : (wins ⟨c, T', hs⟩)[i]? = some (x.1, x.2 - T + T') := by
  unfold wins at h ⊢
  dsimp only at h ⊢
  by_cases q : i < hs.length
  · rw [List.getElem?_append_left (by rw [List.length_map]; exact q), List.getElem?_map] at h ⊢
    cases e : hs[i]? with
    | none => rw [e] at h; cases h
    | some p =>
      rw [e] at h
      cases h
      show some (p.1, T' + p.2) = some (p.1, T + p.2 - T + T')
      rw [show T + p.2 - T + T' = T' + p.2 by omega]
  · rw [List.getElem?_append_right (by rw [List.length_map]; omega), List.length_map, List.getElem?_map] at h ⊢
    cases e : c.regs[i - hs.length]? with
    | none => rw [e] at h; cases h
    | some r =>
      rw [e] at h
      cases h
      show some (r.e1 + r.o1, T' + r.e0 + r.o0) = some (r.e1 + r.o1, T + r.e0 + r.o0 - T + T')
      rw [show T + r.e0 + r.o0 - T + T' = T' + r.e0 + r.o0 by omega]
theorem HoC.T {T T' : Int} {i r : Nat} {m : Int} (h : HoC ⟨c, T, hs⟩ i r m) : HoC ⟨c, T', hs⟩ i r m := by
  obtain ⟨s, g, w, v, e1, e2, e3, l, e⟩ := h
  exact ⟨s, g, _, v, e1, e2, wins_T e3, l, by dsimp only at e ⊢; omega⟩
def notSu : Con → Bool
  | .su .. => false
  | _ => true
theorem ho_bd (h : LpOk c hs) {i r : Nat} {m : Int} (hx : HoC ⟨c, 1000, hs⟩ i r m) : -(T0 c hs) ≤ m := by
  obtain ⟨s, g, w, v, e1, e2, e3, lv, e⟩ := hx
  obtain ⟨a, b, p, ev⟩ := lv.ex
  have ev : v = -a := ev
  have pn := p.nonneg h.wf
  have gk := h.wf.reg g (List.mem_of_getElem? e2)
  have r0 := isum_mem (f := fun r : Reg => r.e1 + r.o1 + r.su + 1) (reg_nn h.wf) (List.mem_of_getElem? e2)
  have r0 : g.e1 + g.o1 + g.su + 1 ≤ (c.regs.map fun r => r.e1 + r.o1 + r.su + 1).sum := r0
  have hh := gk.hh
  have su := gk.su
  have wn := wid_nn h.wf
  have g0 := isum_nn (l := c.gates) (f := fun g => (g.rng.map fun p => p.2).sum) fun g hg => isum_nn (rng_nn h.wf hg)
  have hn := isum_nn (f := fun p : Int × Int => ab p.1 + ab p.2) (l := hs) hs_nn
  unfold T0
  rw [isum_flat]
  dsimp only at e
  unfold wins at e3
  dsimp only at e3
  by_cases q : i < hs.length
  · rw [List.getElem?_append_left (by rw [List.length_map]; exact q), List.getElem?_map] at e3
    cases e4 : hs[i]? with
    | none => rw [e4] at e3; cases e3
    | some p0 =>
      rw [e4] at e3
      cases e3
      have mm := isum_mem (f := fun p : Int × Int => ab p.1 + ab p.2) (l := hs) hs_nn (List.mem_of_getElem? e4)
      have a1 := ab_nn p0.1
      have a2 := ab_nn p0.2
      dsimp only at mm e
      omega
  · rw [List.getElem?_append_right (by rw [List.length_map]; omega), List.length_map, List.getElem?_map] at e3
    cases e4 : c.regs[i - hs.length]? with
    | none => rw [e4] at e3; cases e3
    | some r' =>
      rw [e4] at e3
      cases e3
      have rk := h.wf.reg r' (List.mem_of_getElem? e4)
      have := rk.e0
      have := rk.o0
      dsimp only at e
      omega
theorem lsa_ok (hc : GenC c) (hl : hs.length = c.ins.length) (hh : ∀ q ∈ hs, HoldOk q) {cs : List Con} (h : Cons ⟨c, 1000, hs⟩ cs) : LsaOk ⟨cs.filter notSu, c.ins.length, c.regs.length, T0 c hs⟩ := by
  have lp := gen_lp hc hl hh
  obtain ⟨b1, b2⟩ := T0_bd hc hl hh
  have w0 := wid_nn hc.wf
  have w4 := wid4 hc
  have hk : CkOk ⟨c, 1000, hs⟩ := lp.ck (by omega) (by decide)
  refine ⟨Nat.le_trans (List.length_filter_le ..) h.len, hc.wf.r, by dsimp only; omega, fun x hx => ?_, fun x hx => ?_⟩
  · have := eg_nodes hk ((h.mem x).mp (List.mem_filter.mp hx).1)
    obtain ⟨n1, n2⟩ := this
    rw [mem_nodes] at n1 n2
    exact ⟨by dsimp only at n1 ⊢; omega, by dsimp only at n2 ⊢; omega⟩
  · obtain ⟨h1, h2⟩ := List.mem_filter.mp hx
    have hx := (h.mem x).mp h1
    cases x with
    | su i r m => cases h2
    | ho i r m => exact ho_bd lp hx
    | fl r => show -(T0 c hs) ≤ 0; omega
theorem lsa_no (hc : GenC c) (hl : hs.length = c.ins.length) (hh : ∀ q ∈ hs, HoldOk q) {cs : List Con} (h : Cons ⟨c, 1000, hs⟩ cs) (hn : NoF ⟨c, hi0 c hs, hs⟩) {l : List Int} (hb : InB c.regs.length (T0 c hs * (c.regs.length + 1 : Int)) l) (hx : ∀ x ∈ cs.filter notSu, brk c.ins.length l x = false) : False := by
  have lp := gen_lp hc hl hh
  obtain ⟨b1, b2⟩ := T0_bd hc hl hh
  have w0 := wid_nn hc.wf
  have B0 : 0 ≤ T0 c hs * (c.regs.length + 1 : Int) := Int.mul_nonneg (by omega) (by omega)
  refine none_no lp (p := vl l) rfl (fun v _ => hb.vl B0) (fun i j m hm => ?_) hn
  have := hx (.ho i j m) (List.mem_filter.mpr ⟨(h.mem _).mpr (show HoC ⟨c, 1000, hs⟩ i j m from hm.T), rfl⟩)
  have := of_decide_eq_false this
  show vl l _ - vl l _ ≤ _
  omega
end
/-! ### the run of the shifted circuit -/
def shE (es : List (List Int)) (l : List Int) : List (List Int) := (List.range es.length).map fun r => (es.getD r []).map fun d => d + l.getD r 0
theorem zip_f {β : Type} {f : Reg → β} (hf : ∀ r s, f (shR r s) = f r) : ∀ {rs : List Reg} {l : List Int}, l.length = rs.length → (List.zipWith shR rs l).map f = rs.map f
  | [], [], _ => rfl
  | r :: rs, s :: l, h => by
    rw [List.zipWith_cons_cons, List.map_cons, List.map_cons, zip_f hf (Nat.succ.inj h), hf]
noncomputable def rnOf (k : Ck) (l : List Int) (rows : List (List Bool)) (x : Chc) : Rn := ⟨shK k l, rows, ⟨shE x.es l, x.sh, x.gu, x.dl⟩, Vc k.c rows, tr k.c rows⟩
theorem rn_ok {c : Circ} {hs : Hs} (hc : GenC c) (hl : hs.length = c.ins.length) (hh : ∀ q ∈ hs, HoldOk q) {T : Int} {σ : Int → Int} (ht : LpT c hs T σ) {rows : List (List Bool)} (h4 : rows.length ≤ 4) (hr : ∀ row ∈ rows, row.length = c.ins.length) {x : Chc} (hx : ChOk c x) : RnOk (rnOf ⟨c, T, hs⟩ (shL c σ) rows x) := by
  have lp := gen_lp hc hl hh
  have hk := lp.ck ht.lo (Int.le_trans ht.hi lp.hi)
  have bn := gen_bnd hc hh (T := T) (by have := wid_nn hc.wf; have := ht.lo; omega)
  have sok := shOk hk bn ht.fnd
  have sl : (shL c σ).length = c.regs.length := shL_len _ _
  have rl : (shC c (shL c σ)).regs.length = c.regs.length := shC_len sl
  have sr : src (shC c (shL c σ)) = src c := shC_src sl
  refine ⟨sok.ok2, clean hk bn ht.fnd, h4, hr, ?_, fun j r e hj he => ?_, ?_, hx.s, ?_, hx.g, ⟨⟨hx.d.ok.len, hx.d.ok.row⟩, hx.d.small⟩, fun cy row hrow => ?_, ?_, fun cy hcy => ?_, fun cy _ => ?_⟩
  · show (shE x.es (shL c σ)).length = (shC c (shL c σ)).regs.length
    unfold shE
    rw [List.length_map, List.length_range, hx.el, rl]
  · have hj : (shC c (shL c σ)).regs[j]? = some r := hj
    have he : (shE x.es (shL c σ))[j]? = some e := he
    obtain ⟨r0, s, q1, q2, rfl⟩ := shC_regs_get sl hj
    have hjl := (List.getElem?_eq_some_iff.mp q1).1
    have e0 : x.es[j]? = some (x.es[j]'(by rw [hx.el]; exact hjl)) := List.getElem?_eq_getElem _
    generalize x.es[j]'(by rw [hx.el]; exact hjl) = e1 at e0
    obtain ⟨n1, d1⟩ := hx.e j r0 e1 q1 e0
    unfold shE at he
    rw [List.getElem?_map, List.getElem?_range (by rw [hx.el]; exact hjl)] at he
    have he : e = (x.es.getD j []).map fun d => d + (shL c σ).getD j 0 := (Option.some.inj he).symm
    rw [show x.es.getD j [] = e1 by rw [List.getD_eq_getElem?_getD, e0]; rfl, show (shL c σ).getD j 0 = s by rw [List.getD_eq_getElem?_getD, q2]; rfl] at he
    subst he
    refine ⟨by rw [List.length_map]; exact n1, fun d hd => ?_⟩
    obtain ⟨d', hd', rfl⟩ := List.mem_map.mp hd
    have := d1 d' hd'
    show r0.e0 + s ≤ d' + s ∧ d' + s ≤ r0.e1 + s
    omega
  · show x.sh.length = (src (shC c (shL c σ))).length
    rw [sr]; exact hx.sl
  · show x.gu.length = (shC c (shL c σ)).regs.length
    rw [rl]; exact hx.gl
  · have s := Vc_sol (rows := rows) (k := cy) hc.wf hrow (hr row (List.mem_of_getElem? hrow))
    exact ⟨fun i n hn => s.s i n (by rw [← sr]; exact hn), s.g⟩
  · show tr c rows 0 = (shC c (shL c σ)).regs.map (·.ini)
    exact (zip_f (f := fun r => r.ini) (fun _ _ => rfl) sl).symm
  · show tr c rows (cy + 1) = (shC c (shL c σ)).regs.map fun r => Vc c rows cy r.net
    exact (zip_f (f := fun r => Vc c rows cy r.net) (fun _ _ => rfl) sl).symm
  · show (tr c rows cy).length = (shC c (shL c σ)).regs.length
    rw [tr_len, rl]
end Sg
/-! W34: the law. -/
namespace Sg
open PySem PySem.Spec PyProof.Rows L2 Dn
variable {P : Program} {w : World} {K : PySem.W.Frag} {mg : Str → Option Value} {base : Heap}
/-- from here on the pool is known by its address; of the other slots nothing is known -/
theorem run_pool {W : Wd} {Γ : List Sl} {σ : L2.St} {F H : Hp} {u : TS} {i : Nat} {ns : List Int} {x : Int} (ko : Ok W Γ σ F H) (hi : Γ[i]? = some (.own (.lst [.lst (ns.map .int), .int 0, .int 0, .int 0, .int x]))) {Z : Ends} (hZ : ∀ H', Z.rt (.bl true) H')
    (h : ∀ p F H, Ec (plW p F H) u ((List.replicate Γ.length .no).set i (.raw (.ref p))) (Po.fn fun s => s = .dat (.bl true))) : u Z σ H := by
  obtain ⟨a, ha, h0, f0, xs, ex, rx⟩ := ko.addr hi
  have J : PoolJ a F H := by
    cases rx with
    | cons r1 rx =>
      cases rx with
      | cons r2 rx =>
        cases rx with
        | cons r3 rx =>
          cases rx with
          | cons r4 rx =>
            cases rx with
            | cons r5 rx =>
              cases rx
              cases r2; cases r3; cases r4; cases r5
              cases r1 with
              | lst e1 r1 =>
                rw [r1.ints] at e1
                exact ⟨_, ns, 0, 0, 0, x, ex, e1, Int.le_refl _⟩
  have s2 : Sok (plW a F H) F H := ⟨ko.ok.le, fun b m => by rw [show b = a from m]; exact f0, fun b m => by rw [show b = a from m, ex]; exact fun z => (nomatch z), J⟩
  have hil := (List.getElem?_eq_some_iff.mp hi).1
  have at_ : ∀ j t, ((List.replicate Γ.length Sl.no).set i (.raw (.ref a)))[j]? = some t → (j = i ∧ t = .raw (.ref a)) ∨ t = .no := fun j t e => by
    by_cases q : i = j
    · subst q
      rw [List.getElem?_set_self (by rw [List.length_replicate]; exact hil)] at e
      cases e
      exact .inl ⟨rfl, rfl⟩
    · rw [List.getElem?_set_ne q, List.getElem?_replicate] at e
      split at e
      · cases e; exact .inr rfl
      · cases e
  have k2 : Ok (plW a F H) ((List.replicate Γ.length .no).set i (.raw (.ref a))) σ F H := by
    refine ok_new (W2 := plW a F H) s2 (by rw [List.length_set, List.length_replicate]; exact ko.len) (List.all_eq_true.mpr fun t ht => ?_) fun j t e => ?_
    · obtain ⟨j, hj⟩ := List.mem_iff_getElem?.mp ht
      rcases at_ j t hj with ⟨_, rfl⟩ | rfl <;> rfl
    · rcases at_ j t e with ⟨rfl, rfl⟩ | rfl
      · exact ha
      · trivial
  exact h a F H σ F H k2 Z (fun Γ' σ' F' H' k' l e => nomatch (show Sl.dat D.non = .dat (.bl true) from e)) (fun v F' H' s g nb e z => by
    have e : s = .dat (.bl true) := e
    subst e
    cases (show Rep F' v (.bl true) from z)
    exact hZ H') (fun _ _ _ _ _ _ z => z.elim) fun _ _ _ _ _ _ z => z.elim
/-! the script: a list that the caller holds -/
def scJ (K : PySem.W.Frag) (a : Addr) (ns : List Int) (rd : Bool) (H : Hp) : Prop := (rd = true ∧ Rd H a (.lst (ns.map V.int))) ∨ (rd = false ∧ ∀ H', SqL K H' a (ns.map V.int))
theorem scJ.sq {a : Addr} {ns : List Int} {rd : Bool} {H : Hp} (h : scJ K a ns rd H) : SqL K H a (ns.map V.int) := by
  rcases h with ⟨_, h⟩ | ⟨_, h⟩
  · exact .inl h
  · exact h H
theorem scJ.st {a : Addr} {ns : List Int} {rd : Bool} {H H' : Hp} (h : scJ K a ns rd H) (e : ∀ b, b = a ∧ rd = true → H' b = H b) : scJ K a ns rd H' := by
  rcases h with ⟨q, h⟩ | ⟨q, h⟩
  · refine .inl ⟨q, ?_⟩
    unfold Rd at h ⊢
    rw [e a ⟨rfl, q⟩]
    exact h
  · exact .inr ⟨q, h⟩
structure ScA where
  a : Addr
  ns : List Int
  rd : Bool
def p2_pool (K : PySem.W.Frag) : Prm ScA := ⟨fun x b => b = x.a ∧ x.rd = true, fun x _ H => scJ K x.a x.ns x.rd H, fun x {_ _ _ _} h _ e => h.st e, fun x => [.raw (.ref x.a)], fun x s => ∃ v : Int, s = .own (.lst [.lst (x.ns.map .int), .int 0, .int 0, .int 0, .int v])⟩
theorem ints_rep {F : Hp} : ∀ ns : List Int, Reps F (ns.map V.int) (ns.map D.int)
  | [] => .nil
  | i :: ns => .cons (.int i) (ints_rep ns)
theorem ev_slS {W : Wd} {Γ : List Sl} {te : TE} {tl th : TO} {a : Addr} {ns : List Int} {lo hi : Option Int} (hJ : ∀ F H, Sok W F H → SqL K H a (ns.map V.int)) (h : EvE W te Γ (.raw (.ref a))) (h1 : Dn.EvO W tl Γ lo) (h2 : Dn.EvO W th Γ hi) :
    EvE W (tSl (rSlL K) te tl th) Γ (.own (.lst (((ns.map D.int).drop (HT.sIx (ns.map D.int).length 0 lo)).take (HT.sIx (ns.map D.int).length (ns.map D.int).length hi - HT.sIx (ns.map D.int).length 0 lo)))) := fun σ F H k Q q =>
  h σ F H k _ fun x F1 H1 g1 z1 => h1 σ F1 H1 (k.gr g1) _ fun F2 H2 g2 => h2 σ F2 H2 ((k.gr g1).gr g2) _ fun F3 H3 g3 => by
    have e : x = .ref a := z1
    subst e
    have gg := (g1.trans g2).trans g3
    refine ⟨a, _, rfl, hJ F3 H3 g3.ok, fun p hp => q _ _ _ (gg.trans (Gr.newO g3.ok hp)) ⟨p, rfl, gg.no hp, g3.ok.le.no hp, _, upd_same, cut_rep (ints_rep ns)⟩⟩
theorem ev_listS {W : Wd} {Γ : List Sl} {te : TE} {a : Addr} {ns : List Int} (hJ : ∀ F H, Sok W F H → SqL K H a (ns.map V.int)) (h : EvE W te Γ (.raw (.ref a))) : EvE W (tCB (rList K) (tCons te tNil)) Γ (.own (.lst (ns.map D.int))) := fun σ F H k Q q =>
  h σ F H k _ fun x F1 H1 g1 z1 => by
    have e : x = .ref a := z1
    subst e
    exact ⟨a, _, rfl, .inl (hJ F1 H1 g1.ok), fun l hl => q _ _ _ (g1.trans (Gr.newO g1.ok hl)) ⟨l, rfl, g1.no hl, g1.ok.le.no hl, _, upd_same, ints_rep ns⟩⟩
theorem cal2_pool (G : Gs K mg) : C8.Cal P w K mg base 1 "_law_pool" (p2_pool K).sp [] := by
  refine Prm.cal (p2_pool K) G.d__law_pool G.g__law_pool sc__law_pool (fun _ _ _ _ _ _ us hl => match us, hl with | [_], _ => rfl) (fun _ => rfl) (fun cdv A' outer s H E hr => ⟨_, (PSs.nox (pss_cons (psx 1 sc__law_pool.nd pe_int) (pss_cons (ps_for PassesOwn.never (by rfl) (k_seq (K := K) (pe_slice (k_slL (K := K)) (pvx 0) po_none (po_some pe_int))) (pgx 2 sc__law_pool.nd) (pss_one (psx 1 sc__law_pool.nd (pe_op op_mod (pe_callTy cr_int (by rfl) G.f_int (by decide +kernel) (pa_cons (pe_op (k_plus (K := K)) (pe_op op_times (pvx 1) pe_int) (pvx 2)) pa_nil)) pe_int)))) (pss_one (ps_ret (pe_lst (pa_cons (pe_callTy (k_list (K := K)) (by rfl) G.f_list (by decide +kernel) (pa_cons (pvx 0) pa_nil)) (pa_cons pe_int (pa_cons pe_int (pa_cons pe_int (pa_cons (pvx 1) pa_nil))))))))))), ?_⟩)
  rintro ⟨a, ns, rd⟩ F H
  have hJ : ∀ F1 H1, Sok ((p2_pool K).wd ⟨a, ns, rd⟩ F H) F1 H1 → SqL K H1 a (ns.map V.int) := fun F1 H1 s => (show scJ K a ns rd H1 from s.j).sq
  show Ec _ _ [.raw (.ref a), .no, .no] _
  refine ec_set ev_int ?_
  refine ec_seq (M := fun Γ => ∃ x s2, Γ = [.raw (.ref a), .dat (.int x), s2]) ?_ ?_
  · refine ec_forR (S := fun ds => ∃ ms : List Int, ds = ms.map .int) ((it_list (ev_fL (ev_slS hJ (ev_raw rfl) eo_none (eo_some ev_int)))).imp fun ds e => ?_) (fun _ _ Γ => ∃ x s2, Γ = [.raw (.ref a), .dat (.int x), s2]) (fun _ _ => ⟨_, _, rfl⟩) ?_ fun _ _ _ h => h
    · subst e
      rw [← List.map_drop, ← List.map_take]
      exact ⟨_, rfl⟩
    · rintro ds i d _ ⟨ms, rfl⟩ hd ⟨x, s2, rfl⟩
      obtain ⟨y, _, rfl⟩ := map_get hd
      refine ⟨_, _, tg_name, ?_⟩
      exact ec_asg (ev_bc (ev_intI (ev_add (ev_mul (ev_var rfl) ev_int (.inr ⟨by decide, by decide⟩)) (ev_var rfl))) ev_int (by show (0 : Int) < 1000003; decide)) (fun o h => nomatch h) ⟨_, _, rfl⟩
  · rintro _ ⟨x, s2, rfl⟩
    exact ec_ret (s := .own (.lst [.lst (ns.map .int), .int 0, .int 0, .int 0, .int x])) (ev_lst (ea_cons (ev_fL (ev_listS hJ (ev_raw rfl))) (ea_cons ev_int (ea_cons ev_int (ea_cons ev_int (ea_1 (ev_var rfl)))))) (by simp)) ⟨x, rfl⟩
theorem ev_drawQ {Γ : List Sl} {ta : TE} {p : Addr} {F H : Hp} {m : Int} {q : Nat} (h0 : Γ[q]? = some (.raw (.ref p))) (h : EvE (plW p F H) ta Γ (.dat (.int m))) (h1 : 0 < m) (h2 : m < 1073741824) : Ev (plW p F H) (tCall (p__law_draw K).sp [] C8.E0 (tCons (tVar q) (tCons ta tNil))) Γ (ltN m) :=
  (ev_call (p := p__law_draw K) ((p, ⟨m, h1, h2⟩) : Addr × A_dr) (ea_cons (ev_raw h0) (ea_1 h)) fits_pl rfl).imp fun s h => h.1
theorem ev_run {W : Wd} {Γ : List Sl} {ta tk : TA} {as ks : List Sl} {C : Addr} (x : A_ri) (ha : EvAE W ta Γ as) (hk : EvAE W tk Γ ks) (h2 : as.length = 2) (h4 : ks.length = 4) (e : as ++ ks = (p_ClockedRun_init K).args x) (n : noOw ((p_ClockedRun_init K).args x) = true) : Ev W (tMakeK C 2 4 ((p_ClockedRun_init K).sp C) (fun vs zs => vs ++ zs) C8.E0 ta tk) Γ fun s => ∃ pk st tk, s = .dat ((Rq.mk x.1 pk (stD st) tk).D K) ∧ StF x.1 st := fun σ F H k Q q =>
  ha σ F H k _ fun vs F1 H1 g1 z1 => hk σ F1 H1 (k.gr g1) _ fun zs F2 H2 g2 z2 => by
    refine ⟨z1.length.trans h2, z2.length.trans h4, fun a dx ha hd hne => ?_⟩
    have z : SlVs W H F2 H2 (vs ++ zs) ((p_ClockedRun_init K).args x) := by
      rw [← e]
      exact slvs_app (SlVs.gr k.ok.mh g2 z1) (SlVs.back (fun a => g1.no) z2)
    refine ⟨x, F2, H2, a, dx, vs ++ zs, rfl, rfl, ha, hd, hne, sok0 g2.ok, arg0 (noOw_of n) z, fun F' H' g ⟨pk, st, tk, r, hst⟩ => ⟨rfl, ?_⟩⟩
    exact q _ F' H' _ ((g1.trans g2).trans (gr0_of g2.ok g)) ⟨pk, st, tk, rfl, hst⟩ r
theorem sd_bl : SD 3 (.bl true) := .inl ⟨true, rfl⟩
theorem sd_trs {c : Circ} {rows : List (List Bool)} {n : Nat} (h : n ≤ 10) (h3 : c.regs.length ≤ 3) : SD 3 (.lst (trs c rows n)) := by
  refine .inr ⟨true, _, rfl, by rw [trs_len]; omega, fun x hx => ?_⟩
  unfold trs at hx
  obtain ⟨k, _, rfl⟩ := List.mem_map.mp hx
  refine .inr ⟨false, (tr c rows k).map .bl, rfl, by rw [List.length_map, tr_len]; omega, fun y hy => ?_⟩
  obtain ⟨b, _, rfl⟩ := List.mem_map.mp hy
  exact .inl ⟨b, rfl⟩
def sp_law (K : PySem.W.Frag) : Sp := fun vs H Q _ => ∃ (a : Addr) (ns : List Int), vs = [.ref a] ∧ SqL K H a (ns.map V.int) ∧ ∀ H', Q (.bl true) H'
theorem sc_law : FnScope ["_law_script", "_law_pool_here", "_law_circuit_here", "_law_holds", "_law_told", "_law_clocked", "_law_widest", "_law_rows", "_law_made", "_law_edges", "_law_run", "_law_k", "_law_r", "_law_row", "_law_edge"] ["_law_script"] (defScope (top 84)) := ⟨rfl, rfl, rfl, by decide +kernel, rfl, by decide +kernel, by decide +kernel⟩
theorem fn_law (G : Gs K mg) {fd : FuncData} (FD : FunD K "law" "law" (defArgs (top 84)) (defBody (top 84)) (defScope (top 84)) [] [] (He.ga K "law") fd) : FnOk P w K mg base C8.CX0 24 (He.ga K "law") fd ["_law_script"] (sp_law K) := by
  have c__law_pool := cal2_pool (P := P) (w := w) (base := base) G
  have c__law_circuit := cal__law_circuit (P := P) (w := w) (base := base) G
  have c__law_draw := cal__law_draw (P := P) (w := w) (base := base) G
  have c__law_clock := cal__law_clock (P := P) (w := w) (base := base) G
  have c_least_period := cal_least_period (P := P) (w := w) (base := base) G
  have c__law_constraints := cal__law_constraints (P := P) (w := w) (base := base) G
  have c__law_least_shifts := cal__law_least_shifts (P := P) (w := w) (base := base) G
  have c_shifted := cal_shifted (P := P) (w := w) (base := base) G
  have k_Clocked := mak_Clocked (P := P) (w := w) (base := base) G
  have c__law_same := cal__law_same (P := P) (w := w) (base := base) G 3
  have m_Clocked_is_clean := met_is_clean (P := P) (w := w) (base := base) G
  have c_find_shifts := cal_find_shifts (P := P) (w := w) (base := base) G
  have c__law_vector := cal__law_vector (P := P) (w := w) (base := base) G
  have c__law_choices := cal__law_choices (P := P) (w := w) (base := base) G
  have k_ClockedRun := mak_ClockedRun (P := P) (w := w) (base := base) G
  have m_ClockedRun_state := met_ClockedRun_state (P := P) (w := w) (base := base) G
  have c__law_trace := cal__law_trace (P := P) (w := w) (base := base) G
  refine FD.ok sc_law (fun vs H Q E ⟨a, ns, e, _⟩ => by rw [e]; rfl) fun cdv A' outer s H vs Q E hr h => ⟨_, (PSs.nox (pss_cons (psx 1 sc_law.nd (C8.pe_c c__law_pool hr (by decide) (by rfl) (pa_cons (pvx 0) pa_nil))) (pss_cons (psx 2 sc_law.nd (C8.pe_c c__law_circuit hr (by decide) (by rfl) (pa_cons (pvx 1) (pa_cons (C8.pe_c c__law_draw hr (by decide) (by rfl) (pa_cons (pvx 1) (pa_cons pe_int pa_nil))) (pa_cons (pe_op (k_plus (K := K)) pe_int (C8.pe_c c__law_draw hr (by decide) (by rfl) (pa_cons (pvx 1) (pa_cons pe_int pa_nil)))) (pa_cons pe_int pa_nil)))))) (pss_cons (psx 3 sc_law.nd (C8.pe_c c__law_clock hr (by decide) (by rfl) (pa_cons (pvx 1) (pa_cons (pvx 2) pa_nil)))) (pss_cons (psx 4 sc_law.nd (C8.pe_c c_least_period hr (by decide) (by rfl) (pa_cons (pvx 2) (pa_cons (pvx 3) pa_nil)))) (pss_cons (ps_if (pt_cmp (pc_isN (pvx 4))) (pss_cons (ps_setLc (i := 7) (own := [("_law_row", 13)]) (g := (gName 13)) (by rfl) sc_law.nd (by rfl) (by rfl) (by rfl) (k_seq (K := K) (C8.pe_c c__law_constraints hr (by decide) (by rfl) (pa_cons (pvx 2) (pa_cons pe_int (pa_cons (pvx 3) pa_nil))))) (blkOk_by (by kernel_rfl)) (fun _ _ _ _ _ => (pgx 13 sc_law.nd)) (fun _ _ _ _ _ => (pts_one (pt_cmpR op_ne (pe_ix (k_ix (K := K)) (pvx 13) pe_int (fun _ _ => rfl)) pe_str (nomark _)))) (fun _ _ _ _ _ => (pvx 13))) (pss_one (ps_ret (pe_cmp (pc_isN (C8.pe_c c__law_least_shifts hr (by decide) (by rfl) (pa_cons (pvx 7) (pa_cons (pe_callB (k_len (K := K)) (by rfl) G.f_len (by decide +kernel) (pa_cons (pe_ix (k_ix (K := K)) (pvx 2) pe_int (fun _ _ => rfl)) pa_nil)) (pa_cons (pe_callB (k_len (K := K)) (by rfl) G.f_len (by decide +kernel) (pa_cons (pe_ix (k_ix (K := K)) (pvx 2) pe_int (fun _ _ => rfl)) pa_nil)) pa_nil))))))))) pss_nil) (pss_cons (ps_if (PW.pt (pw_or (pt_not (pt_val (pe_callB (k_isi (K := K)) (by rfl) G.f_isinstance (by decide +kernel) (pa_cons (pvx 4) (pa_cons (pe_bltn (v := .ty "tuple") (by rfl) G.f_tuple (by decide +kernel) rfl) pa_nil))))) (pw_or1 (pt_cmpR op_ne (pe_callB (k_len (K := K)) (by rfl) G.f_len (by decide +kernel) (pa_cons (pvx 4) pa_nil)) pe_int (nomark _))))) (pss_one (ps_ret pe_bl)) pss_nil) (pss_cons (psx 5 sc_law.nd (C8.pe_c c_shifted hr (by decide) (by rfl) (pa_cons (C8.pe_mk k_Clocked hr (by decide) (by rfl) (pa_cons (pvx 2) (pa_cons (pe_ix (k_ix (K := K)) (pvx 4) pe_int (fun _ _ => rfl)) (pa_cons (pvx 3) pa_nil)))) (pa_cons (pe_ix (k_ix (K := K)) (pvx 4) pe_int (fun _ _ => rfl)) pa_nil)))) (pss_cons (ps_if (pt_not (pt_val (C8.pe_c c__law_same hr (by decide) (by rfl) (pa_cons (C8.pe_mt0 m_Clocked_is_clean hr (by decide) (pvx 5)) (pa_cons pe_bl pa_nil))))) (pss_one (ps_ret pe_bl)) pss_nil) (pss_cons (psx 6 sc_law.nd (pe_callB (k_max (K := K)) (by rfl) G.f_max (by decide +kernel) (pa_cons (pe_lc (own := [("_law_row", 13)]) (g := (gName 13)) (by rfl) sc_law.nd (k_seq (K := K) (pe_ix (k_ix (K := K)) (pvx 2) pe_int (fun _ _ => rfl))) (blkOk_by (by kernel_rfl)) (fun _ _ _ _ _ => (pgx 13 sc_law.nd)) (fun _ _ _ _ _ => pts_nil) (fun _ _ _ _ _ => (pe_op op_sub (pe_ix (k_ix (K := K)) (pe_ix (k_ix (K := K)) (pvx 13) pe_int (fun _ _ => rfl)) pe_int (fun _ _ => rfl)) (pe_ix (k_ix (K := K)) (pe_ix (k_ix (K := K)) (pvx 13) pe_int (fun _ _ => rfl)) pe_int (fun _ _ => rfl))))) pa_nil))) (pss_cons (ps_if (PW.pt (pw_and (pt_cmpR op_gt (pe_ix (k_ix (K := K)) (pvx 4) pe_int (fun _ _ => rfl)) (pe_op (k_plus (K := K)) (pvx 6) pe_int) (nomark _)) (pw_and1 (pt_cmp (pc_notN (C8.pe_c c_find_shifts hr (by decide) (by rfl) (pa_cons (C8.pe_mk k_Clocked hr (by decide) (by rfl) (pa_cons (pvx 2) (pa_cons (pe_op op_sub (pe_ix (k_ix (K := K)) (pvx 4) pe_int (fun _ _ => rfl)) pe_int) (pa_cons (pvx 3) pa_nil)))) pa_nil))))))) (pss_one (ps_ret pe_bl)) pss_nil) (pss_cons (ps_setLc (i := 7) (own := [("_law_k", 11)]) (g := (gName 11)) (by rfl) sc_law.nd (by rfl) (by rfl) (by rfl) (pi_range1 (by rfl) G.f_range (pa_cons (pe_op (k_plus (K := K)) pe_int (C8.pe_c c__law_draw hr (by decide) (by rfl) (pa_cons (pvx 1) (pa_cons pe_int pa_nil)))) pa_nil)) (blkOk_by (by kernel_rfl)) (fun _ _ _ _ _ => (pgx 11 sc_law.nd)) (fun _ _ _ _ _ => pts_nil) (fun _ _ _ _ _ => (C8.pe_c c__law_vector hr (by decide) (by rfl) (pa_cons (pvx 1) (pa_cons (pe_callB (k_len (K := K)) (by rfl) G.f_len (by decide +kernel) (pa_cons (pe_ix (k_ix (K := K)) (pvx 2) pe_int (fun _ _ => rfl)) pa_nil)) pa_nil))))) (pss_cons (psx 8 sc_law.nd (C8.pe_c c__law_choices hr (by decide) (by rfl) (pa_cons (pvx 1) (pa_cons (pvx 2) (pa_cons pe_int pa_nil))))) (pss_cons (ps_setLc (i := 9) (own := [("_law_r", 12)]) (g := (gName 12)) (by rfl) sc_law.nd (by rfl) (by rfl) (by rfl) (pi_range1 (by rfl) G.f_range (pa_cons (pe_callB (k_len (K := K)) (by rfl) G.f_len (by decide +kernel) (pa_cons (pe_ix (k_ix (K := K)) (pvx 8) pe_int (fun _ _ => rfl)) pa_nil)) pa_nil)) (blkOk_by (by kernel_rfl)) (fun _ _ _ _ _ => (pgx 12 sc_law.nd)) (fun _ _ _ _ _ => pts_nil) (fun _ _ _ _ _ => (pe_lc (own := [("_law_edge", 14)]) (g := (gName 14)) (by rfl) sc_law.nd (k_seq (K := K) (pe_ix (k_ix (K := K)) (pe_ix (k_ix (K := K)) (pvx 8) pe_int (fun _ _ => rfl)) (pvx 12) (fun _ _ => rfl))) (blkOk_by (by kernel_rfl)) (fun _ _ _ _ _ => (pgx 14 sc_law.nd)) (fun _ _ _ _ _ => pts_nil) (fun _ _ _ _ _ => (pe_op (k_plus (K := K)) (pvx 14) (pe_ix (k_ix (K := K)) (pe_ix (k_ix (K := K)) (pvx 4) pe_int (fun _ _ => rfl)) (pvx 12) (fun _ _ => rfl))))))) (pss_cons (psx 10 sc_law.nd (pe_makeKX k_ClockedRun hr (by decide) (by rfl) (pa_cons (pvx 5) (pa_cons (pvx 7) pa_nil)) (pk_cons (pvx 9) (pk_cons (pe_ix (k_ix (K := K)) (pvx 8) pe_int (fun _ _ => rfl)) (pk_cons (pe_ix (k_ix (K := K)) (pvx 8) pe_int (fun _ _ => rfl)) (pk_cons (pe_ix (k_ix (K := K)) (pvx 8) pe_int (fun _ _ => rfl)) pk_nil)))))) (pss_one (ps_ret (C8.pe_c c__law_same hr (by decide) (by rfl) (pa_cons (pe_lc (own := [("_law_k", 11)]) (g := (gName 11)) (by rfl) sc_law.nd (pi_range1 (by rfl) G.f_range (pa_cons (pe_op (k_plus (K := K)) (pe_callB (k_len (K := K)) (by rfl) G.f_len (by decide +kernel) (pa_cons (pvx 7) pa_nil)) pe_int) pa_nil)) (blkOk_by (by kernel_rfl)) (fun _ _ _ _ _ => (pgx 11 sc_law.nd)) (fun _ _ _ _ _ => pts_nil) (fun _ _ _ _ _ => (C8.pe_mt m_ClockedRun_state hr (by decide) (pvx 10) (pa_cons (pvx 11) pa_nil)))) (pa_cons (C8.pe_c c__law_trace hr (by decide) (by rfl) (pa_cons (pvx 2) (pa_cons (pvx 7) pa_nil))) pa_nil)))))))))))))))))))), ?_⟩
  obtain ⟨a, ns, rfl, hS, hQ⟩ := h
  obtain ⟨rd, hJ, hrd⟩ : ∃ rd, scJ K a ns rd H ∧ (rd = true → H a ≠ none) := by
    rcases hS with hS | hS
    · refine ⟨true, .inl ⟨rfl, hS⟩, fun _ e => ?_⟩
      unfold Rd at hS
      rw [e] at hS
      rcases hS with z | ⟨_, z⟩ <;> cases z
    · exact ⟨false, .inr ⟨rfl, fun _ => .inr hS⟩, fun z => nomatch z⟩
  have s0 : Sok ((p2_pool K).wd ⟨a, ns, rd⟩ (fun _ => none) H) (fun _ => none) H := ⟨(fun _ _ h => nomatch h), fun _ _ => rfl, fun b m => by obtain ⟨rfl, m⟩ := m; exact hrd m, hJ⟩
  have k0 : Ok ((p2_pool K).wd ⟨a, ns, rd⟩ (fun _ => none) H) [.raw (.ref a), .no, .no, .no, .no, .no, .no, .no, .no, .no, .no, .no, .no, .no, .no] _ (fun _ => none) H := ok_start (W := (p2_pool K).wd ⟨a, ns, rd⟩ (fun _ => none) H) (N := ["_law_script", "_law_pool_here", "_law_circuit_here", "_law_holds", "_law_told", "_law_clocked", "_law_widest", "_law_rows", "_law_made", "_law_edges", "_law_run", "_law_k", "_law_r", "_law_row", "_law_edge"]) (vs := [.ref a]) (ss := [.raw (.ref a)]) s0 (.cons rfl .nil)
  refine run_seq k0 (M := fun Γ => ∃ x, Γ = [.raw (.ref a), .own (.lst [.lst (ns.map .int), .int 0, .int 0, .int 0, .int x]), .no, .no, .no, .no, .no, .no, .no, .no, .no, .no, .no, .no, .no]) (ec_asgR (ev_call (p := p2_pool K) (⟨a, ns, rd⟩ : ScA) (ea_1 (ev_raw rfl)) (fits_same rfl rfl) rfl) ?_) fun Γ1 σ1 F1 H1 k1 _ m1 => ?_
  · rintro _ ⟨⟨x, rfl⟩, nb⟩
    exact ⟨nb, x, rfl⟩
  obtain ⟨x, rfl⟩ := m1
  refine run_pool k1 (i := 1) rfl hQ fun p F H => ?_
  show Ec (plW p F H) _ [.no, .raw (.ref p), .no, .no, .no, .no, .no, .no, .no, .no, .no, .no, .no, .no, .no] _
  refine ec_setR (R := fun s => ∃ c, s = .dat (cD c) ∧ GenC c) (ev_callR (p := p__law_circuit K) (eaR_c (ev_raw rfl) (eaR_d (ev_drawQ (m := 3) rfl ev_int (by decide) (by decide)) (eaR_d (ir_add (S := fun i => i = 1) (T := fun i => 0 ≤ i ∧ i < 3) (U := fun i => 1 ≤ i ∧ i ≤ 3) (ir_of ev_int rfl) (ir_lt (ev_drawQ (m := 3) rfl ev_int (by decide) (by decide)) fun v hv => ⟨Int.natCast_nonneg v, hv⟩) fun i j h1 h2 => by omega) (eaR_c ev_int eaR_n)))) ?_) ?_
  · rintro _ ⟨_, rfl, _, _, rfl, ⟨a, rfl, ha⟩, _, _, rfl, ⟨i, rfl, hi1, hi2⟩, _, rfl, rfl⟩
    refine ⟨((p, ⟨(a, i.toNat), by show a ≤ 2; omega, by show 1 ≤ i.toNat; omega, by show i.toNat ≤ 3; omega⟩) : Addr × A_ci), ?_, fits_pl, rfl, ?_⟩
    · show _ = [Sl.raw (.ref p), .dat (.int (a : Nat)), .dat (.int ((i.toNat : Nat) : Int)), .dat (.int 5)]
      rw [Int.toNat_of_nonneg (by omega)]
    · rintro s ⟨c, rfl, hc, _⟩ _
      exact ⟨c, rfl, hc⟩
  rintro _ ⟨c, rfl, hc⟩
  refine ⟨(fun o h => nomatch h), ?_⟩
  have hw := hc.wf
  have h3 := hw.r
  have hi2 := hw.i
  refine ec_setR (ev_call (p := p__law_clock K) ((p, ⟨c, hc⟩) : Addr × A_gc) (ea_cons (ev_raw rfl) (ea_1 (ev_var rfl))) fits_pl rfl) ?_
  rintro _ ⟨⟨hs, rfl, hl, hh⟩, nb⟩
  refine ⟨nb, ec_frz 3 rfl ?_⟩
  clear nb
  have hl : hs.length = c.ins.length := hl
  have lp := gen_lp hc hl hh
  have w0 := wid_nn hw
  have w4 := wid4 hc
  show Ec (plW p F H) _ [.no, .raw (.ref p), .dat (cD c), .dat (hD hs), .no, .no, .no, .no, .no, .no, .no, .no, .no, .no, .no] _
  refine ec_setR (ev_call (p := p_least_period K) (⟨(c, hs), lp⟩ : A_lp) (ea_cons (ev_var rfl) (ea_1 (ev_var rfl))) fits_pure rfl) ?_
  rintro s ⟨hs', nb⟩
  refine ⟨nb, ?_⟩
  clear nb
  rcases hs' with ⟨rfl, hno⟩ | ⟨T, σ, rfl, ht⟩
  · have ck : CkOk ⟨c, 1000, hs⟩ := lp.ck (by omega) (by decide)
    show Ec (plW p F H) _ [.no, .raw (.ref p), .dat (cD c), .dat (hD hs), .dat .non, .no, .no, .no, .no, .no, .no, .no, .no, .no, .no] _
    refine ec_seq (M := fun _ => False) (ec_if (b := true) (et_B (ev_isN (d := .non) (ev_var rfl) rfl)) (fun _ => ?_) fun h => nomatch h) fun _ h => h.elim
    refine ec_setR (R := fun s => ∃ cs, s = .own (.lst ((cs.filter notSu).map conD)) ∧ Cons ⟨c, 1000, hs⟩ cs) ((ev_lcR (S := fun ds => ∃ cs, ds = cs.map conD ∧ Cons ⟨c, 1000, hs⟩ cs) (itR_seq ((ev_call (p := p__law_constraints K) (⟨⟨c, 1000, hs⟩, ck⟩ : A_ck) (ea_cons (ev_var rfl) (ea_cons ev_int (ea_1 (ev_var rfl)))) fits_pure rfl).fz (R' := fun s => ∃ cs, s = .dat (.lst (cs.map conD)) ∧ Cons ⟨c, 1000, hs⟩ cs) ?_) ?_) ?_ (fun ds i out => ∃ cs, ds = cs.map conD ∧ Cons ⟨c, 1000, hs⟩ cs ∧ out = ((cs.take i).filter notSu).map conD) ?_ ?_).imp ?_) ?_
    · rintro s ⟨⟨cs, rfl, h⟩, _⟩
      exact .inr ⟨_, rfl, cs, rfl, h⟩
    · rintro s ⟨cs, rfl, h⟩
      exact ⟨_, _, ⟨cs, rfl, h⟩, rfl, .inl ⟨true, rfl⟩⟩
    · rintro ds ⟨cs, rfl, h⟩
      rw [List.length_map]
      exact Nat.le_trans h.len (by decide)
    · rintro ds ⟨cs, rfl, h⟩
      exact ⟨cs, rfl, h, rfl⟩
    · rintro ds i d out _ hd ⟨cs, rfl, h, rfl⟩ _
      obtain ⟨y, hy, rfl⟩ := map_get hd
      refine ⟨_, _, fun b => b = notSu y, tg_name, fun _ h => h, ?_, fun hb => ⟨fun s => s = .dat (conD y), (ev_var rfl).ev rfl, fun s es => ⟨_, es, cs, rfl, h, ?_⟩⟩, fun hb => ⟨cs, rfl, h, ?_⟩⟩
      · cases y with
        | su i r m => exact EvTE.ev (b := false) ((et_test (ev_op (ev_ixT (d := .str "setup") (ev_var rfl) ev_int rfl) ev_str oe_neS)).to (by decide)) rfl
        | ho i r m => exact EvTE.ev (b := true) ((et_test (ev_op (ev_ixT (d := .str "hold") (ev_var rfl) ev_int rfl) ev_str oe_neS)).to (by decide)) rfl
        | fl r => exact EvTE.ev (b := true) ((et_test (ev_op (ev_ixT (d := .str "floor") (ev_var rfl) ev_int rfl) ev_str oe_neS)).to (by decide)) rfl
      · rw [take_snoc hy, List.filter_append, List.map_append, List.filter_cons, if_pos hb.symm]
        rfl
      · rw [take_snoc hy, List.filter_append, List.filter_cons, if_neg (by rw [← hb]; exact Bool.false_ne_true), List.filter_nil, List.append_nil]
    · rintro s ⟨ds, out, _, rfl, cs, rfl, h, rfl⟩
      rw [List.length_map, List.take_length]
      exact ⟨cs, rfl, h⟩
    rintro _ ⟨cs, rfl, hcs⟩
    refine ⟨(fun o h => nomatch h), ec_frz 7 rfl ?_⟩
    refine ec_ret (s := .dat (.bl true)) (ev_isN (d := .non) (ev_one (ev_call (p := p__law_least_shifts K) (⟨⟨cs.filter notSu, c.ins.length, c.regs.length, T0 c hs⟩, lsa_ok hc hl hh hcs⟩ : A_lsa) (ea_cons (ev_var rfl) (ea_cons ((ev_lenT (ds := c.ins.map .str) (ev_ixT (d := .tup (c.ins.map .str)) (ev_var (i := 2) (d := cD c) rfl) (ev_int (i := 0)) rfl)).to (by rw [List.length_map])) (ea_1 ((ev_lenT (ds := c.regs.map rD) (ev_ixT (d := .tup (c.regs.map rD)) (ev_var (i := 2) (d := cD c) rfl) (ev_int (i := 2)) rfl)).to (by rw [List.length_map]))))) fits_pure rfl) ?_) rfl) rfl
    rintro s ⟨rfl | ⟨l, rfl, hb, hx⟩, _⟩
    · rfl
    · exact (lsa_no hc hl hh hcs hno hb hx).elim
  · have ht : LpT c hs T σ := ht
    have hk := lp.ck ht.lo (Int.le_trans ht.hi lp.hi)
    have bn := gen_bnd hc hh (T := T) (by have := ht.lo; omega)
    have sok := shOk hk bn ht.fnd
    have cln := clean hk bn ht.fnd
    have hT2 : T ≤ 4000 := hk.T2
    show Ec (plW p F H) _ [.no, .raw (.ref p), .dat (cD c), .dat (hD hs), .dat (.tup [.int T, .lst ((shL c σ).map .int)]), .no, .no, .no, .no, .no, .no, .no, .no, .no, .no] _
    refine ec_noS (et_B (ev_isN (ev_var rfl) rfl)) ?_
    refine ec_noS (EvTE.to (et_or (b := false) (c := false) (et_not (b := true) (et_test (ev_isi (d := .tup [.int T, .lst ((shL c σ).map .int)]) (ea_cons (ev_var rfl) (ea_1 ev_tyC)) (by show "tuple" ≠ ""; decide) rfl))) fun _ => (et_test (ev_neI (ev_lenT (ds := [.int T, .lst ((shL c σ).map .int)]) (ev_var rfl)) ev_int)).to rfl) rfl) ?_
    refine ec_set (s := .own (.ins (He.ga K "Clocked") (kFs (shK ⟨c, T, hs⟩ (shL c σ))))) (evf_call (⟨(⟨c, T, hs⟩, shL c σ), sok⟩ : A_sh) (ea_cons (ev_fI (ev_make (⟨⟨c, T, hs⟩, hk⟩ : A_ck) (ea_cons (ev_var rfl) (ea_cons (ev_ixT (ev_var rfl) ev_int rfl) (ea_1 (ev_var rfl)))) rfl)) (ea_1 (ev_ixT (ev_var rfl) ev_int rfl))) rfl) ?_
    refine ec_frz 5 rfl ?_
    show Ec (plW p F H) _ [.no, .raw (.ref p), .dat (cD c), .dat (hD hs), .dat (.tup [.int T, .lst ((shL c σ).map .int)]), .dat (kD' K (shK ⟨c, T, hs⟩ (shL c σ))), .no, .no, .no, .no, .no, .no, .no, .no, .no] _
    refine ec_noS (EvTE.to (et_not (b := true) (et_test (evf_call (args := fun x : {d : D // SD 3 d} => [.dat x.1, .dat x.1]) (res := fun _ : {d : D // SD 3 d} => .dat (.bl true)) (⟨.bl true, sd_bl⟩ : {d : D // SD 3 d}) (ea_cons (evf_meth (⟨shK ⟨c, T, hs⟩ (shL c σ), sok.ok2, cln⟩ : A_cl) (ev_var rfl) rfl ea_nil rfl rfl) (ea_1 ev_bl)) rfl))) rfl) ?_
    have nn : c.regs.map (fun r => r.e1 - r.e0) ≠ [] := fun e => hw.r1 (List.map_eq_nil_iff.mp e)
    refine ec_set (s := .dat (.int (wid c))) (ev_maxL (ns := c.regs.map fun r => r.e1 - r.e0) (ev_own_bor ((ev_lcX c.regs rD (fun r => .int (r.e1 - r.e0)) (it_tup (ev_ixT (d := .tup (c.regs.map rD)) (ev_var (i := 2) (d := cD c) rfl) (ev_int (i := 2)) rfl)) (by omega) fun i r hr => ⟨_, _, tg_name, fun _ h => h, ev_bi (g := fun i j => i - j) (ev_ixT (ev_ixT (ev_var rfl) ev_int rfl) ev_int rfl) (ev_ixT (ev_ixT (ev_var rfl) ev_int rfl) ev_int rfl)⟩).to (by rw [List.map_map]; rfl))) nn) ?_
    refine ec_noS (EvTE.to (et_and (b := decide (T > wid c + 1)) (c := false) (et_bb (g := fun i j => decide (i > j)) (ev_ixT (ev_var rfl) ev_int rfl) (ev_add (ev_var rfl) ev_int)) fun hb => et_B (ev_notN (d := .non) (ev_one (ev_call (p := p_find_shifts K) (⟨⟨c, T - 1, hs⟩, lp.ck (by have := of_decide_eq_true hb; omega) (by omega)⟩ : A_ck) (ea_1 (ev_fI (ev_make (⟨⟨c, T - 1, hs⟩, lp.ck (by have := of_decide_eq_true hb; omega) (by omega)⟩ : A_ck) (ea_cons (ev_var rfl) (ea_cons (ev_bi (g := fun i j => i - j) (ev_ixT (ev_var rfl) ev_int rfl) ev_int) (ea_1 (ev_var rfl)))) rfl))) fits_pure rfl) ?_) rfl)) (Bool.and_false _)) ?_
    · rintro s ⟨⟨rfl, _⟩ | ⟨τ, rfl, hf⟩, _⟩
      · rfl
      · have hb := of_decide_eq_true hb
        rcases ht.least with e | hno
        · omega
        · have := NoF.no (lp.ck (T := T - 1) (by omega) (by omega)) hno hf.feas.1
          have := hf.feas.2
          omega
    refine ec_setR (R := fun s => ∃ rows : List (List Bool), s = .own (.lst (rows.map bT)) ∧ n14 rows.length ∧ ∀ row ∈ rows, row.length = c.ins.length) ((ev_lcN (n := n14) (fun d => ∃ b, d = bT b ∧ b.length = c.ins.length) (itR_rng1 (eaR_d (ir_add (S := fun i => i = 1) (T := fun i => 0 ≤ i ∧ i < 4) (U := fun i => 1 ≤ i ∧ i ≤ 4) (ir_of ev_int rfl) (ir_lt (ev_drawQ (m := 4) rfl ev_int (by decide) (by decide)) fun v hv => ⟨Int.natCast_nonneg v, hv⟩) fun i j h1 h2 => by omega) eaR_n) ?_) (fun m h => by have := h.2; omega) fun m i hm hi => ⟨_, _, tg_name, fun _ h => h, (ev_call (p := p__law_vector K) ((p, ⟨c.ins.length, by omega⟩) : Addr × A_n10) (ea_cons (ev_raw rfl) (ea_1 ((ev_lenT (ds := c.ins.map .str) (ev_ixT (d := .tup (c.ins.map .str)) (ev_var (i := 2) (d := cD c) rfl) (ev_int (i := 0)) rfl)).to (by rw [List.length_map])))) fits_pl rfl).imp ?_⟩).imp ?_) ?_
    · rintro _ ⟨_, _, rfl, ⟨i, rfl, h1, h2⟩, rfl⟩
      exact ⟨i.toNat, by rw [Int.toNat_of_nonneg (by omega)], by omega, i.toNat, ⟨by omega, by omega⟩, rfl⟩
    · rintro _ ⟨⟨b, rfl, h⟩, _⟩
      exact ⟨_, rfl, b, rfl, h⟩
    · rintro _ ⟨m, out, hm, rfl, hl2, ho⟩
      obtain ⟨rows, rfl, h⟩ := all_map (f := bT) (S := fun b => b.length = c.ins.length) ho
      rw [List.length_map] at hl2
      exact ⟨rows, rfl, by rw [hl2]; exact hm, h⟩
    rintro _ ⟨rows, rfl, h14, hrows⟩
    refine ⟨(fun o h => nomatch h), ec_frz 7 rfl ?_⟩
    have h4 : rows.length ≤ 4 := h14.2
    refine ec_setR (ev_call (p := p__law_choices K) ((p, ⟨c, hc⟩) : Addr × A_gc) (ea_cons (ev_raw rfl) (ea_cons (ev_var rfl) (ea_1 ev_int))) fits_pl rfl) ?_
    rintro _ ⟨⟨y, rfl, hy⟩, nb⟩
    refine ⟨nb, ec_frz 8 rfl ?_⟩
    clear nb
    have hy : ChOk c y := hy
    have hel := hy.el
    show Ec (plW p F H) _ [.no, .raw (.ref p), .dat (cD c), .dat (hD hs), .dat (.tup [.int T, .lst ((shL c σ).map .int)]), .dat (kD' K (shK ⟨c, T, hs⟩ (shL c σ))), .dat (.int (wid c)), .dat (.lst (rows.map bT)), .dat (.lst [.lst (y.es.map isD), .lst (y.sh.map bsD), .lst (y.gu.map bsD), dlD y.dl]), .no, .no, .no, .no, .no, .no] _
    have m0 : ∀ {W : Wd} {Γ : List Sl}, Γ[8]? = some (.dat (.lst [.lst (y.es.map isD), .lst (y.sh.map bsD), .lst (y.gu.map bsD), dlD y.dl])) → EvE W (tOp (rIx K) (tVar 8) (tC (.int 0))) Γ (.dat (.lst (y.es.map isD))) := fun e => ev_ixL (ev_bL (ev_var e)) (ev_int (i := 0)) rfl
    refine ec_set (s := .own (.lst ((shE y.es (shL c σ)).map isD))) ((ev_lcX (List.range y.es.length) (fun r => .int (0 + (r : Nat))) (fun r => isD ((y.es.getD r []).map fun d => d + (shL c σ).getD r 0)) (it_rng1 (n := y.es.length) (ea_1 ((ev_lenL (ds := y.es.map isD) (ev_bL (m0 rfl))).to (by rw [List.length_map]))) (by omega)) (by rw [List.length_range]; omega) fun i r hr => ⟨_, _, tg_name, fun _ h => h, ?_⟩).to (by unfold shE; rw [List.map_map]; rfl)) ?_
    · obtain ⟨hrl, e⟩ := List.getElem?_eq_some_iff.mp hr
      rw [List.length_range] at hrl
      rw [List.getElem_range] at e
      subst e
      have e1 : y.es[i]? = some y.es[i] := List.getElem?_eq_getElem hrl
      have e2 : (shL c σ)[i]? = some ((shL c σ)[i]'(by rw [shL_len]; omega)) := List.getElem?_eq_getElem _
      generalize y.es[i] = e at e1
      generalize (shL c σ)[i]'(by rw [shL_len]; omega) = sh at e2
      have i14 := (hy.e i _ e (List.getElem?_eq_getElem (by omega)) e1).1
      rw [show y.es.getD i [] = e by rw [List.getD_eq_getElem?_getD, e1]; rfl, show (shL c σ).getD i 0 = sh by rw [List.getD_eq_getElem?_getD, e2]; rfl]
      exact ev_fL ((ev_lcX e .int (fun d => .int (d + sh)) (it_list (ev_ixL (d := isD e) (ev_bL (m0 rfl)) (ev_var rfl) (by rw [Int.zero_add]; exact atI_map e1))) (by have := i14.2; omega) fun j d hd => ⟨_, _, tg_name, fun _ h => h, ev_add (ev_var rfl) (ev_ixL (ds := (shL c σ).map .int) (d := .int sh) (ev_bL (ev_ixT (ds := [.int T, .lst ((shL c σ).map .int)]) (ev_var rfl) (ev_int (i := 1)) rfl)) (ev_var rfl) (by rw [Int.zero_add]; exact atI_map e2))⟩).to (by rw [List.map_map]; rfl))
    refine ec_frz 9 rfl ?_
    have rok := rn_ok hc hl hh ht h4 hrows hy
    refine ec_setR (ev_run (⟨rnOf ⟨c, T, hs⟩ (shL c σ) rows y, rok⟩ : A_ri) (ea_cons (ev_var (i := 5) rfl) (ea_1 (ev_var (i := 7) rfl))) (ea_cons (ev_var (i := 9) rfl) (ea_cons (ev_ixL (i := 1) (ev_bL (ev_var (i := 8) rfl)) ev_int rfl) (ea_cons (ev_ixL (i := 2) (ev_bL (ev_var (i := 8) rfl)) ev_int rfl) (ea_1 (ev_ixL (i := 3) (ev_bL (ev_var (i := 8) rfl)) ev_int rfl))))) rfl rfl rfl rfl) ?_
    rintro _ ⟨pk, st, tk, rfl, hst⟩
    refine ⟨(fun o h => nomatch h), ?_⟩
    have srl : (shC c (shL c σ)).regs.length = c.regs.length := shC_len (shL_len _ _)
    have stl : st.length = c.regs.length := by have := hst.len; rw [← srl]; exact this
    refine ec_ret (evf_call (args := fun x : {d : D // SD 3 d} => [.dat x.1, .dat x.1]) (res := fun _ : {d : D // SD 3 d} => .dat (.bl true)) (⟨.lst (trs c rows rows.length), sd_trs (by omega) h3⟩ : {d : D // SD 3 d}) (ea_cons (ev_fL ((ev_lcX (List.range (rows.length + 1)) (fun r => .int (0 + (r : Nat))) (fun k => bT (tr c rows k)) (it_rng1 (n := rows.length + 1) (ea_1 ((ev_add (ev_lenL (ds := rows.map bT) (ev_bL (ev_var (i := 7) rfl))) ev_int).to (by rw [List.length_map]; rfl))) (by omega)) (by rw [List.length_range]; omega) fun i k hk' => ⟨_, _, tg_name, fun _ h => h, ?_⟩).to rfl)) (ea_1 (ev_fL (evf_call (⟨(c, rows), hw, by show rows.length ≤ 10; omega, hrows⟩ : A_tr) (ea_cons (ev_var rfl) (ea_1 (ev_var rfl))) rfl)))) rfl) rfl
    obtain ⟨hkl, e⟩ := List.getElem?_eq_some_iff.mp hk'
    rw [List.length_range] at hkl
    rw [List.getElem_range] at e
    subst e
    refine evf_meth (⟨⟨⟨rnOf ⟨c, T, hs⟩ (shL c σ) rows y, pk, stD st, tk⟩, st, i, tr c rows i⟩, rok, rfl, by show i ≤ rows.length; omega, by show st.length ≤ 3; omega, by show (tr c rows i).length = st.length; rw [tr_len, stl], fun j b hb => ?_⟩ : A_sa) (ev_var rfl) rfl (ea_1 ((ev_var rfl).to (by rw [Int.zero_add]))) rfl rfl
    obtain ⟨bl, bv⟩ := hst.b j b hb
    have bl : b.length = rows.length + 1 := bl
    exact ⟨_, List.getElem?_eq_getElem (by show i < b.length; omega), bv i _ (List.getElem?_eq_getElem _)⟩
end Sg
namespace Sg
open PySem PySem.Spec PyProof.Rows L2 Dn
theorem gs_of {K : PySem.W.Frag} {h : Heap} {mg : Str → Option Value} (X : K.In h) (N : h.Ns mainGlobals mg) (c : HdSays K) : Gs K mg where
  f_len := He.free_ok X N (c.fact 0)
  f_list := He.free_ok X N (c.fact 1)
  f_tuple := He.free_ok X N (c.fact 2)
  f_int := He.free_ok X N (c.fact 3)
  f_str := He.free_ok X N (c.fact 4)
  f_abs := He.free_ok X N (c.fact 5)
  f_sum := He.free_ok X N (c.fact 6)
  f_min := He.free_ok X N (c.fact 7)
  f_max := He.free_ok X N (c.fact 8)
  f_all := He.free_ok X N (c.fact 9)
  f_isinstance := He.free_ok X N (c.fact 10)
  f_range := He.free_ok X N (c.fact 11)
  f_sorted := He.free_ok X N (c.fact 12)
  f_enumerate := He.free_ok X N (c.fact 13)
  f_zip := He.free_ok X N (c.fact 14)
  f_bool := He.free_ok X N (c.fact 15)
  g_GROUND := (let ⟨t, e⟩ := He.int_ok X N (c.fact 16); ⟨_, e, t, rfl⟩)
  g_Tracker := He.glo_ok X N (c.fact 17)
  cls_Tracker := He.cls_ok (c.fact 18)
  mk_Tracker := He.mkr_ok (c.fact 19)
  na_Tracker_circuit := He.noat_ok (c.fact 20)
  na_Tracker_delays := He.noat_ok (c.fact 21)
  na_Tracker_origin := He.noat_ok (c.fact 22)
  na_Tracker_driven := He.noat_ok (c.fact 23)
  na_Tracker_known := He.noat_ok (c.fact 24)
  g_Settled := He.glo_ok X N (c.fact 25)
  cls_Settled := He.cls_ok (c.fact 26)
  mk_Settled := He.mkr_ok (c.fact 27)
  na_Settled__circuit := He.noat_ok (c.fact 28)
  na_Settled__windows := He.noat_ok (c.fact 29)
  na_Settled__driven := He.noat_ok (c.fact 30)
  na_Settled__known := He.noat_ok (c.fact 31)
  na_Settled__values := He.noat_ok (c.fact 32)
  g_Clocked := He.glo_ok X N (c.fact 33)
  cls_Clocked := He.cls_ok (c.fact 34)
  mk_Clocked := He.mkr_ok (c.fact 35)
  na_Clocked__circuit := He.noat_ok (c.fact 36)
  na_Clocked__period := He.noat_ok (c.fact 37)
  na_Clocked__holds := He.noat_ok (c.fact 38)
  g_ClockedRun := He.glo_ok X N (c.fact 39)
  cls_ClockedRun := He.cls_ok (c.fact 40)
  mk_ClockedRun := He.mkr_ok (c.fact 41)
  na_ClockedRun__clocked := He.noat_ok (c.fact 42)
  na_ClockedRun__circuit := He.noat_ok (c.fact 43)
  na_ClockedRun__rows := He.noat_ok (c.fact 44)
  na_ClockedRun__edges := He.noat_ok (c.fact 45)
  na_ClockedRun__shakes := He.noat_ok (c.fact 46)
  na_ClockedRun__places := He.noat_ok (c.fact 47)
  na_ClockedRun__stored := He.noat_ok (c.fact 48)
  na_ClockedRun__tracker := He.noat_ok (c.fact 49)
  g_bits_at := He.glo_ok X N (c.fact 50)
  d_bits_at := c.dfn 0 (d := ⟨("bits_at", none), "bits_at", "bits_at", defArgs (top 10), defBody (top 10), defScope (top 10), [], []⟩) rfl
  g_look_up := He.glo_ok X N (c.fact 51)
  d_look_up := c.dfn 1 (d := ⟨("look_up", none), "look_up", "look_up", defArgs (top 11), defBody (top 11), defScope (top 11), [], []⟩) rfl
  g_agrees := He.glo_ok X N (c.fact 52)
  d_agrees := c.dfn 2 (d := ⟨("agrees", none), "agrees", "agrees", defArgs (top 12), defBody (top 12), defScope (top 12), [], []⟩) rfl
  g_forced := He.glo_ok X N (c.fact 53)
  d_forced := c.dfn 3 (d := ⟨("forced", none), "forced", "forced", defArgs (top 13), defBody (top 13), defScope (top 13), [], []⟩) rfl
  g_sources := He.glo_ok X N (c.fact 54)
  d_sources := c.dfn 4 (d := ⟨("sources", none), "sources", "sources", defArgs (top 15), defBody (top 15), defScope (top 15), [], []⟩) rfl
  g_all_nets := He.glo_ok X N (c.fact 55)
  d_all_nets := c.dfn 5 (d := ⟨("all_nets", none), "all_nets", "all_nets", defArgs (top 16), defBody (top 16), defScope (top 16), [], []⟩) rfl
  g_check_net := He.glo_ok X N (c.fact 56)
  d_check_net := c.dfn 6 (d := ⟨("check_net", none), "check_net", "check_net", defArgs (top 17), defBody (top 17), defScope (top 17), [], []⟩) rfl
  g_drivers := He.glo_ok X N (c.fact 57)
  d_drivers := c.dfn 7 (d := ⟨("drivers", none), "drivers", "drivers", defArgs (top 18), defBody (top 18), defScope (top 18), [], []⟩) rfl
  g_gate_order := He.glo_ok X N (c.fact 58)
  d_gate_order := c.dfn 8 (d := ⟨("gate_order", none), "gate_order", "gate_order", defArgs (top 19), defBody (top 19), defScope (top 19), [], []⟩) rfl
  g_settle := He.glo_ok X N (c.fact 59)
  d_settle := c.dfn 9 (d := ⟨("settle", none), "settle", "settle", defArgs (top 22), defBody (top 22), defScope (top 22), [], []⟩) rfl
  g_start_state := He.glo_ok X N (c.fact 60)
  d_start_state := c.dfn 10 (d := ⟨("start_state", none), "start_state", "start_state", defArgs (top 23), defBody (top 23), defScope (top 23), [], []⟩) rfl
  g_in_window := He.glo_ok X N (c.fact 61)
  d_in_window := c.dfn 11 (d := ⟨("in_window", none), "in_window", "in_window", defArgs (top 25), defBody (top 25), defScope (top 25), [], []⟩) rfl
  g_check_delays := He.glo_ok X N (c.fact 62)
  d_check_delays := c.dfn 12 (d := ⟨("check_delays", none), "check_delays", "check_delays", defArgs (top 27), defBody (top 27), defScope (top 27), [], []⟩) rfl
  d_Tracker_init := c.dfn 13 (d := ⟨("Tracker", some "__init__"), "__init__", "Tracker.__init__", defArgs (inClass (top 28) 0), defBody (inClass (top 28) 0), defScope (inClass (top 28) 0), [], []⟩) rfl
  me_Tracker_value := He.meth_ok (c.fact 63)
  d_Tracker_value := c.dfn 14 (d := ⟨("Tracker", some "value"), "value", "Tracker.value", defArgs (inClass (top 28) 1), defBody (inClass (top 28) 1), defScope (inClass (top 28) 1), [], []⟩) rfl
  d_Settled_init := c.dfn 15 (d := ⟨("Settled", some "__init__"), "__init__", "Settled.__init__", defArgs (inClass (top 30) 0), defBody (inClass (top 30) 0), defScope (inClass (top 30) 0), [], []⟩) rfl
  me_Settled__vectors := He.meth_ok (c.fact 64)
  d_Settled__vectors := c.dfn 16 (d := ⟨("Settled", some "_vectors"), "_vectors", "Settled._vectors", defArgs (inClass (top 30) 2), defBody (inClass (top 30) 2), defScope (inClass (top 30) 2), [], []⟩) rfl
  me_Settled_settled_value := He.meth_ok (c.fact 65)
  d_Settled_settled_value := c.dfn 17 (d := ⟨("Settled", some "settled_value"), "settled_value", "Settled.settled_value", defArgs (inClass (top 30) 3), defBody (inClass (top 30) 3), defScope (inClass (top 30) 3), [], []⟩) rfl
  me_Settled_fits := He.meth_ok (c.fact 66)
  d_Settled_fits := c.dfn 18 (d := ⟨("Settled", some "fits"), "fits", "Settled.fits", defArgs (inClass (top 30) 4), defBody (inClass (top 30) 4), defScope (inClass (top 30) 4), [], []⟩) rfl
  me_Settled_marks := He.meth_ok (c.fact 67)
  d_Settled_marks := c.dfn 19 (d := ⟨("Settled", some "marks"), "marks", "Settled.marks", defArgs (inClass (top 30) 5), defBody (inClass (top 30) 5), defScope (inClass (top 30) 5), [], []⟩) rfl
  me_Settled__loose_vectors := He.meth_ok (c.fact 68)
  d_Settled__loose_vectors := c.dfn 20 (d := ⟨("Settled", some "_loose_vectors"), "_loose_vectors", "Settled._loose_vectors", defArgs (inClass (top 30) 7), defBody (inClass (top 30) 7), defScope (inClass (top 30) 7), [], []⟩) rfl
  me_Settled_loose_vector := He.meth_ok (c.fact 69)
  d_Settled_loose_vector := c.dfn 21 (d := ⟨("Settled", some "loose_vector"), "loose_vector", "Settled.loose_vector", defArgs (inClass (top 30) 9), defBody (inClass (top 30) 9), defScope (inClass (top 30) 9), [], []⟩) rfl
  g_check_holds := He.glo_ok X N (c.fact 70)
  d_check_holds := c.dfn 22 (d := ⟨("check_holds", none), "check_holds", "check_holds", defArgs (top 32), defBody (top 32), defScope (top 32), [], []⟩) rfl
  g_check_pairs := He.glo_ok X N (c.fact 71)
  d_check_pairs := c.dfn 23 (d := ⟨("check_pairs", none), "check_pairs", "check_pairs", defArgs (top 33), defBody (top 33), defScope (top 33), [], []⟩) rfl
  d_Clocked_init := c.dfn 24 (d := ⟨("Clocked", some "__init__"), "__init__", "Clocked.__init__", defArgs (inClass (top 34) 0), defBody (inClass (top 34) 0), defScope (inClass (top 34) 0), [], []⟩) rfl
  d_Clocked_period := c.prop
  me_Clocked_is_clean := He.meth_ok (c.fact 72)
  d_Clocked_is_clean := c.dfn 25 (d := ⟨("Clocked", some "is_clean"), "is_clean", "Clocked.is_clean", defArgs (inClass (top 34) 2), defBody (inClass (top 34) 2), defScope (inClass (top 34) 2), [], []⟩) rfl
  me_Clocked_circuit := He.meth_ok (c.fact 73)
  d_Clocked_circuit := c.dfn 26 (d := ⟨("Clocked", some "circuit"), "circuit", "Clocked.circuit", defArgs (inClass (top 34) 3), defBody (inClass (top 34) 3), defScope (inClass (top 34) 3), [], []⟩) rfl
  me_Clocked_holds := He.meth_ok (c.fact 74)
  d_Clocked_holds := c.dfn 27 (d := ⟨("Clocked", some "holds"), "holds", "Clocked.holds", defArgs (inClass (top 34) 4), defBody (inClass (top 34) 4), defScope (inClass (top 34) 4), [], []⟩) rfl
  me_Clocked_windows := He.meth_ok (c.fact 75)
  d_Clocked_windows := c.dfn 28 (d := ⟨("Clocked", some "windows"), "windows", "Clocked.windows", defArgs (inClass (top 34) 5), defBody (inClass (top 34) 5), defScope (inClass (top 34) 5), [], []⟩) rfl
  me_Clocked_settled := He.meth_ok (c.fact 76)
  d_Clocked_settled := c.dfn 29 (d := ⟨("Clocked", some "settled"), "settled", "Clocked.settled", defArgs (inClass (top 34) 6), defBody (inClass (top 34) 6), defScope (inClass (top 34) 6), [], []⟩) rfl
  me_Clocked__row := He.meth_ok (c.fact 77)
  d_Clocked__row := c.dfn 30 (d := ⟨("Clocked", some "_row"), "_row", "Clocked._row", defArgs (inClass (top 34) 7), defBody (inClass (top 34) 7), defScope (inClass (top 34) 7), [], []⟩) rfl
  me_Clocked_needed := He.meth_ok (c.fact 78)
  d_Clocked_needed := c.dfn 31 (d := ⟨("Clocked", some "needed"), "needed", "Clocked.needed", defArgs (inClass (top 34) 8), defBody (inClass (top 34) 8), defScope (inClass (top 34) 8), [], []⟩) rfl
  me_Clocked_violation := He.meth_ok (c.fact 79)
  d_Clocked_violation := c.dfn 32 (d := ⟨("Clocked", some "violation"), "violation", "Clocked.violation", defArgs (inClass (top 34) 9), defBody (inClass (top 34) 9), defScope (inClass (top 34) 9), [], []⟩) rfl
  me_Clocked_violations := He.meth_ok (c.fact 80)
  d_Clocked_violations := c.dfn 33 (d := ⟨("Clocked", some "violations"), "violations", "Clocked.violations", defArgs (inClass (top 34) 10), defBody (inClass (top 34) 10), defScope (inClass (top 34) 10), [], []⟩) rfl
  g_shifted := He.glo_ok X N (c.fact 81)
  d_shifted := c.dfn 34 (d := ⟨("shifted", none), "shifted", "shifted", defArgs (top 37), defBody (top 37), defScope (top 37), [], []⟩) rfl
  g_longest_sums := He.glo_ok X N (c.fact 82)
  d_longest_sums := c.dfn 35 (d := ⟨("longest_sums", none), "longest_sums", "longest_sums", defArgs (top 38), defBody (top 38), defScope (top 38), [], []⟩) rfl
  g_constraints := He.glo_ok X N (c.fact 83)
  d_constraints := c.dfn 36 (d := ⟨("constraints", none), "constraints", "constraints", defArgs (top 39), defBody (top 39), defScope (top 39), [], []⟩) rfl
  g_as_edge := He.glo_ok X N (c.fact 84)
  d_as_edge := c.dfn 37 (d := ⟨("as_edge", none), "as_edge", "as_edge", defArgs (top 40), defBody (top 40), defScope (top 40), [], []⟩) rfl
  g_relaxed := He.glo_ok X N (c.fact 85)
  d_relaxed := c.dfn 38 (d := ⟨("relaxed", none), "relaxed", "relaxed", defArgs (top 41), defBody (top 41), defScope (top 41), [], []⟩) rfl
  g_find_shifts := He.glo_ok X N (c.fact 86)
  d_find_shifts := c.dfn 39 (d := ⟨("find_shifts", none), "find_shifts", "find_shifts", defArgs (top 42), defBody (top 42), defScope (top 42), [], []⟩) rfl
  g_least_period := He.glo_ok X N (c.fact 87)
  d_least_period := c.dfn 40 (d := ⟨("least_period", none), "least_period", "least_period", defArgs (top 43), defBody (top 43), defScope (top 43), [], []⟩) rfl
  g_check_lists := He.glo_ok X N (c.fact 88)
  d_check_lists := c.dfn 41 (d := ⟨("check_lists", none), "check_lists", "check_lists", defArgs (top 45), defBody (top 45), defScope (top 45), [], []⟩) rfl
  d_ClockedRun_init := c.dfn 42 (d := ⟨("ClockedRun", some "__init__"), "__init__", "ClockedRun.__init__", defArgs (inClass (top 46) 0), defBody (inClass (top 46) 0), defScope (inClass (top 46) 0), [], []⟩) rfl
  me_ClockedRun__play := He.meth_ok (c.fact 89)
  d_ClockedRun__play := c.dfn 43 (d := ⟨("ClockedRun", some "_play"), "_play", "ClockedRun._play", defArgs (inClass (top 46) 1), defBody (inClass (top 46) 1), defScope (inClass (top 46) 1), [], []⟩) rfl
  me_ClockedRun_edge_time := He.meth_ok (c.fact 90)
  d_ClockedRun_edge_time := c.dfn 44 (d := ⟨("ClockedRun", some "edge_time"), "edge_time", "ClockedRun.edge_time", defArgs (inClass (top 46) 2), defBody (inClass (top 46) 2), defScope (inClass (top 46) 2), [], []⟩) rfl
  me_ClockedRun_source_value := He.meth_ok (c.fact 91)
  d_ClockedRun_source_value := c.dfn 45 (d := ⟨("ClockedRun", some "source_value"), "source_value", "ClockedRun.source_value", defArgs (inClass (top 46) 3), defBody (inClass (top 46) 3), defScope (inClass (top 46) 3), [], []⟩) rfl
  me_ClockedRun__input_value := He.meth_ok (c.fact 92)
  d_ClockedRun__input_value := c.dfn 46 (d := ⟨("ClockedRun", some "_input_value"), "_input_value", "ClockedRun._input_value", defArgs (inClass (top 46) 4), defBody (inClass (top 46) 4), defScope (inClass (top 46) 4), [], []⟩) rfl
  me_ClockedRun__output_value := He.meth_ok (c.fact 93)
  d_ClockedRun__output_value := c.dfn 47 (d := ⟨("ClockedRun", some "_output_value"), "_output_value", "ClockedRun._output_value", defArgs (inClass (top 46) 5), defBody (inClass (top 46) 5), defScope (inClass (top 46) 5), [], []⟩) rfl
  me_ClockedRun_state := He.meth_ok (c.fact 94)
  d_ClockedRun_state := c.dfn 48 (d := ⟨("ClockedRun", some "state"), "state", "ClockedRun.state", defArgs (inClass (top 46) 6), defBody (inClass (top 46) 6), defScope (inClass (top 46) 6), [], []⟩) rfl
  g__law_same := He.glo_ok X N (c.fact 95)
  d__law_same := c.dfn 49 (d := ⟨("_law_same", none), "_law_same", "_law_same", defArgs (top 48), defBody (top 48), defScope (top 48), [], []⟩) rfl
  g__law_pool := He.glo_ok X N (c.fact 96)
  d__law_pool := c.dfn 50 (d := ⟨("_law_pool", none), "_law_pool", "_law_pool", defArgs (top 49), defBody (top 49), defScope (top 49), [], []⟩) rfl
  g__law_spread := He.glo_ok X N (c.fact 97)
  d__law_spread := c.dfn 51 (d := ⟨("_law_spread", none), "_law_spread", "_law_spread", defArgs (top 50), defBody (top 50), defScope (top 50), [], []⟩) rfl
  g__law_draw := He.glo_ok X N (c.fact 98)
  d__law_draw := c.dfn 52 (d := ⟨("_law_draw", none), "_law_draw", "_law_draw", defArgs (top 51), defBody (top 51), defScope (top 51), [], []⟩) rfl
  g__law_names := He.glo_ok X N (c.fact 99)
  d__law_names := c.dfn 53 (d := ⟨("_law_names", none), "_law_names", "_law_names", defArgs (top 52), defBody (top 52), defScope (top 52), [], []⟩) rfl
  g__law_span := He.glo_ok X N (c.fact 100)
  d__law_span := c.dfn 54 (d := ⟨("_law_span", none), "_law_span", "_law_span", defArgs (top 53), defBody (top 53), defScope (top 53), [], []⟩) rfl
  g__law_gate := He.glo_ok X N (c.fact 101)
  d__law_gate := c.dfn 55 (d := ⟨("_law_gate", none), "_law_gate", "_law_gate", defArgs (top 54), defBody (top 54), defScope (top 54), [], []⟩) rfl
  g__law_times := He.glo_ok X N (c.fact 102)
  d__law_times := c.dfn 56 (d := ⟨("_law_times", none), "_law_times", "_law_times", defArgs (top 55), defBody (top 55), defScope (top 55), [], []⟩) rfl
  g__law_circuit := He.glo_ok X N (c.fact 103)
  d__law_circuit := c.dfn 57 (d := ⟨("_law_circuit", none), "_law_circuit", "_law_circuit", defArgs (top 56), defBody (top 56), defScope (top 56), [], []⟩) rfl
  g__law_sources := He.glo_ok X N (c.fact 104)
  d__law_sources := c.dfn 58 (d := ⟨("_law_sources", none), "_law_sources", "_law_sources", defArgs (top 57), defBody (top 57), defScope (top 57), [], []⟩) rfl
  g__law_sorted_gates := He.glo_ok X N (c.fact 105)
  d__law_sorted_gates := c.dfn 59 (d := ⟨("_law_sorted_gates", none), "_law_sorted_gates", "_law_sorted_gates", defArgs (top 59), defBody (top 59), defScope (top 59), [], []⟩) rfl
  g__law_settle := He.glo_ok X N (c.fact 106)
  d__law_settle := c.dfn 60 (d := ⟨("_law_settle", none), "_law_settle", "_law_settle", defArgs (top 60), defBody (top 60), defScope (top 60), [], []⟩) rfl
  g__law_vector := He.glo_ok X N (c.fact 107)
  d__law_vector := c.dfn 61 (d := ⟨("_law_vector", none), "_law_vector", "_law_vector", defArgs (top 61), defBody (top 61), defScope (top 61), [], []⟩) rfl
  g__law_delays := He.glo_ok X N (c.fact 108)
  d__law_delays := c.dfn 62 (d := ⟨("_law_delays", none), "_law_delays", "_law_delays", defArgs (top 65), defBody (top 65), defScope (top 65), [], []⟩) rfl
  g__law_clock := He.glo_ok X N (c.fact 109)
  d__law_clock := c.dfn 63 (d := ⟨("_law_clock", none), "_law_clock", "_law_clock", defArgs (top 71), defBody (top 71), defScope (top 71), [], []⟩) rfl
  g__law_windows := He.glo_ok X N (c.fact 110)
  d__law_windows := c.dfn 64 (d := ⟨("_law_windows", none), "_law_windows", "_law_windows", defArgs (top 72), defBody (top 72), defScope (top 72), [], []⟩) rfl
  g__law_bools := He.glo_ok X N (c.fact 111)
  d__law_bools := c.dfn 65 (d := ⟨("_law_bools", none), "_law_bools", "_law_bools", defArgs (top 75), defBody (top 75), defScope (top 75), [], []⟩) rfl
  g__law_choices := He.glo_ok X N (c.fact 112)
  d__law_choices := c.dfn 66 (d := ⟨("_law_choices", none), "_law_choices", "_law_choices", defArgs (top 76), defBody (top 76), defScope (top 76), [], []⟩) rfl
  g__law_trace := He.glo_ok X N (c.fact 113)
  d__law_trace := c.dfn 67 (d := ⟨("_law_trace", none), "_law_trace", "_law_trace", defArgs (top 77), defBody (top 77), defScope (top 77), [], []⟩) rfl
  g__law_sums := He.glo_ok X N (c.fact 114)
  d__law_sums := c.dfn 68 (d := ⟨("_law_sums", none), "_law_sums", "_law_sums", defArgs (top 78), defBody (top 78), defScope (top 78), [], []⟩) rfl
  g__law_constraints := He.glo_ok X N (c.fact 115)
  d__law_constraints := c.dfn 69 (d := ⟨("_law_constraints", none), "_law_constraints", "_law_constraints", defArgs (top 79), defBody (top 79), defScope (top 79), [], []⟩) rfl
  g__law_sides := He.glo_ok X N (c.fact 116)
  d__law_sides := c.dfn 70 (d := ⟨("_law_sides", none), "_law_sides", "_law_sides", defArgs (top 80), defBody (top 80), defScope (top 80), [], []⟩) rfl
  g__law_broken := He.glo_ok X N (c.fact 117)
  d__law_broken := c.dfn 71 (d := ⟨("_law_broken", none), "_law_broken", "_law_broken", defArgs (top 81), defBody (top 81), defScope (top 81), [], []⟩) rfl
  g__law_least_shifts := He.glo_ok X N (c.fact 118)
  d__law_least_shifts := c.dfn 72 (d := ⟨("_law_least_shifts", none), "_law_least_shifts", "_law_least_shifts", defArgs (top 82), defBody (top 82), defScope (top 82), [], []⟩) rfl
  g_law := He.glo_ok X N (c.fact 119)
  d_law := c.dfn 73 (d := ⟨("law", none), "law", "law", defArgs (top 84), defBody (top 84), defScope (top 84), [], []⟩) rfl
end Sg
set_option maxHeartbeats 0
open PySem PySem.W PySem.Calls PyProof.Rows
theorem PySem.Challenge.cw_signoff_k69_whole_schedules_are_clean_holds : PySem.Challenge.rw_signoff_k69_whole_schedules_are_clean.Holds := by
  w_on; o_law
  refine HandSHeadRun.head_any (r := Sg.hdR) (q := PySem.W.view Sg.hdR.prog [84]) (H := Sg.hk) (ob := Sg.ob) (M := 60000) (loose := Sg.hdN) (d := HandSHeadRun.topDef Sg.hdR.prog 84) (kwd := []) Sg.ob_eq
    (by kernel_rfl) (fun s => by kernel_rfl) Sg.run (by kernel_rfl) (by kernel_rfl) (by kernel_rfl) (by rfl) (by first | assumption | decide +kernel) (by decide +kernel) ⟨rfl, rfl, rfl, rfl, rfl, by decide +kernel⟩ ?hw ?hc
  case hw => w_witness2
  case hc =>
    refine L2.walk_ofE (l := PySem.Challenge.rw_signoff_k69_whole_schedules_are_clean) (n := 63) (k := 24) (x := "_law_script") (CX := C8.CX0) rfl (by decide) (by kernel_rfl) ⟨rfl, by decide, by decide⟩ ?F (fun _ _ _ _ z => z)
    intro w mg fa h Y N hmg0
    obtain ⟨K, X, c⟩ := Y
    have hmg : mg ("law" : PySem.Str) = some (.ref fa) := by
      have e : (HandSHeadRun.topDef Sg.hdR.prog 84).name = ("law" : PySem.Str) := by kernel_rfl
      rw [← e]
      exact hmg0
    have G := Sg.gs_of X N ⟨c⟩
    have efa := hmg.symm.trans G.g_law
    cases efa
    obtain ⟨fd, FD⟩ := G.d_law
    have b := L2.FunD.bindsA (ps := ["_law_script"]) FD fun _ _ _ _ _ _ us hl => match us, hl with | [_], _ => rfl
    exact ⟨K, fd, Sg.sp_law K, X, fun s v => b s [v] rfl, fun H a ns hl _ hS => ⟨a, ns, rfl, hS, fun _ => rfl⟩, fun base Xb Nb => Sg.fn_law (Sg.gs_of Xb Nb ⟨c⟩) FD⟩
