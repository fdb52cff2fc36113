import PyProof.Rows.All
import Wide.All
import OpenK.AllK
import Wide.FinOn
import KE.KStateDown
import HandS.ForMost
import HandS.Exc
import HandS.Conv
import HandS.FStr
import HandS.Property
import HandS.IsInst
import HandS.NoneIn
import HandS.Style
import HandS.Star
import HandS.SortRule
import HandS.Wide
import HandS.WideBits
import HandS.Walk
import HandS.More
import HandS.Deep
import HandS.Head0
import HandS.Head1
import HandS.Head2
import HandS.HeadEnd
import HandS.HeadHook1
import HandS.HeadHook2
import HandS.HeadHook3
import PyProof.NeKinds
import PyProof.EqKinds
import PyProof.RulesMatch
import PyProof.AssignAttr
import KE.KUnpackStar
import KE.GoesEnum
import PyProof.AutoSeq1
import KE.KIntText
import PyProof.StrLawsTight
import PySem.Challenge.RW_ballhours_k77_whole_consoles_and_functio
set_option Elab.async false
section
set_option Elab.async false
set_option linter.all false
set_option maxRecDepth 100000
set_option maxHeartbeats 4000000
namespace BH
open PySem PySem.Spec PyProof.Rows L2

/-! ### the text by places -/
def top (i : Nat) : Stmt := PySem.Challenge.pw_ballhours_k77_whole_consoles_and_functio.main.body.getD i (.Pass ⟨0, 0, 0, 0⟩)
/-- where a def stands: a global, a method, a property's getter -/
inductive Wh where
  | g (x : Str)
  | m (C x : Str)
  | p (C x : Str)
/-- the first of a record's fields, if it is an object -/
def fst1 : Option (List Value) → Addr
  | some (v :: _) => (match v with
    | .ref a => a
    | _ => 0)
  | _ => 0
def isRef1 : Option (List Value) → Bool
  | some (v :: _) => (match v with
    | .ref _ => true
    | _ => false)
  | _ => false
theorem isRef1_ok {o : Option (List Value)} (h : isRef1 o = true) : ∃ rest, o = some (.ref (fst1 o) :: rest) := by
  cases o with
  | none => cases h
  | some l =>
    cases l with
    | nil => cases h
    | cons v r =>
      cases v <;> first | exact ⟨r, rfl⟩ | cases h
def Wh.ad (K : PySem.W.Frag) : Wh → Addr
  | .g x => He.ga K x
  | .m C x => He.ma K (He.ga K C) x
  | .p C x => fst1 (PySem.W.recIn K (He.ma K (He.ga K C) x) "property")
structure Df where
  wh : Wh
  nm : Str
  ql : Str
  st : Stmt
abbrev Sight1 : Type := Option (Str × Str × Arguments × FuncBody × Scope × Addr × List (Str × Addr) × Addr)
def Df.see (K : PySem.W.Frag) (d : Df) : Sight1 := match K.lookup (d.wh.ad K) with
  | some o => (match o.data with
    | .func f => some (f.name, f.qualname, f.params, f.body, f.scope, f.globals, f.closure, f.builtins)
    | _ => none)
  | none => none
def Df.val (d : Df) : Sight1 := some (d.nm, d.ql, defArgs d.st, .stmts (defBody d.st), defScope d.st, mainGlobals, [], builtinsNs)
def noV : Value → Bool
  | .none => true
  | _ => false
def Df.ok (K : PySem.W.Frag) (d : Df) : Bool := PySem.W.keepIn K (.ref (d.wh.ad K)) && (match K.lookup (d.wh.ad K) with
  | some o => (match o.data with
    | .func f => PySem.W.codeIn K f.code d.ql && noV f.defaults
    | _ => false)
  | none => false)
theorem noV_eq {v : Value} (h : noV v = true) : v = .none := by
  cases v <;> first | rfl | cases h
theorem Df.fn {K : PySem.W.Frag} {d : Df} (e : d.see K = d.val) (c : d.ok K = true) : ∃ fd, Fun K d.nm d.ql d.st (d.wh.ad K) fd := by
  obtain ⟨c1, c2⟩ := Bool.and_eq_true_iff.mp c
  unfold Df.see at e
  cases q : K.lookup (d.wh.ad K) with
  | none => rw [q] at e; cases e
  | some o =>
    rw [q] at e c2
    obtain ⟨oc, od, dt, sl⟩ := o
    cases dt with
    | func f =>
      obtain ⟨k1, k2⟩ := Bool.and_eq_true_iff.mp c2
      obtain ⟨a1, a2, a3, a4, a5, a6, a7, a8, a9, a10, a11, a12, a13, a14, a15⟩ := f
      have e' := Option.some.inj e
      simp only [Prod.mk.injEq] at e'
      obtain ⟨h1, h2, h3, h4, h5, h6, h7, h8⟩ := e'
      have h9 : a8 = .none := noV_eq k2
      subst h1 h2 h3 h4 h5 h6 h7 h8 h9
      exact ⟨_, ⟨oc, od, a9, a10, a11, a12, a13, a14, sl, rfl, q, k1⟩, c1⟩
    | _ => cases e

/-! ### the defs -/
abbrev s_Runs_init : Stmt := inClass (top 14) 0
def d_Runs_init : Df := ⟨.m "Runs" "__init__", "__init__", "Runs.__init__", s_Runs_init⟩
abbrev s_Runs_row : Stmt := inClass (top 14) 1
def d_Runs_row : Df := ⟨.m "Runs" "row", "row", "Runs.row", s_Runs_row⟩
abbrev s_Runs_found_row : Stmt := inClass (top 14) 2
def d_Runs_found_row : Df := ⟨.m "Runs" "found_row", "found_row", "Runs.found_row", s_Runs_found_row⟩
abbrev s_spots_at : Stmt := top 15
def d_spots_at : Df := ⟨.g "spots_at", "spots_at", "spots_at", s_spots_at⟩
abbrev s_turn_row : Stmt := top 16
def d_turn_row : Df := ⟨.g "turn_row", "turn_row", "turn_row", s_turn_row⟩
abbrev s_row_cycles : Stmt := top 17
def d_row_cycles : Df := ⟨.g "row_cycles", "row_cycles", "row_cycles", s_row_cycles⟩
abbrev s_power_row : Stmt := top 18
def d_power_row : Df := ⟨.g "power_row", "power_row", "power_row", s_power_row⟩
abbrev s_inverse_row : Stmt := top 19
def d_inverse_row : Df := ⟨.g "inverse_row", "inverse_row", "inverse_row", s_inverse_row⟩
abbrev s_is_integer : Stmt := top 23
def d_is_integer : Df := ⟨.g "is_integer", "is_integer", "is_integer", s_is_integer⟩
abbrev s_is_at_least : Stmt := top 24
def d_is_at_least : Df := ⟨.g "is_at_least", "is_at_least", "is_at_least", s_is_at_least⟩
abbrev s_is_rail : Stmt := top 25
def d_is_rail : Df := ⟨.g "is_rail", "is_rail", "is_rail", s_is_rail⟩
abbrev s_clock_fault : Stmt := top 26
def d_clock_fault : Df := ⟨.g "clock_fault", "clock_fault", "clock_fault", s_clock_fault⟩
abbrev s_is_ball : Stmt := top 27
def d_is_ball : Df := ⟨.g "is_ball", "is_ball", "is_ball", s_is_ball⟩
abbrev s_sight_fault : Stmt := top 28
def d_sight_fault : Df := ⟨.g "sight_fault", "sight_fault", "sight_fault", s_sight_fault⟩
abbrev s_require_clock : Stmt := top 29
def d_require_clock : Df := ⟨.g "require_clock", "require_clock", "require_clock", s_require_clock⟩
abbrev s_require_sight : Stmt := top 30
def d_require_sight : Df := ⟨.g "require_sight", "require_sight", "require_sight", s_require_sight⟩
abbrev s_require_ball : Stmt := top 31
def d_require_ball : Df := ⟨.g "require_ball", "require_ball", "require_ball", s_require_ball⟩
abbrev s_require_tick : Stmt := top 32
def d_require_tick : Df := ⟨.g "require_tick", "require_tick", "require_tick", s_require_tick⟩
abbrev s_require_at_least : Stmt := top 33
def d_require_at_least : Df := ⟨.g "require_at_least", "require_at_least", "require_at_least", s_require_at_least⟩
abbrev s_turn_of : Stmt := top 34
def d_turn_of : Df := ⟨.g "turn_of", "turn_of", "turn_of", s_turn_of⟩
abbrev s_digits_of : Stmt := top 35
def d_digits_of : Df := ⟨.g "digits_of", "digits_of", "digits_of", s_digits_of⟩
abbrev s_sight_of : Stmt := top 37
def d_sight_of : Df := ⟨.g "sight_of", "sight_of", "sight_of", s_sight_of⟩
abbrev s_sight_behind : Stmt := top 38
def d_sight_behind : Df := ⟨.g "sight_behind", "sight_behind", "sight_behind", s_sight_behind⟩
abbrev s_ticks_past : Stmt := top 39
def d_ticks_past : Df := ⟨.g "ticks_past", "ticks_past", "ticks_past", s_ticks_past⟩
abbrev s_queue_of : Stmt := top 40
def d_queue_of : Df := ⟨.g "queue_of", "queue_of", "queue_of", s_queue_of⟩
abbrev s_far_sight : Stmt := top 41
def d_far_sight : Df := ⟨.g "far_sight", "far_sight", "far_sight", s_far_sight⟩
abbrev s_moved_sight : Stmt := top 42
def d_moved_sight : Df := ⟨.g "moved_sight", "moved_sight", "moved_sight", s_moved_sight⟩
abbrev s_sight_at : Stmt := top 43
def d_sight_at : Df := ⟨.g "sight_at", "sight_at", "sight_at", s_sight_at⟩
abbrev s_spot_at : Stmt := top 44
def d_spot_at : Df := ⟨.g "spot_at", "spot_at", "spot_at", s_spot_at⟩
abbrev s_common_divisor : Stmt := top 46
def d_common_divisor : Df := ⟨.g "common_divisor", "common_divisor", "common_divisor", s_common_divisor⟩
abbrev s_common_multiple : Stmt := top 47
def d_common_multiple : Df := ⟨.g "common_multiple", "common_multiple", "common_multiple", s_common_multiple⟩
abbrev s_inverse_of : Stmt := top 48
def d_inverse_of : Df := ⟨.g "inverse_of", "inverse_of", "inverse_of", s_inverse_of⟩
abbrev s_joined_two : Stmt := top 49
def d_joined_two : Df := ⟨.g "joined_two", "joined_two", "joined_two", s_joined_two⟩
abbrev s_joined_rests : Stmt := top 50
def d_joined_rests : Df := ⟨.g "joined_rests", "joined_rests", "joined_rests", s_joined_rests⟩
abbrev s_Circles_init : Stmt := inClass (top 52) 0
def d_Circles_init : Df := ⟨.m "Circles" "__init__", "__init__", "Circles.__init__", s_Circles_init⟩
abbrev s_Circles_turns_to : Stmt := inClass (top 52) 3
def d_Circles_turns_to : Df := ⟨.m "Circles" "turns_to", "turns_to", "Circles.turns_to", s_Circles_turns_to⟩
abbrev s_Circles_turns_for : Stmt := inClass (top 52) 4
def d_Circles_turns_for : Df := ⟨.m "Circles" "turns_for", "turns_for", "Circles.turns_for", s_Circles_turns_for⟩
abbrev s_queue_period : Stmt := top 53
def d_queue_period : Df := ⟨.g "queue_period", "queue_period", "queue_period", s_queue_period⟩
abbrev s_order_period : Stmt := top 54
def d_order_period : Df := ⟨.g "order_period", "order_period", "order_period", s_order_period⟩
abbrev s_tick_of : Stmt := top 55
def d_tick_of : Df := ⟨.g "tick_of", "tick_of", "tick_of", s_tick_of⟩
abbrev s_turn_ticks : Stmt := top 57
def d_turn_ticks : Df := ⟨.g "turn_ticks", "turn_ticks", "turn_ticks", s_turn_ticks⟩
abbrev s_BallClock_init : Stmt := inClass (top 59) 0
def d_BallClock_init : Df := ⟨.m "BallClock" "__init__", "__init__", "BallClock.__init__", s_BallClock_init⟩
abbrev s_BallClock_sight_now : Stmt := inClass (top 59) 1
def d_BallClock_sight_now : Df := ⟨.m "BallClock" "sight_now", "sight_now", "BallClock.sight_now", s_BallClock_sight_now⟩
abbrev s_BallClock_keep : Stmt := inClass (top 59) 2
def d_BallClock_keep : Df := ⟨.m "BallClock" "keep", "keep", "BallClock.keep", s_BallClock_keep⟩
abbrev s_BallClock_tick : Stmt := inClass (top 59) 3
def d_BallClock_tick : Df := ⟨.m "BallClock" "tick", "tick", "BallClock.tick", s_BallClock_tick⟩
abbrev s_BallClock_run : Stmt := inClass (top 59) 4
def d_BallClock_run : Df := ⟨.m "BallClock" "run", "run", "BallClock.run", s_BallClock_run⟩
abbrev s_BallClock_swap : Stmt := inClass (top 59) 5
def d_BallClock_swap : Df := ⟨.m "BallClock" "swap", "swap", "BallClock.swap", s_BallClock_swap⟩
abbrev s_BallClock_sight : Stmt := inClass (top 59) 9
def d_BallClock_sight : Df := ⟨.p "BallClock" "sight", "sight", "BallClock.sight", s_BallClock_sight⟩
abbrev s_BallClock_counts : Stmt := inClass (top 59) 10
def d_BallClock_counts : Df := ⟨.p "BallClock" "counts", "counts", "BallClock.counts", s_BallClock_counts⟩
abbrev s_BallClock_moment : Stmt := inClass (top 59) 11
def d_BallClock_moment : Df := ⟨.p "BallClock" "moment", "moment", "BallClock.moment", s_BallClock_moment⟩
abbrev s_sent_back : Stmt := top 61
def d_sent_back : Df := ⟨.g "sent_back", "sent_back", "sent_back", s_sent_back⟩
abbrev s_sight_after : Stmt := top 62
def d_sight_after : Df := ⟨.g "sight_after", "sight_after", "sight_after", s_sight_after⟩
abbrev s_is_item : Stmt := top 65
def d_is_item : Df := ⟨.g "is_item", "is_item", "is_item", s_is_item⟩
abbrev s_require_look : Stmt := top 66
def d_require_look : Df := ⟨.g "require_look", "require_look", "require_look", s_require_look⟩
abbrev s_Turned_init : Stmt := inClass (top 67) 0
def d_Turned_init : Df := ⟨.m "Turned" "__init__", "__init__", "Turned.__init__", s_Turned_init⟩
abbrev s_Turned_place_at : Stmt := inClass (top 67) 1
def d_Turned_place_at : Df := ⟨.m "Turned" "place_at", "place_at", "Turned.place_at", s_Turned_place_at⟩
abbrev s_Turned_turns_fitting : Stmt := inClass (top 67) 2
def d_Turned_turns_fitting : Df := ⟨.m "Turned" "turns_fitting", "turns_fitting", "Turned.turns_fitting", s_Turned_turns_fitting⟩
abbrev s_Turned_rows_fitting : Stmt := inClass (top 67) 3
def d_Turned_rows_fitting : Df := ⟨.m "Turned" "rows_fitting", "rows_fitting", "Turned.rows_fitting", s_Turned_rows_fitting⟩
abbrev s_rows_for : Stmt := top 68
def d_rows_for : Df := ⟨.g "rows_for", "rows_for", "rows_for", s_rows_for⟩
abbrev s_first_fit : Stmt := top 69
def d_first_fit : Df := ⟨.g "first_fit", "first_fit", "first_fit", s_first_fit⟩
abbrev s_require_alike : Stmt := top 71
def d_require_alike : Df := ⟨.g "require_alike", "require_alike", "require_alike", s_require_alike⟩
abbrev s_first_unlike : Stmt := top 72
def d_first_unlike : Df := ⟨.g "first_unlike", "first_unlike", "first_unlike", s_first_unlike⟩
abbrev s_parting_tick : Stmt := top 73
def d_parting_tick : Df := ⟨.g "parting_tick", "parting_tick", "parting_tick", s_parting_tick⟩
abbrev s_natural_of : Stmt := top 78
def d_natural_of : Df := ⟨.g "natural_of", "natural_of", "natural_of", s_natural_of⟩
abbrev s_integer_of : Stmt := top 79
def d_integer_of : Df := ⟨.g "integer_of", "integer_of", "integer_of", s_integer_of⟩
abbrev s_words_of : Stmt := top 80
def d_words_of : Df := ⟨.g "words_of", "words_of", "words_of", s_words_of⟩
abbrev s_format_clock : Stmt := top 81
def d_format_clock : Df := ⟨.g "format_clock", "format_clock", "format_clock", s_format_clock⟩
abbrev s_format_sight : Stmt := top 82
def d_format_sight : Df := ⟨.g "format_sight", "format_sight", "format_sight", s_format_sight⟩
abbrev s_rail_of : Stmt := top 83
def d_rail_of : Df := ⟨.g "rail_of", "rail_of", "rail_of", s_rail_of⟩
abbrev s_parse_clock : Stmt := top 84
def d_parse_clock : Df := ⟨.g "parse_clock", "parse_clock", "parse_clock", s_parse_clock⟩
abbrev s_ball_written : Stmt := top 85
def d_ball_written : Df := ⟨.g "ball_written", "ball_written", "ball_written", s_ball_written⟩
abbrev s_parse_sight : Stmt := top 86
def d_parse_sight : Df := ⟨.g "parse_sight", "parse_sight", "parse_sight", s_parse_sight⟩
abbrev s_clock_values : Stmt := top 89
def d_clock_values : Df := ⟨.g "clock_values", "clock_values", "clock_values", s_clock_values⟩
abbrev s_command_values : Stmt := top 90
def d_command_values : Df := ⟨.g "command_values", "command_values", "command_values", s_command_values⟩
abbrev s_value_text : Stmt := top 91
def d_value_text : Df := ⟨.g "value_text", "value_text", "value_text", s_value_text⟩
abbrev s_numbers_text : Stmt := top 92
def d_numbers_text : Df := ⟨.g "numbers_text", "numbers_text", "numbers_text", s_numbers_text⟩
abbrev s_Console_init : Stmt := inClass (top 93) 0
def d_Console_init : Df := ⟨.m "Console" "__init__", "__init__", "Console.__init__", s_Console_init⟩
abbrev s_Console_set_anew : Stmt := inClass (top 93) 1
def d_Console_set_anew : Df := ⟨.m "Console" "set_anew", "set_anew", "Console.set_anew", s_Console_set_anew⟩
abbrev s_Console_change : Stmt := inClass (top 93) 2
def d_Console_change : Df := ⟨.m "Console" "change", "change", "Console.change", s_Console_change⟩
abbrev s_Console_answer : Stmt := inClass (top 93) 3
def d_Console_answer : Df := ⟨.m "Console" "answer", "answer", "Console.answer", s_Console_answer⟩
abbrev s_Console_execute : Stmt := inClass (top 93) 4
def d_Console_execute : Df := ⟨.m "Console" "execute", "execute", "Console.execute", s_Console_execute⟩
abbrev s_law_stock : Stmt := top 95
def d_law_stock : Df := ⟨.g "_law_stock", "_law_stock", "_law_stock", s_law_stock⟩
abbrev s_law_draw : Stmt := top 96
def d_law_draw : Df := ⟨.g "_law_draw", "_law_draw", "_law_draw", s_law_draw⟩
abbrev s_law_kind : Stmt := top 97
def d_law_kind : Df := ⟨.g "_law_kind", "_law_kind", "_law_kind", s_law_kind⟩
abbrev s_law_console : Stmt := top 101
def d_law_console : Df := ⟨.g "_law_console", "_law_console", "_law_console", s_law_console⟩
abbrev s_law_texts : Stmt := top 102
def d_law_texts : Df := ⟨.g "_law_texts", "_law_texts", "_law_texts", s_law_texts⟩
abbrev s_law_again_right : Stmt := top 103
def d_law_again_right : Df := ⟨.g "_law_again_right", "_law_again_right", "_law_again_right", s_law_again_right⟩
abbrev s_law_spots_right : Stmt := top 104
def d_law_spots_right : Df := ⟨.g "_law_spots_right", "_law_spots_right", "_law_spots_right", s_law_spots_right⟩
abbrev s_law_parts_right : Stmt := top 105
def d_law_parts_right : Df := ⟨.g "_law_parts_right", "_law_parts_right", "_law_parts_right", s_law_parts_right⟩
abbrev s_law : Stmt := top 106
def d_law : Df := ⟨.g "law", "law", "law", s_law⟩
def dfs0 : List Df := [d_Runs_init, d_Runs_row, d_Runs_found_row, d_spots_at, d_turn_row, d_row_cycles, d_power_row, d_inverse_row, d_is_integer, d_is_at_least, d_is_rail, d_clock_fault, d_is_ball, d_sight_fault, d_require_clock, d_require_sight, d_require_ball, d_require_tick, d_require_at_least, d_turn_of]
def dfs1 : List Df := [d_digits_of, d_sight_of, d_sight_behind, d_ticks_past, d_queue_of, d_far_sight, d_moved_sight, d_sight_at, d_spot_at, d_common_divisor, d_common_multiple, d_inverse_of, d_joined_two, d_joined_rests, d_Circles_init, d_Circles_turns_to, d_Circles_turns_for, d_queue_period, d_order_period, d_tick_of]
def dfs2 : List Df := [d_turn_ticks, d_BallClock_init, d_BallClock_sight_now, d_BallClock_keep, d_BallClock_tick, d_BallClock_run, d_BallClock_swap, d_BallClock_sight, d_BallClock_counts, d_BallClock_moment, d_sent_back, d_sight_after, d_is_item, d_require_look, d_Turned_init, d_Turned_place_at, d_Turned_turns_fitting, d_Turned_rows_fitting, d_rows_for, d_first_fit]
def dfs3 : List Df := [d_require_alike, d_first_unlike, d_parting_tick, d_natural_of, d_integer_of, d_words_of, d_format_clock, d_format_sight, d_rail_of, d_parse_clock, d_ball_written, d_parse_sight, d_clock_values, d_command_values, d_value_text, d_numbers_text, d_Console_init, d_Console_set_anew, d_Console_change, d_Console_answer]
def dfs4 : List Df := [d_Console_execute, d_law_stock, d_law_draw, d_law_kind, d_law_console, d_law_texts, d_law_again_right, d_law_spots_right, d_law_parts_right, d_law]
def dfs : List Df := dfs0 ++ dfs1 ++ dfs2 ++ dfs3 ++ dfs4

/-! ### facts by names -/
inductive Fc where
  | fa (f : He.Fa)
  | na (C f : Str)
  | pr (C f : Str)
def Fc.ok (K : PySem.W.Frag) : Fc → Bool
  | .fa f => f.ok K
  | .na C f => (He.Fa.noat C f).ok K
  | .pr C f => He.eqO (PySem.W.findIn K (.ref (He.ga K C)) f) (some (some (.ref (He.ma K (He.ga K C) f)))) && (He.eqO (PySem.W.specialIn K (.ref (He.ma K (He.ga K C) f)) "__get__") (some (some (.builtin "property.__get__"))) &&
      (decide (PySem.W.takesIn K (.ref (He.ma K (He.ga K C) f)) = some true) && isRef1 (PySem.W.recIn K (He.ma K (He.ga K C) f) "property")))
theorem Fc.prop {K : PySem.W.Frag} {C f : Str} (h : (Fc.pr C f).ok K = true) : PropOf K (He.ga K C) f (He.ma K (He.ga K C) f) ((Wh.p C f).ad K) := by
  obtain ⟨h1, h⟩ := Bool.and_eq_true_iff.mp h
  obtain ⟨h2, h⟩ := Bool.and_eq_true_iff.mp h
  obtain ⟨h3, h4⟩ := Bool.and_eq_true_iff.mp h
  exact ⟨He.eqO_ok h1, He.eqO_ok h2, of_decide_eq_true h3, isRef1_ok h4⟩
/-- a text, an int at a key of a written dict -/
def txtAt (K : PySem.W.Frag) (d k z : Str) : Bool := match PySem.W.nsIn K (He.ga K d) k with
  | some (some (.str y _)) => decide (y = z)
  | _ => false
def intAt (K : PySem.W.Frag) (d k : Str) (i : Int) : Bool := match PySem.W.nsIn K (He.ga K d) k with
  | some (some (.int j _)) => decide (j = i)
  | _ => false
theorem txtAt_ok {K : PySem.W.Frag} {d k z : Str} (h : txtAt K d k z = true) : ∃ t, PySem.W.nsIn K (He.ga K d) k = some (some (.str z t)) := by
  unfold txtAt at h
  revert h
  cases PySem.W.nsIn K (He.ga K d) k with
  | none => intro h; cases h
  | some o =>
    cases o with
    | none => intro h; cases h
    | some v =>
      cases v <;> intro h <;> first | cases h | (rename_i y t; have e : y = z := of_decide_eq_true h; rw [e]; exact ⟨t, rfl⟩)
theorem intAt_ok {K : PySem.W.Frag} {d k : Str} {i : Int} (h : intAt K d k i = true) : ∃ t, PySem.W.nsIn K (He.ga K d) k = some (some (.int i t)) := by
  unfold intAt at h
  revert h
  cases PySem.W.nsIn K (He.ga K d) k with
  | none => intro h; cases h
  | some o =>
    cases o with
    | none => intro h; cases h
    | some v =>
      cases v <;> intro h <;> first | cases h | (rename_i y t; have e : y = i := of_decide_eq_true h; rw [e]; exact ⟨t, rfl⟩)
def gls0 : List Str := ["spots_at", "turn_row", "row_cycles", "power_row", "inverse_row", "is_integer", "is_at_least", "is_rail", "clock_fault", "is_ball", "sight_fault", "require_clock", "require_sight", "require_ball", "require_tick", "require_at_least", "turn_of", "digits_of", "sight_of", "sight_behind", "ticks_past", "queue_of", "far_sight", "moved_sight", "sight_at", "spot_at", "common_divisor", "common_multiple", "inverse_of", "joined_two"]
def gls1 : List Str := ["joined_rests", "queue_period", "order_period", "tick_of", "turn_ticks", "sent_back", "sight_after", "is_item", "require_look", "rows_for", "first_fit", "require_alike", "first_unlike", "parting_tick", "natural_of", "integer_of", "words_of", "format_clock", "format_sight", "rail_of", "parse_clock", "ball_written", "parse_sight", "clock_values", "command_values", "value_text", "numbers_text", "_law_stock", "_law_draw", "_law_kind"]
def gls2 : List Str := ["_law_console", "_law_texts", "_law_again_right", "_law_spots_right", "_law_parts_right", "law", "Runs", "Circles", "BallClock", "Turned", "Console", "WAYS", "LETTERS", "FORMS"]
def gls : List Str := gls0 ++ gls1 ++ gls2
def blts : List Str := ["len", "list", "range", "isinstance", "int", "bool", "str", "tuple", "sum", "all", "enumerate", "zip", "divmod", "min", "max", "abs", "sorted"]
def clss : List Str := ["Runs", "Circles", "BallClock", "Turned", "Console"]
def mths : List (Str × Str) := [("Runs", "row"), ("Runs", "found_row"), ("Circles", "turns_to"), ("Circles", "turns_for"), ("BallClock", "sight_now"), ("BallClock", "keep"), ("BallClock", "tick"), ("BallClock", "run"), ("BallClock", "swap"), ("Turned", "place_at"), ("Turned", "turns_fitting"), ("Turned", "rows_fitting"), ("Console", "set_anew"), ("Console", "change"), ("Console", "answer"), ("Console", "execute")]
def flds : List (Str × Str) := [("Runs", "own_rails"), ("Runs", "own_rows"), ("Circles", "kept_cycles"), ("Circles", "kept_spots"), ("BallClock", "kept_clock"), ("BallClock", "kept_calls"), ("Turned", "kept_circles"), ("Turned", "kept_clock"), ("Turned", "kept_turn"), ("Turned", "kept_rows"), ("Console", "set_clock"), ("Console", "set_live")]
def prps : List (Str × Str) := [("BallClock", "sight"), ("BallClock", "counts"), ("BallClock", "moment")]
def frms : List (Str × Int) := [("tick", 0), ("run", 1), ("swap", 2), ("undo", 0), ("sight", 0), ("counts", 0), ("moment", 0), ("turn", 0), ("period", 0), ("when", 0), ("spot", 2), ("look", 4)]
def fcs : List Fc := gls.map (fun x => .fa (.glo x)) ++ (blts.map (fun x => .fa (.free x)) ++ (clss.map (fun x => .fa (.cls x)) ++ (clss.map (fun x => .fa (.mkr x)) ++ (mths.map (fun x => .fa (.meth x.1 x.2)) ++ (flds.map (fun x => .na x.1 x.2) ++ (prps.map (fun x => .pr x.1 x.2) ++
  [.fa (.int "MOST_BALLS" 100), .fa (.int "MOST_ITEMS" 8), .fa (.int "MOST_DIGITS" 30), .fa (.str "DIGIT_SIGNS" "0123456789")]))))))
def more (K : PySem.W.Frag) : Bool := He.tupB K "WAYS" [.str "back", .str "through"] && (txtAt K "LETTERS" "b" "back" && (txtAt K "LETTERS" "t" "through" && frms.all fun x => intAt K "FORMS" x.1 x.2))
def tabs : List (Str × List Str) := [("LETTERS", ["b", "t"]), ("FORMS", frms.map (·.1))]
/-- what is seen of the part K -/
abbrev Al : Type := (Bool × List Sight1) × List (Option (List (Option (Str × Int))))
def seen (K : PySem.W.Frag) : Al := ((fcs.all (fun f => f.ok K) && (more K && dfs.all fun d => d.ok K), dfs.map fun d => d.see K), tabs.map fun t => He.dicW K (He.ga K t.1))
def wanted (w : World) : Al := ((true, dfs.map Df.val), tabs.map fun t => some (He.keysIn w.params t.2))
def Says (w : World) (K : PySem.W.Frag) : Prop := seen K = wanted w
/-- the places of what the facts look at: classes, functions, codes, dicts, a property, one tuple -/
def places : Nat := 0x1c3870e70e73870e1c3806e1ce70e0939c39c3ce1c38739c3873c3870e1c0373870e24e1ce700dc3879e1e79c3870e70e1c39c1270e1c3806e70e1c3824e1c3870e1ce1c38738739c3870e1c3870e70e70e1c3c3870e1c0dce1c121b824370486e090dc121921921921921921920c938224f
/-- the part: the objects at these places, among the first 909 -/
def part (g : Addr → Option Obj) : PySem.W.Frag := He.frG g ((List.range 909).filter fun a => Nat.testBit places a)
def hook : PySem.W.Hook where
  α := Al
  obs := fun s => seen (part s.heap.get?)
  val := fun w => wanted w
  says := fun w h => ∃ K : PySem.W.Frag, K.In h ∧ Says w K
  of := fun _ _ e => ⟨_, He.frG_in, e⟩
  keeps := fun _ _ _ ⟨K, hK, c⟩ k => ⟨K, PySem.W.Frag.In.keeps hK k, c⟩
/-- THE FACTS that every def's proof uses -/
structure Txt (w : World) (K : PySem.W.Frag) (mg : Str → Option Value) : Prop where
  fn : ∀ d ∈ dfs, ∃ fd, Fun K d.nm d.ql d.st (d.wh.ad K) fd
  gl : ∀ x ∈ gls, mg x = some (.ref (He.ga K x))
  bl : ∀ x ∈ blts, mg x = none
  cl : ∀ x ∈ clss, Cls K (He.ga K x)
  mkr : ∀ x ∈ clss, Mk K (He.ga K x) (He.ma K (He.ga K x) "__init__")
  me : ∀ x ∈ mths, Meth K (He.ga K x.1) x.2 (He.ma K (He.ga K x.1) x.2)
  na : ∀ x ∈ flds, NoAttr K (He.ga K x.1) x.2
  pr : ∀ x ∈ prps, PropOf K (He.ga K x.1) x.2 (He.ma K (He.ga K x.1) x.2) ((Wh.p x.1 x.2).ad K)
  mostBalls : ∃ t, mg "MOST_BALLS" = some (.int 100 t)
  mostItems : ∃ t, mg "MOST_ITEMS" = some (.int 8 t)
  mostDigits : ∃ t, mg "MOST_DIGITS" = some (.int 30 t)
  digits : ∃ t, mg "DIGIT_SIGNS" = some (.str "0123456789" t)
  ways : ∀ H, SqT K H (He.ga K "WAYS") [.str "back", .str "through"]
  letB : ∃ t, PySem.W.nsIn K (He.ga K "LETTERS") "b" = some (some (.str "back" t))
  letT : ∃ t, PySem.W.nsIn K (He.ga K "LETTERS") "t" = some (some (.str "through" t))
  form : ∀ x ∈ frms, ∃ t, PySem.W.nsIn K (He.ga K "FORMS") x.1 = some (some (.int x.2 t))
  kdL : ∃ es n, KDict K w (He.ga K "LETTERS") es n
  kdF : ∃ es n, KDict K w (He.ga K "FORMS") es n
theorem Says.txt {w : World} {K : PySem.W.Frag} {h : Heap} {mg : Str → Option Value} (X : K.In h) (G : h.Ns mainGlobals mg) (c : Says w K) : Txt w K mg := by
  have c0 : (fcs.all (fun f => f.ok K) && (more K && dfs.all fun d => d.ok K)) = true := congrArg (fun z : Al => z.1.1) c
  have cs : (dfs.map fun d => d.see K) = dfs.map Df.val := congrArg (fun z : Al => z.1.2) c
  have ct : (tabs.map fun t => He.dicW K (He.ga K t.1)) = tabs.map fun t => some (He.keysIn w.params t.2) := congrArg (fun z : Al => z.2) c
  obtain ⟨c1, c2⟩ := Bool.and_eq_true_iff.mp c0
  obtain ⟨c3, c4⟩ := Bool.and_eq_true_iff.mp c2
  obtain ⟨m1, c3⟩ := Bool.and_eq_true_iff.mp c3
  obtain ⟨m2, c3⟩ := Bool.and_eq_true_iff.mp c3
  obtain ⟨m3, m4⟩ := Bool.and_eq_true_iff.mp c3
  have F : ∀ f ∈ fcs, f.ok K = true := fun f hf => List.all_eq_true.mp c1 f hf
  have inF : ∀ {f : Fc}, f ∈ fcs → f.ok K = true := fun {f} hf => F f hf
  have tb : ∀ t ∈ tabs, He.dicW K (He.ga K t.1) = some (He.keysIn w.params t.2) := fun t ht => List.map_inj_left.mp ct t ht
  refine ⟨fun d hd => ?_, fun x hx => ?_, fun x hx => ?_, fun x hx => ?_, fun x hx => ?_, fun x hx => ?_, fun x hx => ?_, fun x hx => ?_, ?_, ?_, ?_, ?_, fun H => ?_, txtAt_ok m2, txtAt_ok m3, fun x hx => ?_, ?_, ?_⟩
  · exact Df.fn (List.map_inj_left.mp cs d hd) (List.all_eq_true.mp c4 d hd)
  · exact He.glo_ok X G (inF (f := .fa (.glo x)) (by unfold fcs; simp only [List.mem_append, List.mem_map]; exact .inl ⟨x, hx, rfl⟩))
  · exact He.free_ok X G (inF (f := .fa (.free x)) (by unfold fcs; simp only [List.mem_append, List.mem_map]; exact .inr (.inl ⟨x, hx, rfl⟩)))
  · exact He.cls_ok (inF (f := .fa (.cls x)) (by unfold fcs; simp only [List.mem_append, List.mem_map]; exact .inr (.inr (.inl ⟨x, hx, rfl⟩))))
  · exact He.mkr_ok (inF (f := .fa (.mkr x)) (by unfold fcs; simp only [List.mem_append, List.mem_map]; exact .inr (.inr (.inr (.inl ⟨x, hx, rfl⟩)))))
  · exact He.meth_ok (inF (f := .fa (.meth x.1 x.2)) (by unfold fcs; simp only [List.mem_append, List.mem_map]; exact .inr (.inr (.inr (.inr (.inl ⟨x, hx, rfl⟩))))))
  · exact He.noat_ok (inF (f := .na x.1 x.2) (by unfold fcs; simp only [List.mem_append, List.mem_map]; exact .inr (.inr (.inr (.inr (.inr (.inl ⟨x, hx, rfl⟩)))))))
  · exact Fc.prop (inF (f := .pr x.1 x.2) (by unfold fcs; simp only [List.mem_append, List.mem_map]; exact .inr (.inr (.inr (.inr (.inr (.inr (.inl ⟨x, hx, rfl⟩))))))))
  · exact He.int_ok X G (inF (f := .fa (.int "MOST_BALLS" 100)) (by unfold fcs; simp only [List.mem_append]; exact .inr (.inr (.inr (.inr (.inr (.inr (.inr (.head _)))))))))
  · exact He.int_ok X G (inF (f := .fa (.int "MOST_ITEMS" 8)) (by unfold fcs; simp only [List.mem_append]; exact .inr (.inr (.inr (.inr (.inr (.inr (.inr (.tail _ (.head _))))))))))
  · exact He.int_ok X G (inF (f := .fa (.int "MOST_DIGITS" 30)) (by unfold fcs; simp only [List.mem_append]; exact .inr (.inr (.inr (.inr (.inr (.inr (.inr (.tail _ (.tail _ (.head _)))))))))))
  · exact He.str_ok X G (inF (f := .fa (.str "DIGIT_SIGNS" "0123456789")) (by unfold fcs; simp only [List.mem_append]; exact .inr (.inr (.inr (.inr (.inr (.inr (.inr (.tail _ (.tail _ (.tail _ (.head _))))))))))))
  · exact He.tupB_ok m1 H
  · exact intAt_ok (List.all_eq_true.mp m4 x hx)
  · exact He.dicW_ok (tb ("LETTERS", ["b", "t"]) (.head _))
  · exact He.dicW_ok (tb ("FORMS", frms.map (·.1)) (.tail _ (.head _)))
section
variable {w : World} {K : PySem.W.Frag} {mg : Str → Option Value}
theorem Txt.f_Runs_init (T : Txt w K mg) : ∃ fd, Fun K "__init__" "Runs.__init__" s_Runs_init ((.m "Runs" "__init__" : Wh).ad K) fd := T.fn d_Runs_init (List.mem_of_getElem? (i := 0) rfl)
theorem Txt.f_Runs_row (T : Txt w K mg) : ∃ fd, Fun K "row" "Runs.row" s_Runs_row ((.m "Runs" "row" : Wh).ad K) fd := T.fn d_Runs_row (List.mem_of_getElem? (i := 1) rfl)
theorem Txt.f_Runs_found_row (T : Txt w K mg) : ∃ fd, Fun K "found_row" "Runs.found_row" s_Runs_found_row ((.m "Runs" "found_row" : Wh).ad K) fd := T.fn d_Runs_found_row (List.mem_of_getElem? (i := 2) rfl)
theorem Txt.f_spots_at (T : Txt w K mg) : ∃ fd, Fun K "spots_at" "spots_at" s_spots_at ((.g "spots_at" : Wh).ad K) fd := T.fn d_spots_at (List.mem_of_getElem? (i := 3) rfl)
theorem Txt.f_turn_row (T : Txt w K mg) : ∃ fd, Fun K "turn_row" "turn_row" s_turn_row ((.g "turn_row" : Wh).ad K) fd := T.fn d_turn_row (List.mem_of_getElem? (i := 4) rfl)
theorem Txt.f_row_cycles (T : Txt w K mg) : ∃ fd, Fun K "row_cycles" "row_cycles" s_row_cycles ((.g "row_cycles" : Wh).ad K) fd := T.fn d_row_cycles (List.mem_of_getElem? (i := 5) rfl)
theorem Txt.f_power_row (T : Txt w K mg) : ∃ fd, Fun K "power_row" "power_row" s_power_row ((.g "power_row" : Wh).ad K) fd := T.fn d_power_row (List.mem_of_getElem? (i := 6) rfl)
theorem Txt.f_inverse_row (T : Txt w K mg) : ∃ fd, Fun K "inverse_row" "inverse_row" s_inverse_row ((.g "inverse_row" : Wh).ad K) fd := T.fn d_inverse_row (List.mem_of_getElem? (i := 7) rfl)
theorem Txt.f_is_integer (T : Txt w K mg) : ∃ fd, Fun K "is_integer" "is_integer" s_is_integer ((.g "is_integer" : Wh).ad K) fd := T.fn d_is_integer (List.mem_of_getElem? (i := 8) rfl)
theorem Txt.f_is_at_least (T : Txt w K mg) : ∃ fd, Fun K "is_at_least" "is_at_least" s_is_at_least ((.g "is_at_least" : Wh).ad K) fd := T.fn d_is_at_least (List.mem_of_getElem? (i := 9) rfl)
theorem Txt.f_is_rail (T : Txt w K mg) : ∃ fd, Fun K "is_rail" "is_rail" s_is_rail ((.g "is_rail" : Wh).ad K) fd := T.fn d_is_rail (List.mem_of_getElem? (i := 10) rfl)
theorem Txt.f_clock_fault (T : Txt w K mg) : ∃ fd, Fun K "clock_fault" "clock_fault" s_clock_fault ((.g "clock_fault" : Wh).ad K) fd := T.fn d_clock_fault (List.mem_of_getElem? (i := 11) rfl)
theorem Txt.f_is_ball (T : Txt w K mg) : ∃ fd, Fun K "is_ball" "is_ball" s_is_ball ((.g "is_ball" : Wh).ad K) fd := T.fn d_is_ball (List.mem_of_getElem? (i := 12) rfl)
theorem Txt.f_sight_fault (T : Txt w K mg) : ∃ fd, Fun K "sight_fault" "sight_fault" s_sight_fault ((.g "sight_fault" : Wh).ad K) fd := T.fn d_sight_fault (List.mem_of_getElem? (i := 13) rfl)
theorem Txt.f_require_clock (T : Txt w K mg) : ∃ fd, Fun K "require_clock" "require_clock" s_require_clock ((.g "require_clock" : Wh).ad K) fd := T.fn d_require_clock (List.mem_of_getElem? (i := 14) rfl)
theorem Txt.f_require_sight (T : Txt w K mg) : ∃ fd, Fun K "require_sight" "require_sight" s_require_sight ((.g "require_sight" : Wh).ad K) fd := T.fn d_require_sight (List.mem_of_getElem? (i := 15) rfl)
theorem Txt.f_require_ball (T : Txt w K mg) : ∃ fd, Fun K "require_ball" "require_ball" s_require_ball ((.g "require_ball" : Wh).ad K) fd := T.fn d_require_ball (List.mem_of_getElem? (i := 16) rfl)
theorem Txt.f_require_tick (T : Txt w K mg) : ∃ fd, Fun K "require_tick" "require_tick" s_require_tick ((.g "require_tick" : Wh).ad K) fd := T.fn d_require_tick (List.mem_of_getElem? (i := 17) rfl)
theorem Txt.f_require_at_least (T : Txt w K mg) : ∃ fd, Fun K "require_at_least" "require_at_least" s_require_at_least ((.g "require_at_least" : Wh).ad K) fd := T.fn d_require_at_least (List.mem_of_getElem? (i := 18) rfl)
theorem Txt.f_turn_of (T : Txt w K mg) : ∃ fd, Fun K "turn_of" "turn_of" s_turn_of ((.g "turn_of" : Wh).ad K) fd := T.fn d_turn_of (List.mem_of_getElem? (i := 19) rfl)
theorem Txt.f_digits_of (T : Txt w K mg) : ∃ fd, Fun K "digits_of" "digits_of" s_digits_of ((.g "digits_of" : Wh).ad K) fd := T.fn d_digits_of (List.mem_of_getElem? (i := 20) rfl)
theorem Txt.f_sight_of (T : Txt w K mg) : ∃ fd, Fun K "sight_of" "sight_of" s_sight_of ((.g "sight_of" : Wh).ad K) fd := T.fn d_sight_of (List.mem_of_getElem? (i := 21) rfl)
theorem Txt.f_sight_behind (T : Txt w K mg) : ∃ fd, Fun K "sight_behind" "sight_behind" s_sight_behind ((.g "sight_behind" : Wh).ad K) fd := T.fn d_sight_behind (List.mem_of_getElem? (i := 22) rfl)
theorem Txt.f_ticks_past (T : Txt w K mg) : ∃ fd, Fun K "ticks_past" "ticks_past" s_ticks_past ((.g "ticks_past" : Wh).ad K) fd := T.fn d_ticks_past (List.mem_of_getElem? (i := 23) rfl)
theorem Txt.f_queue_of (T : Txt w K mg) : ∃ fd, Fun K "queue_of" "queue_of" s_queue_of ((.g "queue_of" : Wh).ad K) fd := T.fn d_queue_of (List.mem_of_getElem? (i := 24) rfl)
theorem Txt.f_far_sight (T : Txt w K mg) : ∃ fd, Fun K "far_sight" "far_sight" s_far_sight ((.g "far_sight" : Wh).ad K) fd := T.fn d_far_sight (List.mem_of_getElem? (i := 25) rfl)
theorem Txt.f_moved_sight (T : Txt w K mg) : ∃ fd, Fun K "moved_sight" "moved_sight" s_moved_sight ((.g "moved_sight" : Wh).ad K) fd := T.fn d_moved_sight (List.mem_of_getElem? (i := 26) rfl)
theorem Txt.f_sight_at (T : Txt w K mg) : ∃ fd, Fun K "sight_at" "sight_at" s_sight_at ((.g "sight_at" : Wh).ad K) fd := T.fn d_sight_at (List.mem_of_getElem? (i := 27) rfl)
theorem Txt.f_spot_at (T : Txt w K mg) : ∃ fd, Fun K "spot_at" "spot_at" s_spot_at ((.g "spot_at" : Wh).ad K) fd := T.fn d_spot_at (List.mem_of_getElem? (i := 28) rfl)
theorem Txt.f_common_divisor (T : Txt w K mg) : ∃ fd, Fun K "common_divisor" "common_divisor" s_common_divisor ((.g "common_divisor" : Wh).ad K) fd := T.fn d_common_divisor (List.mem_of_getElem? (i := 29) rfl)
theorem Txt.f_common_multiple (T : Txt w K mg) : ∃ fd, Fun K "common_multiple" "common_multiple" s_common_multiple ((.g "common_multiple" : Wh).ad K) fd := T.fn d_common_multiple (List.mem_of_getElem? (i := 30) rfl)
theorem Txt.f_inverse_of (T : Txt w K mg) : ∃ fd, Fun K "inverse_of" "inverse_of" s_inverse_of ((.g "inverse_of" : Wh).ad K) fd := T.fn d_inverse_of (List.mem_of_getElem? (i := 31) rfl)
theorem Txt.f_joined_two (T : Txt w K mg) : ∃ fd, Fun K "joined_two" "joined_two" s_joined_two ((.g "joined_two" : Wh).ad K) fd := T.fn d_joined_two (List.mem_of_getElem? (i := 32) rfl)
theorem Txt.f_joined_rests (T : Txt w K mg) : ∃ fd, Fun K "joined_rests" "joined_rests" s_joined_rests ((.g "joined_rests" : Wh).ad K) fd := T.fn d_joined_rests (List.mem_of_getElem? (i := 33) rfl)
theorem Txt.f_Circles_init (T : Txt w K mg) : ∃ fd, Fun K "__init__" "Circles.__init__" s_Circles_init ((.m "Circles" "__init__" : Wh).ad K) fd := T.fn d_Circles_init (List.mem_of_getElem? (i := 34) rfl)
theorem Txt.f_Circles_turns_to (T : Txt w K mg) : ∃ fd, Fun K "turns_to" "Circles.turns_to" s_Circles_turns_to ((.m "Circles" "turns_to" : Wh).ad K) fd := T.fn d_Circles_turns_to (List.mem_of_getElem? (i := 35) rfl)
theorem Txt.f_Circles_turns_for (T : Txt w K mg) : ∃ fd, Fun K "turns_for" "Circles.turns_for" s_Circles_turns_for ((.m "Circles" "turns_for" : Wh).ad K) fd := T.fn d_Circles_turns_for (List.mem_of_getElem? (i := 36) rfl)
theorem Txt.f_queue_period (T : Txt w K mg) : ∃ fd, Fun K "queue_period" "queue_period" s_queue_period ((.g "queue_period" : Wh).ad K) fd := T.fn d_queue_period (List.mem_of_getElem? (i := 37) rfl)
theorem Txt.f_order_period (T : Txt w K mg) : ∃ fd, Fun K "order_period" "order_period" s_order_period ((.g "order_period" : Wh).ad K) fd := T.fn d_order_period (List.mem_of_getElem? (i := 38) rfl)
theorem Txt.f_tick_of (T : Txt w K mg) : ∃ fd, Fun K "tick_of" "tick_of" s_tick_of ((.g "tick_of" : Wh).ad K) fd := T.fn d_tick_of (List.mem_of_getElem? (i := 39) rfl)
theorem Txt.f_turn_ticks (T : Txt w K mg) : ∃ fd, Fun K "turn_ticks" "turn_ticks" s_turn_ticks ((.g "turn_ticks" : Wh).ad K) fd := T.fn d_turn_ticks (List.mem_of_getElem? (i := 40) rfl)
theorem Txt.f_BallClock_init (T : Txt w K mg) : ∃ fd, Fun K "__init__" "BallClock.__init__" s_BallClock_init ((.m "BallClock" "__init__" : Wh).ad K) fd := T.fn d_BallClock_init (List.mem_of_getElem? (i := 41) rfl)
theorem Txt.f_BallClock_sight_now (T : Txt w K mg) : ∃ fd, Fun K "sight_now" "BallClock.sight_now" s_BallClock_sight_now ((.m "BallClock" "sight_now" : Wh).ad K) fd := T.fn d_BallClock_sight_now (List.mem_of_getElem? (i := 42) rfl)
theorem Txt.f_BallClock_keep (T : Txt w K mg) : ∃ fd, Fun K "keep" "BallClock.keep" s_BallClock_keep ((.m "BallClock" "keep" : Wh).ad K) fd := T.fn d_BallClock_keep (List.mem_of_getElem? (i := 43) rfl)
theorem Txt.f_BallClock_tick (T : Txt w K mg) : ∃ fd, Fun K "tick" "BallClock.tick" s_BallClock_tick ((.m "BallClock" "tick" : Wh).ad K) fd := T.fn d_BallClock_tick (List.mem_of_getElem? (i := 44) rfl)
theorem Txt.f_BallClock_run (T : Txt w K mg) : ∃ fd, Fun K "run" "BallClock.run" s_BallClock_run ((.m "BallClock" "run" : Wh).ad K) fd := T.fn d_BallClock_run (List.mem_of_getElem? (i := 45) rfl)
theorem Txt.f_BallClock_swap (T : Txt w K mg) : ∃ fd, Fun K "swap" "BallClock.swap" s_BallClock_swap ((.m "BallClock" "swap" : Wh).ad K) fd := T.fn d_BallClock_swap (List.mem_of_getElem? (i := 46) rfl)
theorem Txt.f_BallClock_sight (T : Txt w K mg) : ∃ fd, Fun K "sight" "BallClock.sight" s_BallClock_sight ((.p "BallClock" "sight" : Wh).ad K) fd := T.fn d_BallClock_sight (List.mem_of_getElem? (i := 47) rfl)
theorem Txt.f_BallClock_counts (T : Txt w K mg) : ∃ fd, Fun K "counts" "BallClock.counts" s_BallClock_counts ((.p "BallClock" "counts" : Wh).ad K) fd := T.fn d_BallClock_counts (List.mem_of_getElem? (i := 48) rfl)
theorem Txt.f_BallClock_moment (T : Txt w K mg) : ∃ fd, Fun K "moment" "BallClock.moment" s_BallClock_moment ((.p "BallClock" "moment" : Wh).ad K) fd := T.fn d_BallClock_moment (List.mem_of_getElem? (i := 49) rfl)
theorem Txt.f_sent_back (T : Txt w K mg) : ∃ fd, Fun K "sent_back" "sent_back" s_sent_back ((.g "sent_back" : Wh).ad K) fd := T.fn d_sent_back (List.mem_of_getElem? (i := 50) rfl)
theorem Txt.f_sight_after (T : Txt w K mg) : ∃ fd, Fun K "sight_after" "sight_after" s_sight_after ((.g "sight_after" : Wh).ad K) fd := T.fn d_sight_after (List.mem_of_getElem? (i := 51) rfl)
theorem Txt.f_is_item (T : Txt w K mg) : ∃ fd, Fun K "is_item" "is_item" s_is_item ((.g "is_item" : Wh).ad K) fd := T.fn d_is_item (List.mem_of_getElem? (i := 52) rfl)
theorem Txt.f_require_look (T : Txt w K mg) : ∃ fd, Fun K "require_look" "require_look" s_require_look ((.g "require_look" : Wh).ad K) fd := T.fn d_require_look (List.mem_of_getElem? (i := 53) rfl)
theorem Txt.f_Turned_init (T : Txt w K mg) : ∃ fd, Fun K "__init__" "Turned.__init__" s_Turned_init ((.m "Turned" "__init__" : Wh).ad K) fd := T.fn d_Turned_init (List.mem_of_getElem? (i := 54) rfl)
theorem Txt.f_Turned_place_at (T : Txt w K mg) : ∃ fd, Fun K "place_at" "Turned.place_at" s_Turned_place_at ((.m "Turned" "place_at" : Wh).ad K) fd := T.fn d_Turned_place_at (List.mem_of_getElem? (i := 55) rfl)
theorem Txt.f_Turned_turns_fitting (T : Txt w K mg) : ∃ fd, Fun K "turns_fitting" "Turned.turns_fitting" s_Turned_turns_fitting ((.m "Turned" "turns_fitting" : Wh).ad K) fd := T.fn d_Turned_turns_fitting (List.mem_of_getElem? (i := 56) rfl)
theorem Txt.f_Turned_rows_fitting (T : Txt w K mg) : ∃ fd, Fun K "rows_fitting" "Turned.rows_fitting" s_Turned_rows_fitting ((.m "Turned" "rows_fitting" : Wh).ad K) fd := T.fn d_Turned_rows_fitting (List.mem_of_getElem? (i := 57) rfl)
theorem Txt.f_rows_for (T : Txt w K mg) : ∃ fd, Fun K "rows_for" "rows_for" s_rows_for ((.g "rows_for" : Wh).ad K) fd := T.fn d_rows_for (List.mem_of_getElem? (i := 58) rfl)
theorem Txt.f_first_fit (T : Txt w K mg) : ∃ fd, Fun K "first_fit" "first_fit" s_first_fit ((.g "first_fit" : Wh).ad K) fd := T.fn d_first_fit (List.mem_of_getElem? (i := 59) rfl)
theorem Txt.f_require_alike (T : Txt w K mg) : ∃ fd, Fun K "require_alike" "require_alike" s_require_alike ((.g "require_alike" : Wh).ad K) fd := T.fn d_require_alike (List.mem_of_getElem? (i := 60) rfl)
theorem Txt.f_first_unlike (T : Txt w K mg) : ∃ fd, Fun K "first_unlike" "first_unlike" s_first_unlike ((.g "first_unlike" : Wh).ad K) fd := T.fn d_first_unlike (List.mem_of_getElem? (i := 61) rfl)
theorem Txt.f_parting_tick (T : Txt w K mg) : ∃ fd, Fun K "parting_tick" "parting_tick" s_parting_tick ((.g "parting_tick" : Wh).ad K) fd := T.fn d_parting_tick (List.mem_of_getElem? (i := 62) rfl)
theorem Txt.f_natural_of (T : Txt w K mg) : ∃ fd, Fun K "natural_of" "natural_of" s_natural_of ((.g "natural_of" : Wh).ad K) fd := T.fn d_natural_of (List.mem_of_getElem? (i := 63) rfl)
theorem Txt.f_integer_of (T : Txt w K mg) : ∃ fd, Fun K "integer_of" "integer_of" s_integer_of ((.g "integer_of" : Wh).ad K) fd := T.fn d_integer_of (List.mem_of_getElem? (i := 64) rfl)
theorem Txt.f_words_of (T : Txt w K mg) : ∃ fd, Fun K "words_of" "words_of" s_words_of ((.g "words_of" : Wh).ad K) fd := T.fn d_words_of (List.mem_of_getElem? (i := 65) rfl)
theorem Txt.f_format_clock (T : Txt w K mg) : ∃ fd, Fun K "format_clock" "format_clock" s_format_clock ((.g "format_clock" : Wh).ad K) fd := T.fn d_format_clock (List.mem_of_getElem? (i := 66) rfl)
theorem Txt.f_format_sight (T : Txt w K mg) : ∃ fd, Fun K "format_sight" "format_sight" s_format_sight ((.g "format_sight" : Wh).ad K) fd := T.fn d_format_sight (List.mem_of_getElem? (i := 67) rfl)
theorem Txt.f_rail_of (T : Txt w K mg) : ∃ fd, Fun K "rail_of" "rail_of" s_rail_of ((.g "rail_of" : Wh).ad K) fd := T.fn d_rail_of (List.mem_of_getElem? (i := 68) rfl)
theorem Txt.f_parse_clock (T : Txt w K mg) : ∃ fd, Fun K "parse_clock" "parse_clock" s_parse_clock ((.g "parse_clock" : Wh).ad K) fd := T.fn d_parse_clock (List.mem_of_getElem? (i := 69) rfl)
theorem Txt.f_ball_written (T : Txt w K mg) : ∃ fd, Fun K "ball_written" "ball_written" s_ball_written ((.g "ball_written" : Wh).ad K) fd := T.fn d_ball_written (List.mem_of_getElem? (i := 70) rfl)
theorem Txt.f_parse_sight (T : Txt w K mg) : ∃ fd, Fun K "parse_sight" "parse_sight" s_parse_sight ((.g "parse_sight" : Wh).ad K) fd := T.fn d_parse_sight (List.mem_of_getElem? (i := 71) rfl)
theorem Txt.f_clock_values (T : Txt w K mg) : ∃ fd, Fun K "clock_values" "clock_values" s_clock_values ((.g "clock_values" : Wh).ad K) fd := T.fn d_clock_values (List.mem_of_getElem? (i := 72) rfl)
theorem Txt.f_command_values (T : Txt w K mg) : ∃ fd, Fun K "command_values" "command_values" s_command_values ((.g "command_values" : Wh).ad K) fd := T.fn d_command_values (List.mem_of_getElem? (i := 73) rfl)
theorem Txt.f_value_text (T : Txt w K mg) : ∃ fd, Fun K "value_text" "value_text" s_value_text ((.g "value_text" : Wh).ad K) fd := T.fn d_value_text (List.mem_of_getElem? (i := 74) rfl)
theorem Txt.f_numbers_text (T : Txt w K mg) : ∃ fd, Fun K "numbers_text" "numbers_text" s_numbers_text ((.g "numbers_text" : Wh).ad K) fd := T.fn d_numbers_text (List.mem_of_getElem? (i := 75) rfl)
theorem Txt.f_Console_init (T : Txt w K mg) : ∃ fd, Fun K "__init__" "Console.__init__" s_Console_init ((.m "Console" "__init__" : Wh).ad K) fd := T.fn d_Console_init (List.mem_of_getElem? (i := 76) rfl)
theorem Txt.f_Console_set_anew (T : Txt w K mg) : ∃ fd, Fun K "set_anew" "Console.set_anew" s_Console_set_anew ((.m "Console" "set_anew" : Wh).ad K) fd := T.fn d_Console_set_anew (List.mem_of_getElem? (i := 77) rfl)
theorem Txt.f_Console_change (T : Txt w K mg) : ∃ fd, Fun K "change" "Console.change" s_Console_change ((.m "Console" "change" : Wh).ad K) fd := T.fn d_Console_change (List.mem_of_getElem? (i := 78) rfl)
theorem Txt.f_Console_answer (T : Txt w K mg) : ∃ fd, Fun K "answer" "Console.answer" s_Console_answer ((.m "Console" "answer" : Wh).ad K) fd := T.fn d_Console_answer (List.mem_of_getElem? (i := 79) rfl)
theorem Txt.f_Console_execute (T : Txt w K mg) : ∃ fd, Fun K "execute" "Console.execute" s_Console_execute ((.m "Console" "execute" : Wh).ad K) fd := T.fn d_Console_execute (List.mem_of_getElem? (i := 80) rfl)
theorem Txt.f_law_stock (T : Txt w K mg) : ∃ fd, Fun K "_law_stock" "_law_stock" s_law_stock ((.g "_law_stock" : Wh).ad K) fd := T.fn d_law_stock (List.mem_of_getElem? (i := 81) rfl)
theorem Txt.f_law_draw (T : Txt w K mg) : ∃ fd, Fun K "_law_draw" "_law_draw" s_law_draw ((.g "_law_draw" : Wh).ad K) fd := T.fn d_law_draw (List.mem_of_getElem? (i := 82) rfl)
theorem Txt.f_law_kind (T : Txt w K mg) : ∃ fd, Fun K "_law_kind" "_law_kind" s_law_kind ((.g "_law_kind" : Wh).ad K) fd := T.fn d_law_kind (List.mem_of_getElem? (i := 83) rfl)
theorem Txt.f_law_console (T : Txt w K mg) : ∃ fd, Fun K "_law_console" "_law_console" s_law_console ((.g "_law_console" : Wh).ad K) fd := T.fn d_law_console (List.mem_of_getElem? (i := 84) rfl)
theorem Txt.f_law_texts (T : Txt w K mg) : ∃ fd, Fun K "_law_texts" "_law_texts" s_law_texts ((.g "_law_texts" : Wh).ad K) fd := T.fn d_law_texts (List.mem_of_getElem? (i := 85) rfl)
theorem Txt.f_law_again_right (T : Txt w K mg) : ∃ fd, Fun K "_law_again_right" "_law_again_right" s_law_again_right ((.g "_law_again_right" : Wh).ad K) fd := T.fn d_law_again_right (List.mem_of_getElem? (i := 86) rfl)
theorem Txt.f_law_spots_right (T : Txt w K mg) : ∃ fd, Fun K "_law_spots_right" "_law_spots_right" s_law_spots_right ((.g "_law_spots_right" : Wh).ad K) fd := T.fn d_law_spots_right (List.mem_of_getElem? (i := 87) rfl)
theorem Txt.f_law_parts_right (T : Txt w K mg) : ∃ fd, Fun K "_law_parts_right" "_law_parts_right" s_law_parts_right ((.g "_law_parts_right" : Wh).ad K) fd := T.fn d_law_parts_right (List.mem_of_getElem? (i := 88) rfl)
theorem Txt.f_law (T : Txt w K mg) : ∃ fd, Fun K "law" "law" s_law ((.g "law" : Wh).ad K) fd := T.fn d_law (List.mem_of_getElem? (i := 89) rfl)
theorem Txt.g_spots_at (T : Txt w K mg) : mg "spots_at" = some (.ref (He.ga K "spots_at")) := T.gl _ (List.mem_of_getElem? (i := 0) rfl)
theorem Txt.g_turn_row (T : Txt w K mg) : mg "turn_row" = some (.ref (He.ga K "turn_row")) := T.gl _ (List.mem_of_getElem? (i := 1) rfl)
theorem Txt.g_row_cycles (T : Txt w K mg) : mg "row_cycles" = some (.ref (He.ga K "row_cycles")) := T.gl _ (List.mem_of_getElem? (i := 2) rfl)
theorem Txt.g_power_row (T : Txt w K mg) : mg "power_row" = some (.ref (He.ga K "power_row")) := T.gl _ (List.mem_of_getElem? (i := 3) rfl)
theorem Txt.g_inverse_row (T : Txt w K mg) : mg "inverse_row" = some (.ref (He.ga K "inverse_row")) := T.gl _ (List.mem_of_getElem? (i := 4) rfl)
theorem Txt.g_is_integer (T : Txt w K mg) : mg "is_integer" = some (.ref (He.ga K "is_integer")) := T.gl _ (List.mem_of_getElem? (i := 5) rfl)
theorem Txt.g_is_at_least (T : Txt w K mg) : mg "is_at_least" = some (.ref (He.ga K "is_at_least")) := T.gl _ (List.mem_of_getElem? (i := 6) rfl)
theorem Txt.g_is_rail (T : Txt w K mg) : mg "is_rail" = some (.ref (He.ga K "is_rail")) := T.gl _ (List.mem_of_getElem? (i := 7) rfl)
theorem Txt.g_clock_fault (T : Txt w K mg) : mg "clock_fault" = some (.ref (He.ga K "clock_fault")) := T.gl _ (List.mem_of_getElem? (i := 8) rfl)
theorem Txt.g_is_ball (T : Txt w K mg) : mg "is_ball" = some (.ref (He.ga K "is_ball")) := T.gl _ (List.mem_of_getElem? (i := 9) rfl)
theorem Txt.g_sight_fault (T : Txt w K mg) : mg "sight_fault" = some (.ref (He.ga K "sight_fault")) := T.gl _ (List.mem_of_getElem? (i := 10) rfl)
theorem Txt.g_require_clock (T : Txt w K mg) : mg "require_clock" = some (.ref (He.ga K "require_clock")) := T.gl _ (List.mem_of_getElem? (i := 11) rfl)
theorem Txt.g_require_sight (T : Txt w K mg) : mg "require_sight" = some (.ref (He.ga K "require_sight")) := T.gl _ (List.mem_of_getElem? (i := 12) rfl)
theorem Txt.g_require_ball (T : Txt w K mg) : mg "require_ball" = some (.ref (He.ga K "require_ball")) := T.gl _ (List.mem_of_getElem? (i := 13) rfl)
theorem Txt.g_require_tick (T : Txt w K mg) : mg "require_tick" = some (.ref (He.ga K "require_tick")) := T.gl _ (List.mem_of_getElem? (i := 14) rfl)
theorem Txt.g_require_at_least (T : Txt w K mg) : mg "require_at_least" = some (.ref (He.ga K "require_at_least")) := T.gl _ (List.mem_of_getElem? (i := 15) rfl)
theorem Txt.g_turn_of (T : Txt w K mg) : mg "turn_of" = some (.ref (He.ga K "turn_of")) := T.gl _ (List.mem_of_getElem? (i := 16) rfl)
theorem Txt.g_digits_of (T : Txt w K mg) : mg "digits_of" = some (.ref (He.ga K "digits_of")) := T.gl _ (List.mem_of_getElem? (i := 17) rfl)
theorem Txt.g_sight_of (T : Txt w K mg) : mg "sight_of" = some (.ref (He.ga K "sight_of")) := T.gl _ (List.mem_of_getElem? (i := 18) rfl)
theorem Txt.g_sight_behind (T : Txt w K mg) : mg "sight_behind" = some (.ref (He.ga K "sight_behind")) := T.gl _ (List.mem_of_getElem? (i := 19) rfl)
theorem Txt.g_ticks_past (T : Txt w K mg) : mg "ticks_past" = some (.ref (He.ga K "ticks_past")) := T.gl _ (List.mem_of_getElem? (i := 20) rfl)
theorem Txt.g_queue_of (T : Txt w K mg) : mg "queue_of" = some (.ref (He.ga K "queue_of")) := T.gl _ (List.mem_of_getElem? (i := 21) rfl)
theorem Txt.g_far_sight (T : Txt w K mg) : mg "far_sight" = some (.ref (He.ga K "far_sight")) := T.gl _ (List.mem_of_getElem? (i := 22) rfl)
theorem Txt.g_moved_sight (T : Txt w K mg) : mg "moved_sight" = some (.ref (He.ga K "moved_sight")) := T.gl _ (List.mem_of_getElem? (i := 23) rfl)
theorem Txt.g_sight_at (T : Txt w K mg) : mg "sight_at" = some (.ref (He.ga K "sight_at")) := T.gl _ (List.mem_of_getElem? (i := 24) rfl)
theorem Txt.g_spot_at (T : Txt w K mg) : mg "spot_at" = some (.ref (He.ga K "spot_at")) := T.gl _ (List.mem_of_getElem? (i := 25) rfl)
theorem Txt.g_common_divisor (T : Txt w K mg) : mg "common_divisor" = some (.ref (He.ga K "common_divisor")) := T.gl _ (List.mem_of_getElem? (i := 26) rfl)
theorem Txt.g_common_multiple (T : Txt w K mg) : mg "common_multiple" = some (.ref (He.ga K "common_multiple")) := T.gl _ (List.mem_of_getElem? (i := 27) rfl)
theorem Txt.g_inverse_of (T : Txt w K mg) : mg "inverse_of" = some (.ref (He.ga K "inverse_of")) := T.gl _ (List.mem_of_getElem? (i := 28) rfl)
theorem Txt.g_joined_two (T : Txt w K mg) : mg "joined_two" = some (.ref (He.ga K "joined_two")) := T.gl _ (List.mem_of_getElem? (i := 29) rfl)
theorem Txt.g_joined_rests (T : Txt w K mg) : mg "joined_rests" = some (.ref (He.ga K "joined_rests")) := T.gl _ (List.mem_of_getElem? (i := 30) rfl)
theorem Txt.g_queue_period (T : Txt w K mg) : mg "queue_period" = some (.ref (He.ga K "queue_period")) := T.gl _ (List.mem_of_getElem? (i := 31) rfl)
theorem Txt.g_order_period (T : Txt w K mg) : mg "order_period" = some (.ref (He.ga K "order_period")) := T.gl _ (List.mem_of_getElem? (i := 32) rfl)
theorem Txt.g_tick_of (T : Txt w K mg) : mg "tick_of" = some (.ref (He.ga K "tick_of")) := T.gl _ (List.mem_of_getElem? (i := 33) rfl)
theorem Txt.g_turn_ticks (T : Txt w K mg) : mg "turn_ticks" = some (.ref (He.ga K "turn_ticks")) := T.gl _ (List.mem_of_getElem? (i := 34) rfl)
theorem Txt.g_sent_back (T : Txt w K mg) : mg "sent_back" = some (.ref (He.ga K "sent_back")) := T.gl _ (List.mem_of_getElem? (i := 35) rfl)
theorem Txt.g_sight_after (T : Txt w K mg) : mg "sight_after" = some (.ref (He.ga K "sight_after")) := T.gl _ (List.mem_of_getElem? (i := 36) rfl)
theorem Txt.g_is_item (T : Txt w K mg) : mg "is_item" = some (.ref (He.ga K "is_item")) := T.gl _ (List.mem_of_getElem? (i := 37) rfl)
theorem Txt.g_require_look (T : Txt w K mg) : mg "require_look" = some (.ref (He.ga K "require_look")) := T.gl _ (List.mem_of_getElem? (i := 38) rfl)
theorem Txt.g_rows_for (T : Txt w K mg) : mg "rows_for" = some (.ref (He.ga K "rows_for")) := T.gl _ (List.mem_of_getElem? (i := 39) rfl)
theorem Txt.g_first_fit (T : Txt w K mg) : mg "first_fit" = some (.ref (He.ga K "first_fit")) := T.gl _ (List.mem_of_getElem? (i := 40) rfl)
theorem Txt.g_require_alike (T : Txt w K mg) : mg "require_alike" = some (.ref (He.ga K "require_alike")) := T.gl _ (List.mem_of_getElem? (i := 41) rfl)
theorem Txt.g_first_unlike (T : Txt w K mg) : mg "first_unlike" = some (.ref (He.ga K "first_unlike")) := T.gl _ (List.mem_of_getElem? (i := 42) rfl)
theorem Txt.g_parting_tick (T : Txt w K mg) : mg "parting_tick" = some (.ref (He.ga K "parting_tick")) := T.gl _ (List.mem_of_getElem? (i := 43) rfl)
theorem Txt.g_natural_of (T : Txt w K mg) : mg "natural_of" = some (.ref (He.ga K "natural_of")) := T.gl _ (List.mem_of_getElem? (i := 44) rfl)
theorem Txt.g_integer_of (T : Txt w K mg) : mg "integer_of" = some (.ref (He.ga K "integer_of")) := T.gl _ (List.mem_of_getElem? (i := 45) rfl)
theorem Txt.g_words_of (T : Txt w K mg) : mg "words_of" = some (.ref (He.ga K "words_of")) := T.gl _ (List.mem_of_getElem? (i := 46) rfl)
theorem Txt.g_format_clock (T : Txt w K mg) : mg "format_clock" = some (.ref (He.ga K "format_clock")) := T.gl _ (List.mem_of_getElem? (i := 47) rfl)
theorem Txt.g_format_sight (T : Txt w K mg) : mg "format_sight" = some (.ref (He.ga K "format_sight")) := T.gl _ (List.mem_of_getElem? (i := 48) rfl)
theorem Txt.g_rail_of (T : Txt w K mg) : mg "rail_of" = some (.ref (He.ga K "rail_of")) := T.gl _ (List.mem_of_getElem? (i := 49) rfl)
theorem Txt.g_parse_clock (T : Txt w K mg) : mg "parse_clock" = some (.ref (He.ga K "parse_clock")) := T.gl _ (List.mem_of_getElem? (i := 50) rfl)
theorem Txt.g_ball_written (T : Txt w K mg) : mg "ball_written" = some (.ref (He.ga K "ball_written")) := T.gl _ (List.mem_of_getElem? (i := 51) rfl)
theorem Txt.g_parse_sight (T : Txt w K mg) : mg "parse_sight" = some (.ref (He.ga K "parse_sight")) := T.gl _ (List.mem_of_getElem? (i := 52) rfl)
theorem Txt.g_clock_values (T : Txt w K mg) : mg "clock_values" = some (.ref (He.ga K "clock_values")) := T.gl _ (List.mem_of_getElem? (i := 53) rfl)
theorem Txt.g_command_values (T : Txt w K mg) : mg "command_values" = some (.ref (He.ga K "command_values")) := T.gl _ (List.mem_of_getElem? (i := 54) rfl)
theorem Txt.g_value_text (T : Txt w K mg) : mg "value_text" = some (.ref (He.ga K "value_text")) := T.gl _ (List.mem_of_getElem? (i := 55) rfl)
theorem Txt.g_numbers_text (T : Txt w K mg) : mg "numbers_text" = some (.ref (He.ga K "numbers_text")) := T.gl _ (List.mem_of_getElem? (i := 56) rfl)
theorem Txt.g_law_stock (T : Txt w K mg) : mg "_law_stock" = some (.ref (He.ga K "_law_stock")) := T.gl _ (List.mem_of_getElem? (i := 57) rfl)
theorem Txt.g_law_draw (T : Txt w K mg) : mg "_law_draw" = some (.ref (He.ga K "_law_draw")) := T.gl _ (List.mem_of_getElem? (i := 58) rfl)
theorem Txt.g_law_kind (T : Txt w K mg) : mg "_law_kind" = some (.ref (He.ga K "_law_kind")) := T.gl _ (List.mem_of_getElem? (i := 59) rfl)
theorem Txt.g_law_console (T : Txt w K mg) : mg "_law_console" = some (.ref (He.ga K "_law_console")) := T.gl _ (List.mem_of_getElem? (i := 60) rfl)
theorem Txt.g_law_texts (T : Txt w K mg) : mg "_law_texts" = some (.ref (He.ga K "_law_texts")) := T.gl _ (List.mem_of_getElem? (i := 61) rfl)
theorem Txt.g_law_again_right (T : Txt w K mg) : mg "_law_again_right" = some (.ref (He.ga K "_law_again_right")) := T.gl _ (List.mem_of_getElem? (i := 62) rfl)
theorem Txt.g_law_spots_right (T : Txt w K mg) : mg "_law_spots_right" = some (.ref (He.ga K "_law_spots_right")) := T.gl _ (List.mem_of_getElem? (i := 63) rfl)
theorem Txt.g_law_parts_right (T : Txt w K mg) : mg "_law_parts_right" = some (.ref (He.ga K "_law_parts_right")) := T.gl _ (List.mem_of_getElem? (i := 64) rfl)
theorem Txt.g_law (T : Txt w K mg) : mg "law" = some (.ref (He.ga K "law")) := T.gl _ (List.mem_of_getElem? (i := 65) rfl)
theorem Txt.g_Runs (T : Txt w K mg) : mg "Runs" = some (.ref (He.ga K "Runs")) := T.gl _ (List.mem_of_getElem? (i := 66) rfl)
theorem Txt.g_Circles (T : Txt w K mg) : mg "Circles" = some (.ref (He.ga K "Circles")) := T.gl _ (List.mem_of_getElem? (i := 67) rfl)
theorem Txt.g_BallClock (T : Txt w K mg) : mg "BallClock" = some (.ref (He.ga K "BallClock")) := T.gl _ (List.mem_of_getElem? (i := 68) rfl)
theorem Txt.g_Turned (T : Txt w K mg) : mg "Turned" = some (.ref (He.ga K "Turned")) := T.gl _ (List.mem_of_getElem? (i := 69) rfl)
theorem Txt.g_Console (T : Txt w K mg) : mg "Console" = some (.ref (He.ga K "Console")) := T.gl _ (List.mem_of_getElem? (i := 70) rfl)
theorem Txt.g_WAYS (T : Txt w K mg) : mg "WAYS" = some (.ref (He.ga K "WAYS")) := T.gl _ (List.mem_of_getElem? (i := 71) rfl)
theorem Txt.g_LETTERS (T : Txt w K mg) : mg "LETTERS" = some (.ref (He.ga K "LETTERS")) := T.gl _ (List.mem_of_getElem? (i := 72) rfl)
theorem Txt.g_FORMS (T : Txt w K mg) : mg "FORMS" = some (.ref (He.ga K "FORMS")) := T.gl _ (List.mem_of_getElem? (i := 73) rfl)
theorem Txt.b_len (T : Txt w K mg) : mg "len" = none := T.bl _ (List.mem_of_getElem? (i := 0) rfl)
theorem Txt.b_list (T : Txt w K mg) : mg "list" = none := T.bl _ (List.mem_of_getElem? (i := 1) rfl)
theorem Txt.b_range (T : Txt w K mg) : mg "range" = none := T.bl _ (List.mem_of_getElem? (i := 2) rfl)
theorem Txt.b_isinstance (T : Txt w K mg) : mg "isinstance" = none := T.bl _ (List.mem_of_getElem? (i := 3) rfl)
theorem Txt.b_int (T : Txt w K mg) : mg "int" = none := T.bl _ (List.mem_of_getElem? (i := 4) rfl)
theorem Txt.b_bool (T : Txt w K mg) : mg "bool" = none := T.bl _ (List.mem_of_getElem? (i := 5) rfl)
theorem Txt.b_str (T : Txt w K mg) : mg "str" = none := T.bl _ (List.mem_of_getElem? (i := 6) rfl)
theorem Txt.b_tuple (T : Txt w K mg) : mg "tuple" = none := T.bl _ (List.mem_of_getElem? (i := 7) rfl)
theorem Txt.b_sum (T : Txt w K mg) : mg "sum" = none := T.bl _ (List.mem_of_getElem? (i := 8) rfl)
theorem Txt.b_all (T : Txt w K mg) : mg "all" = none := T.bl _ (List.mem_of_getElem? (i := 9) rfl)
theorem Txt.b_enumerate (T : Txt w K mg) : mg "enumerate" = none := T.bl _ (List.mem_of_getElem? (i := 10) rfl)
theorem Txt.b_zip (T : Txt w K mg) : mg "zip" = none := T.bl _ (List.mem_of_getElem? (i := 11) rfl)
theorem Txt.b_divmod (T : Txt w K mg) : mg "divmod" = none := T.bl _ (List.mem_of_getElem? (i := 12) rfl)
theorem Txt.b_min (T : Txt w K mg) : mg "min" = none := T.bl _ (List.mem_of_getElem? (i := 13) rfl)
theorem Txt.b_max (T : Txt w K mg) : mg "max" = none := T.bl _ (List.mem_of_getElem? (i := 14) rfl)
theorem Txt.b_abs (T : Txt w K mg) : mg "abs" = none := T.bl _ (List.mem_of_getElem? (i := 15) rfl)
theorem Txt.b_sorted (T : Txt w K mg) : mg "sorted" = none := T.bl _ (List.mem_of_getElem? (i := 16) rfl)
theorem Txt.c_Runs (T : Txt w K mg) : Cls K (He.ga K "Runs") := T.cl _ (List.mem_of_getElem? (i := 0) rfl)
theorem Txt.k_Runs (T : Txt w K mg) : Mk K (He.ga K "Runs") (He.ma K (He.ga K "Runs") "__init__") := T.mkr _ (List.mem_of_getElem? (i := 0) rfl)
theorem Txt.c_Circles (T : Txt w K mg) : Cls K (He.ga K "Circles") := T.cl _ (List.mem_of_getElem? (i := 1) rfl)
theorem Txt.k_Circles (T : Txt w K mg) : Mk K (He.ga K "Circles") (He.ma K (He.ga K "Circles") "__init__") := T.mkr _ (List.mem_of_getElem? (i := 1) rfl)
theorem Txt.c_BallClock (T : Txt w K mg) : Cls K (He.ga K "BallClock") := T.cl _ (List.mem_of_getElem? (i := 2) rfl)
theorem Txt.k_BallClock (T : Txt w K mg) : Mk K (He.ga K "BallClock") (He.ma K (He.ga K "BallClock") "__init__") := T.mkr _ (List.mem_of_getElem? (i := 2) rfl)
theorem Txt.c_Turned (T : Txt w K mg) : Cls K (He.ga K "Turned") := T.cl _ (List.mem_of_getElem? (i := 3) rfl)
theorem Txt.k_Turned (T : Txt w K mg) : Mk K (He.ga K "Turned") (He.ma K (He.ga K "Turned") "__init__") := T.mkr _ (List.mem_of_getElem? (i := 3) rfl)
theorem Txt.c_Console (T : Txt w K mg) : Cls K (He.ga K "Console") := T.cl _ (List.mem_of_getElem? (i := 4) rfl)
theorem Txt.k_Console (T : Txt w K mg) : Mk K (He.ga K "Console") (He.ma K (He.ga K "Console") "__init__") := T.mkr _ (List.mem_of_getElem? (i := 4) rfl)
theorem Txt.m_Runs_row (T : Txt w K mg) : Meth K (He.ga K "Runs") "row" (He.ma K (He.ga K "Runs") "row") := T.me ("Runs", "row") (List.mem_of_getElem? (i := 0) rfl)
theorem Txt.m_Runs_found_row (T : Txt w K mg) : Meth K (He.ga K "Runs") "found_row" (He.ma K (He.ga K "Runs") "found_row") := T.me ("Runs", "found_row") (List.mem_of_getElem? (i := 1) rfl)
theorem Txt.m_Circles_turns_to (T : Txt w K mg) : Meth K (He.ga K "Circles") "turns_to" (He.ma K (He.ga K "Circles") "turns_to") := T.me ("Circles", "turns_to") (List.mem_of_getElem? (i := 2) rfl)
theorem Txt.m_Circles_turns_for (T : Txt w K mg) : Meth K (He.ga K "Circles") "turns_for" (He.ma K (He.ga K "Circles") "turns_for") := T.me ("Circles", "turns_for") (List.mem_of_getElem? (i := 3) rfl)
theorem Txt.m_BallClock_sight_now (T : Txt w K mg) : Meth K (He.ga K "BallClock") "sight_now" (He.ma K (He.ga K "BallClock") "sight_now") := T.me ("BallClock", "sight_now") (List.mem_of_getElem? (i := 4) rfl)
theorem Txt.m_BallClock_keep (T : Txt w K mg) : Meth K (He.ga K "BallClock") "keep" (He.ma K (He.ga K "BallClock") "keep") := T.me ("BallClock", "keep") (List.mem_of_getElem? (i := 5) rfl)
theorem Txt.m_BallClock_tick (T : Txt w K mg) : Meth K (He.ga K "BallClock") "tick" (He.ma K (He.ga K "BallClock") "tick") := T.me ("BallClock", "tick") (List.mem_of_getElem? (i := 6) rfl)
theorem Txt.m_BallClock_run (T : Txt w K mg) : Meth K (He.ga K "BallClock") "run" (He.ma K (He.ga K "BallClock") "run") := T.me ("BallClock", "run") (List.mem_of_getElem? (i := 7) rfl)
theorem Txt.m_BallClock_swap (T : Txt w K mg) : Meth K (He.ga K "BallClock") "swap" (He.ma K (He.ga K "BallClock") "swap") := T.me ("BallClock", "swap") (List.mem_of_getElem? (i := 8) rfl)
theorem Txt.m_Turned_place_at (T : Txt w K mg) : Meth K (He.ga K "Turned") "place_at" (He.ma K (He.ga K "Turned") "place_at") := T.me ("Turned", "place_at") (List.mem_of_getElem? (i := 9) rfl)
theorem Txt.m_Turned_turns_fitting (T : Txt w K mg) : Meth K (He.ga K "Turned") "turns_fitting" (He.ma K (He.ga K "Turned") "turns_fitting") := T.me ("Turned", "turns_fitting") (List.mem_of_getElem? (i := 10) rfl)
theorem Txt.m_Turned_rows_fitting (T : Txt w K mg) : Meth K (He.ga K "Turned") "rows_fitting" (He.ma K (He.ga K "Turned") "rows_fitting") := T.me ("Turned", "rows_fitting") (List.mem_of_getElem? (i := 11) rfl)
theorem Txt.m_Console_set_anew (T : Txt w K mg) : Meth K (He.ga K "Console") "set_anew" (He.ma K (He.ga K "Console") "set_anew") := T.me ("Console", "set_anew") (List.mem_of_getElem? (i := 12) rfl)
theorem Txt.m_Console_change (T : Txt w K mg) : Meth K (He.ga K "Console") "change" (He.ma K (He.ga K "Console") "change") := T.me ("Console", "change") (List.mem_of_getElem? (i := 13) rfl)
theorem Txt.m_Console_answer (T : Txt w K mg) : Meth K (He.ga K "Console") "answer" (He.ma K (He.ga K "Console") "answer") := T.me ("Console", "answer") (List.mem_of_getElem? (i := 14) rfl)
theorem Txt.m_Console_execute (T : Txt w K mg) : Meth K (He.ga K "Console") "execute" (He.ma K (He.ga K "Console") "execute") := T.me ("Console", "execute") (List.mem_of_getElem? (i := 15) rfl)
theorem Txt.n_Runs_own_rails (T : Txt w K mg) : NoAttr K (He.ga K "Runs") "own_rails" := T.na ("Runs", "own_rails") (List.mem_of_getElem? (i := 0) rfl)
theorem Txt.n_Runs_own_rows (T : Txt w K mg) : NoAttr K (He.ga K "Runs") "own_rows" := T.na ("Runs", "own_rows") (List.mem_of_getElem? (i := 1) rfl)
theorem Txt.n_Circles_kept_cycles (T : Txt w K mg) : NoAttr K (He.ga K "Circles") "kept_cycles" := T.na ("Circles", "kept_cycles") (List.mem_of_getElem? (i := 2) rfl)
theorem Txt.n_Circles_kept_spots (T : Txt w K mg) : NoAttr K (He.ga K "Circles") "kept_spots" := T.na ("Circles", "kept_spots") (List.mem_of_getElem? (i := 3) rfl)
theorem Txt.n_BallClock_kept_clock (T : Txt w K mg) : NoAttr K (He.ga K "BallClock") "kept_clock" := T.na ("BallClock", "kept_clock") (List.mem_of_getElem? (i := 4) rfl)
theorem Txt.n_BallClock_kept_calls (T : Txt w K mg) : NoAttr K (He.ga K "BallClock") "kept_calls" := T.na ("BallClock", "kept_calls") (List.mem_of_getElem? (i := 5) rfl)
theorem Txt.n_Turned_kept_circles (T : Txt w K mg) : NoAttr K (He.ga K "Turned") "kept_circles" := T.na ("Turned", "kept_circles") (List.mem_of_getElem? (i := 6) rfl)
theorem Txt.n_Turned_kept_clock (T : Txt w K mg) : NoAttr K (He.ga K "Turned") "kept_clock" := T.na ("Turned", "kept_clock") (List.mem_of_getElem? (i := 7) rfl)
theorem Txt.n_Turned_kept_turn (T : Txt w K mg) : NoAttr K (He.ga K "Turned") "kept_turn" := T.na ("Turned", "kept_turn") (List.mem_of_getElem? (i := 8) rfl)
theorem Txt.n_Turned_kept_rows (T : Txt w K mg) : NoAttr K (He.ga K "Turned") "kept_rows" := T.na ("Turned", "kept_rows") (List.mem_of_getElem? (i := 9) rfl)
theorem Txt.n_Console_set_clock (T : Txt w K mg) : NoAttr K (He.ga K "Console") "set_clock" := T.na ("Console", "set_clock") (List.mem_of_getElem? (i := 10) rfl)
theorem Txt.n_Console_set_live (T : Txt w K mg) : NoAttr K (He.ga K "Console") "set_live" := T.na ("Console", "set_live") (List.mem_of_getElem? (i := 11) rfl)
theorem Txt.p_BallClock_sight (T : Txt w K mg) : PropOf K (He.ga K "BallClock") "sight" (He.ma K (He.ga K "BallClock") "sight") ((Wh.p "BallClock" "sight").ad K) := T.pr ("BallClock", "sight") (List.mem_of_getElem? (i := 0) rfl)
theorem Txt.p_BallClock_counts (T : Txt w K mg) : PropOf K (He.ga K "BallClock") "counts" (He.ma K (He.ga K "BallClock") "counts") ((Wh.p "BallClock" "counts").ad K) := T.pr ("BallClock", "counts") (List.mem_of_getElem? (i := 1) rfl)
theorem Txt.p_BallClock_moment (T : Txt w K mg) : PropOf K (He.ga K "BallClock") "moment" (He.ma K (He.ga K "BallClock") "moment") ((Wh.p "BallClock" "moment").ad K) := T.pr ("BallClock", "moment") (List.mem_of_getElem? (i := 2) rfl)
theorem Txt.form_tick (T : Txt w K mg) : ∃ t, PySem.W.nsIn K (He.ga K "FORMS") "tick" = some (some (.int 0 t)) := T.form ("tick", 0) (List.mem_of_getElem? (i := 0) rfl)
theorem Txt.form_run (T : Txt w K mg) : ∃ t, PySem.W.nsIn K (He.ga K "FORMS") "run" = some (some (.int 1 t)) := T.form ("run", 1) (List.mem_of_getElem? (i := 1) rfl)
theorem Txt.form_swap (T : Txt w K mg) : ∃ t, PySem.W.nsIn K (He.ga K "FORMS") "swap" = some (some (.int 2 t)) := T.form ("swap", 2) (List.mem_of_getElem? (i := 2) rfl)
theorem Txt.form_undo (T : Txt w K mg) : ∃ t, PySem.W.nsIn K (He.ga K "FORMS") "undo" = some (some (.int 0 t)) := T.form ("undo", 0) (List.mem_of_getElem? (i := 3) rfl)
theorem Txt.form_sight (T : Txt w K mg) : ∃ t, PySem.W.nsIn K (He.ga K "FORMS") "sight" = some (some (.int 0 t)) := T.form ("sight", 0) (List.mem_of_getElem? (i := 4) rfl)
theorem Txt.form_counts (T : Txt w K mg) : ∃ t, PySem.W.nsIn K (He.ga K "FORMS") "counts" = some (some (.int 0 t)) := T.form ("counts", 0) (List.mem_of_getElem? (i := 5) rfl)
theorem Txt.form_moment (T : Txt w K mg) : ∃ t, PySem.W.nsIn K (He.ga K "FORMS") "moment" = some (some (.int 0 t)) := T.form ("moment", 0) (List.mem_of_getElem? (i := 6) rfl)
theorem Txt.form_turn (T : Txt w K mg) : ∃ t, PySem.W.nsIn K (He.ga K "FORMS") "turn" = some (some (.int 0 t)) := T.form ("turn", 0) (List.mem_of_getElem? (i := 7) rfl)
theorem Txt.form_period (T : Txt w K mg) : ∃ t, PySem.W.nsIn K (He.ga K "FORMS") "period" = some (some (.int 0 t)) := T.form ("period", 0) (List.mem_of_getElem? (i := 8) rfl)
theorem Txt.form_when (T : Txt w K mg) : ∃ t, PySem.W.nsIn K (He.ga K "FORMS") "when" = some (some (.int 0 t)) := T.form ("when", 0) (List.mem_of_getElem? (i := 9) rfl)
theorem Txt.form_spot (T : Txt w K mg) : ∃ t, PySem.W.nsIn K (He.ga K "FORMS") "spot" = some (some (.int 2 t)) := T.form ("spot", 2) (List.mem_of_getElem? (i := 10) rfl)
theorem Txt.form_look (T : Txt w K mg) : ∃ t, PySem.W.nsIn K (He.ga K "FORMS") "look" = some (some (.int 4 t)) := T.form ("look", 4) (List.mem_of_getElem? (i := 11) rfl)
end
end BH
end
section
set_option Elab.async false
set_option linter.all false
set_option maxRecDepth 100000
set_option maxHeartbeats 0
/-! ### the head's run -/
namespace BH
open PySem PySem.Spec PyProof.Rows L2
def loose0 : List Str := ["_wall", "BallError", "InvalidBall", "InvalidTick", "InvalidNumber", "Impossible", "NothingToUndo", "InvalidCommand", "InvalidClock", "InvalidSight", "InvalidLook", "InvalidSyntax", "Runs", "spots_at", "turn_row", "row_cycles", "power_row", "inverse_row", "MOST_BALLS", "WAYS", "is_integer", "is_at_least", "is_rail", "clock_fault", "is_ball", "sight_fault", "require_clock", "require_sight", "require_ball", "require_tick"]
def loose1 : List Str := ["require_at_least", "turn_of", "digits_of", "sight_of", "sight_behind", "ticks_past", "queue_of", "far_sight", "moved_sight", "sight_at", "spot_at", "common_divisor", "common_multiple", "inverse_of", "joined_two", "joined_rests", "Circles", "queue_period", "order_period", "tick_of", "turn_ticks", "BallClock", "sent_back", "sight_after", "MOST_ITEMS", "is_item", "require_look", "Turned", "rows_for", "first_fit"]
def loose2 : List Str := ["require_alike", "first_unlike", "parting_tick", "DIGIT_SIGNS", "MOST_DIGITS", "LETTERS", "natural_of", "integer_of", "words_of", "format_clock", "format_sight", "rail_of", "parse_clock", "ball_written", "parse_sight", "FORMS", "clock_values", "command_values", "value_text", "numbers_text", "Console", "_law_stock", "_law_draw", "_law_kind", "_law_turn", "_law_ticked", "_law_first", "_law_console", "_law_texts", "_law_again_right"]
def loose3 : List Str := ["_law_spots_right", "_law_parts_right"]
def loose : List Str := loose0 ++ loose1 ++ loose2 ++ loose3
abbrev R : PySem.W.OpenRow := PySem.W.OpenLaw.row PySem.Challenge.rw_ballhours_k77_whole_consoles_and_functio
def ob (s : PySem.W.SharedT) : Al := seen (part (HandSHeadRun.getT s))
theorem ob_eq (s : PySem.W.SharedT) : ob s = hook.obs s.abs := by
  have e : HandSHeadRun.getT s = s.abs.heap.get? := funext (HandSHeadRun.getT_eq s)
  show seen (part (HandSHeadRun.getT s)) = seen (part s.abs.heap.get?)
  rw [e]
theorem join2s {S A B V : Type _} {x : Option S} {f : S → A} {g : S → B} {F : S → V} {a : A} {b : B} {v : V} (e1 : x.map f = some a) (e2 : x.map g = some b) (e : ∀ s, f s = a → g s = b → F s = v) : x.map F = some v := by
  cases x with
  | none => cases e1
  | some s => exact congrArg some (e s (Option.some.inj e1) (Option.some.inj e2))
/-- the state behind the top -/
noncomputable def endX (w : World) (os : OsState) : Option PySem.W.SharedT := HandSHeadRun.endF (HandSHeadRun.stepQ (HandSHeadRun.denQ HandSHeadRun.tabQ) R.prog w) 9000 R.prog w os
abbrev w0 (w : World) : World := w.withFollow "special-get-raises" false
abbrev w1 (w : World) : World := w.withFollow "special-get-raises" true
/-- what the run shows, in two parts -/
def See1 (w : World) : Prop := ∀ os : OsState, (endX w os).map (fun s => (HandSHeadRun.looksF R.prog (PySem.W.boot_heap w.params) s.abs, HandSHeadRun.seenQ (PySem.W.view R.prog [106]) loose (importedModules R.prog.main.body) (fun s => PySem.W.xlAt (PySem.W.view R.prog [106]) [] s && PySem.W.recOk R.toRowW.records s) s.abs, tabs.map fun t => He.dicW (part (HandSHeadRun.getT s)) (He.ga (part (HandSHeadRun.getT s)) t.1))) = some (true, PySem.W.openGood (PySem.W.view R.prog [106]) loose, tabs.map fun t => some (He.keysIn w.params t.2))
def See2 (w : World) : Prop := ∀ os : OsState, (endX w os).map (fun s => (fcs.all (fun f => f.ok (part (HandSHeadRun.getT s))) && (more (part (HandSHeadRun.getT s)) && dfs.all fun d => d.ok (part (HandSHeadRun.getT s))), dfs.map fun d => d.see (part (HandSHeadRun.getT s)))) = some (true, dfs.map Df.val)
theorem see1F (w : World) : See1 (w0 w) := by
  intro os
  kernel_rfl
theorem see2F (w : World) : See2 (w0 w) := by
  intro os
  kernel_rfl
theorem see1T (w : World) : See1 (w1 w) := by
  intro os
  kernel_rfl
theorem see2T (w : World) : See2 (w1 w) := by
  intro os
  kernel_rfl
theorem run_of {w : World} (h1 : See1 w) (h2 : See2 w) : HandSHeadRun.RunEq R (PySem.W.view R.prog [106]) hook ob 9000 loose w := by
  intro os
  refine join2s (h1 os) (h2 os) fun s e1 e2 => ?_
  obtain ⟨a1, a2, a3⟩ : _ ∧ _ ∧ _ := by simpa only [Prod.mk.injEq] using e1
  exact Prod.ext a1 (Prod.ext a2 (Prod.ext e2 a3))
theorem run (w : World) : HandSHeadRun.RunEq R (PySem.W.view R.prog [106]) hook ob 9000 loose w :=
  PySem.W.byRow2 "special-get-raises" (P := fun w => HandSHeadRun.RunEq R (PySem.W.view R.prog [106]) hook ob 9000 loose w) (fun w => run_of (see1F w) (see2F w)) (fun w => run_of (see1T w) (see2T w)) w
end BH
end
section
set_option linter.all false
namespace BM
/-! ### the plain mathematics: ticks, runs, turns -/
abbrev Rail := Nat × Bool
variable {α β : Type}
def sent (w : Bool) (l : List α) : List α := if w then l.reverse else l
theorem sent_length (w : Bool) (l : List α) : (sent w l).length = l.length := by
  unfold sent; split <;> simp
theorem sent_map (f : α → β) (w : Bool) (l : List α) : sent w (l.map f) = (sent w l).map f := by
  unfold sent; split <;> simp
theorem sent_perm (w : Bool) (l : List α) : (sent w l).Perm l := by
  unfold sent; split
  · exact l.reverse_perm
  · exact .refl _
/-- the ball b comes to the first of the rails; what is behind it in the queue -/
def tickR : List Rail → List (List α) → List α → α → List α × List (List α)
  | (bd, w) :: rs, r :: rows, q, b => if r.length < bd - 1 then (q, (r ++ [b]) :: rows) else ((tickR rs rows (q ++ sent w r) b).1, [] :: (tickR rs rows (q ++ sent w r) b).2)
  | _, rows, q, b => (q ++ [b], rows)
abbrev Sg (α : Type) := List α × List (List α)
def step (rs : List Rail) : Sg α → Sg α
  | ([], rows) => ([], rows)
  | (b :: q, rows) => tickR rs rows q b
def stepN (rs : List Rail) : Nat → Sg α → Sg α
  | 0, s => s
  | n + 1, s => stepN rs n (step rs s)
theorem stepN_add (rs : List Rail) : ∀ (m n : Nat) (s : Sg α), stepN rs (m + n) s = stepN rs n (stepN rs m s)
  | 0, n, s => by rw [Nat.zero_add]; rfl
  | m + 1, n, s => by rw [Nat.add_right_comm]; exact stepN_add rs m n (step rs s)
theorem stepN_succ (rs : List Rail) (n : Nat) (s : Sg α) : stepN rs (n + 1) s = step rs (stepN rs n s) := stepN_add rs n 1 s
/-- the inner rails alone: does the ball pass them -/
def itick : List Rail → List (List α) → List α → α → Bool × List α × List (List α)
  | (bd, w) :: rs, r :: rows, q, b => if r.length < bd - 1 then (false, q, (r ++ [b]) :: rows) else ((itick rs rows (q ++ sent w r) b).1, (itick rs rows (q ++ sent w r) b).2.1, [] :: (itick rs rows (q ++ sent w r) b).2.2)
  | _, rows, q, _ => (true, q, rows)
theorem tickR_append : ∀ (I O : List Rail) (RI RO : List (List α)) (q : List α) (b : α), RI.length = I.length →
    tickR (I ++ O) (RI ++ RO) q b = if (itick I RI q b).1 = true then ((tickR O RO (itick I RI q b).2.1 b).1, (itick I RI q b).2.2 ++ (tickR O RO (itick I RI q b).2.1 b).2) else ((itick I RI q b).2.1, (itick I RI q b).2.2 ++ RO)
  | [], O, [], RO, q, b, _ => by simp [itick]
  | [], O, _ :: _, RO, q, b, h => by simp at h
  | _ :: _, O, [], RO, q, b, h => by simp at h
  | (bd, w) :: I, O, r :: RI, RO, q, b, h => by
    have hl : RI.length = I.length := by simpa using h
    have ih := tickR_append I O RI RO (q ++ sent w r) b hl
    show (if r.length < bd - 1 then (q, (r ++ [b]) :: (RI ++ RO)) else ((tickR (I ++ O) (RI ++ RO) (q ++ sent w r) b).1, [] :: (tickR (I ++ O) (RI ++ RO) (q ++ sent w r) b).2)) = _
    unfold itick
    by_cases hc : r.length < bd - 1
    · simp [hc]
    · simp only [hc, if_false]
      rw [ih]
      by_cases hp : (itick I RI (q ++ sent w r) b).1 = true
      · simp [hp]
      · simp [hp]
theorem itick_append : ∀ (I O : List Rail) (RI RO : List (List α)) (q : List α) (b : α), RI.length = I.length →
    itick (I ++ O) (RI ++ RO) q b = if (itick I RI q b).1 = true then ((itick O RO (itick I RI q b).2.1 b).1, (itick O RO (itick I RI q b).2.1 b).2.1, (itick I RI q b).2.2 ++ (itick O RO (itick I RI q b).2.1 b).2.2) else (false, (itick I RI q b).2.1, (itick I RI q b).2.2 ++ RO)
  | [], O, [], RO, q, b, _ => by simp [itick]
  | [], O, _ :: _, RO, q, b, h => by simp at h
  | _ :: _, O, [], RO, q, b, h => by simp at h
  | (bd, w) :: I, O, r :: RI, RO, q, b, h => by
    have hl : RI.length = I.length := by simpa using h
    have ih := itick_append I O RI RO (q ++ sent w r) b hl
    show (if r.length < bd - 1 then (false, q, (r ++ [b]) :: (RI ++ RO)) else ((itick (I ++ O) (RI ++ RO) (q ++ sent w r) b).1, (itick (I ++ O) (RI ++ RO) (q ++ sent w r) b).2.1, [] :: (itick (I ++ O) (RI ++ RO) (q ++ sent w r) b).2.2)) = _
    by_cases hc : r.length < bd - 1
    · simp [itick, hc]
    · have e : itick ((bd, w) :: I) (r :: RI) q b = ((itick I RI (q ++ sent w r) b).1, (itick I RI (q ++ sent w r) b).2.1, [] :: (itick I RI (q ++ sent w r) b).2.2) := by
        show (if r.length < bd - 1 then _ else _) = _
        rw [if_neg hc]
      rw [if_neg hc, ih, e]
      by_cases hp : (itick I RI (q ++ sent w r) b).1 = true
      · simp [hp]
      · simp [hp]
/-- n ticks that all stay within the inner rails -/
inductive Abs (I : List Rail) : Nat → List α → List (List α) → List α → List (List α) → Prop where
  | zero (q : List α) (R : List (List α)) (h : R.length = I.length) : Abs I 0 q R q R
  | succ {n : Nat} {b : α} {q q1 q2 : List α} {R R1 R2 : List (List α)} (h : R.length = I.length) (e : itick I R q b = (false, q1, R1)) (t : Abs I n q1 R1 q2 R2) : Abs I (n + 1) (b :: q) R q2 R2
theorem itick_rows : ∀ (I : List Rail) (R : List (List α)) (q : List α) (b : α), R.length = I.length → (itick I R q b).2.2.length = I.length
  | [], [], q, b, _ => rfl
  | [], _ :: _, q, b, h => by simp at h
  | _ :: _, [], q, b, h => by simp at h
  | (bd, w) :: I, r :: R, q, b, h => by
    have hl : R.length = I.length := by simpa using h
    unfold itick
    split
    · simpa using hl
    · simpa using itick_rows I R (q ++ sent w r) b hl
theorem Abs.len {I : List Rail} {n : Nat} {q q' : List α} {R R' : List (List α)} (h : Abs I n q R q' R') : R.length = I.length ∧ R'.length = I.length := by
  induction h with
  | zero q R h => exact ⟨h, h⟩
  | succ h e t ih => exact ⟨h, ih.2⟩
theorem Abs.trans {I : List Rail} {m n : Nat} {q q1 q2 : List α} {R R1 R2 : List (List α)} (h : Abs I m q R q1 R1) (h2 : Abs I n q1 R1 q2 R2) : Abs I (m + n) q R q2 R2 := by
  induction h with
  | zero q R h => rw [Nat.zero_add]; exact h2
  | succ h e t ih => rw [Nat.add_right_comm]; exact .succ h e (ih h2)
/-- more rails behind -/
theorem Abs.lift {I : List Rail} {n : Nat} {q q1 : List α} {R R1 : List (List α)} (h : Abs I n q R q1 R1) (O : List Rail) (RO : List (List α)) (hO : RO.length = O.length) : Abs (I ++ O) n q (R ++ RO) q1 (R1 ++ RO) := by
  induction h with
  | zero q R h => exact .zero _ _ (by simp [h, hO])
  | succ h e t ih =>
    refine .succ (by simp [h, hO]) ?_ ih
    rw [itick_append _ _ _ _ _ _ h, e]
    simp
theorem Abs.steps {I : List Rail} {n : Nat} {q q1 : List α} {R R1 : List (List α)} (h : Abs I n q R q1 R1) : stepN I n (q, R) = (q1, R1) := by
  induction h with
  | zero q R h => rfl
  | @succ n b q q1 q2 R R1 R2 h e t ih =>
    show stepN I n (tickR I R q b) = _
    have z := tickR_append I [] R [] q b h
    rw [List.append_nil, List.append_nil, e] at z
    rw [z]
    simp only [Bool.false_eq_true, if_false, List.append_nil]
    exact ih

/-! ### runs -/
/-- so many balls given on by f, then the queue -/
def rep (f : List α → List α) : Nat → List α → List α × List α
  | 0, q => ([], q)
  | n + 1, q => match f q with
    | [] => ([], [])
    | g :: q1 => (g :: (rep f n q1).1, (rep f n q1).2)
/-- a run of the rails, the last one first: the ball given on, then the queue -/
def runL : List Rail → List α → List α
  | [], q => q
  | (b, w) :: rr, q => match (rep (runL rr) b q).1.getLast? with
    | none => []
    | some g => g :: ((rep (runL rr) b q).2 ++ sent w (rep (runL rr) b q).1.dropLast)
/-- the sight so many balls on the rails (the last rail first) behind a queue -/
def fill : List Rail → List Nat → List α → List α × List (List α)
  | _ :: rr, c :: cs, q => ((fill rr cs (rep (runL rr) c q).2).1, (rep (runL rr) c q).1 :: (fill rr cs (rep (runL rr) c q).2).2)
  | _, _, q => (q, [])
theorem rep_map {f : List α → List α} {f' : List β → List β} (g : α → β) (hf : ∀ l, f' (l.map g) = (f l).map g) : ∀ (n : Nat) (q : List α), rep f' n (q.map g) = ((rep f n q).1.map g, (rep f n q).2.map g)
  | 0, q => rfl
  | n + 1, q => by
    unfold rep
    rw [hf]
    cases f q with
    | nil => rfl
    | cons x r =>
      simp only [List.map_cons]
      rw [rep_map g hf n r]
theorem runL_map (g : α → β) : ∀ (rr : List Rail) (q : List α), runL rr (q.map g) = (runL rr q).map g
  | [], q => rfl
  | (b, w) :: rr, q => by
    unfold runL
    rw [rep_map g (runL_map g rr) b q]
    simp only [List.getLast?_map]
    cases (rep (runL rr) b q).1.getLast? with
    | none => rfl
    | some x => simp [← List.map_dropLast, sent_map]
theorem fill_map (g : α → β) : ∀ (rr : List Rail) (cs : List Nat) (q : List α), fill rr cs (q.map g) = ((fill rr cs q).1.map g, (fill rr cs q).2.map (·.map g))
  | [], _, q => rfl
  | _ :: _, [], q => rfl
  | (b, w) :: rr, c :: cs, q => by
    unfold fill
    rw [rep_map g (runL_map g rr) c q]
    simp only [fill_map g rr cs]
    simp
/-- how many balls the rails need -/
def need : List Rail → Nat
  | [] => 1
  | (b, _) :: rr => (b - 1) + need rr
theorem need_pos : ∀ rr : List Rail, 1 ≤ need rr
  | [] => Nat.le_refl _
  | (b, _) :: rr => Nat.le_trans (need_pos rr) (Nat.le_add_left _ _)
def two (rr : List Rail) : Prop := ∀ r ∈ rr, 2 ≤ r.1
/-- what rep does where f keeps lengths -/
theorem rep_len {f : List α → List α} {m : Nat} (hf : ∀ l, m ≤ l.length → (f l).length = l.length) (hm : 1 ≤ m) : ∀ (n : Nat) (q : List α), m + n ≤ q.length + 1 → (rep f n q).1.length = n ∧ (rep f n q).2.length + n = q.length
  | 0, q, _ => ⟨rfl, rfl⟩
  | n + 1, q, h => by
    have e := hf q (by omega)
    unfold rep
    cases hq : f q with
    | nil => rw [hq] at e; simp at e; omega
    | cons x r =>
      rw [hq] at e
      have e' : r.length + 1 = q.length := by simpa using e
      obtain ⟨i1, i2⟩ := rep_len hf hm n r (by omega)
      simp only [List.length_cons]
      omega
theorem rep_perm {f : List α → List α} {m : Nat} (hf : ∀ l, m ≤ l.length → (f l).Perm l) (hm : 1 ≤ m) : ∀ (n : Nat) (q : List α), m + n ≤ q.length + 1 → ((rep f n q).1 ++ (rep f n q).2).Perm q
  | 0, q, _ => .refl _
  | n + 1, q, h => by
    have e := hf q (by omega)
    unfold rep
    cases hq : f q with
    | nil => rw [hq] at e; have := e.length_eq; simp at this; omega
    | cons x r =>
      rw [hq] at e
      have el := e.length_eq
      simp only [List.length_cons] at el
      have ih := rep_perm hf hm n r (by omega)
      exact (ih.cons x).trans e
theorem runL_perm : ∀ (rr : List Rail), two rr → ∀ (q : List α), need rr ≤ q.length → (runL rr q).Perm q
  | [], _, q, _ => .refl _
  | (b, w) :: rr, h2, q, h => by
    have hb : 2 ≤ b := h2 (b, w) (List.mem_cons_self)
    have t2 : two rr := fun r hr => h2 r (List.mem_cons_of_mem _ hr)
    have hn : need rr + b ≤ q.length + 1 := by
      have : (b - 1) + need rr ≤ q.length := h
      omega
    have ih := runL_perm rr t2
    have hp := rep_perm ih (need_pos rr) b q hn
    have hl := rep_len (fun l hl => (ih l hl).length_eq) (need_pos rr) b q hn
    unfold runL
    cases hg : (rep (runL rr) b q).1.getLast? with
    | none =>
      have e := List.getLast?_eq_none_iff.mp hg
      rw [e] at hl
      simp at hl
      omega
    | some g =>
      obtain ⟨ys, ey⟩ := List.getLast?_eq_some_iff.mp hg
      have e1 : (rep (runL rr) b q).1.dropLast ++ [g] = (rep (runL rr) b q).1 := by rw [ey]; simp
      refine List.Perm.trans ?_ hp
      rw [← e1]
      simp only [List.dropLast_concat]
      refine List.Perm.trans (List.Perm.cons g (List.Perm.append_left _ (sent_perm w _))) ?_
      refine List.Perm.trans (List.Perm.cons g List.perm_append_comm) ?_
      rw [List.append_assoc]
      exact List.perm_middle.symm
theorem runL_len (rr : List Rail) (h2 : two rr) (q : List α) (h : need rr ≤ q.length) : (runL rr q).length = q.length := (runL_perm rr h2 q h).length_eq
def prod : List Rail → Nat
  | [] => 1
  | (b, _) :: rr => b * prod rr
theorem prod_pos : ∀ rr : List Rail, two rr → 1 ≤ prod rr
  | [], _ => Nat.le_refl _
  | (b, w) :: rr, h => Nat.mul_pos (Nat.lt_of_lt_of_le (by decide) (h (b, w) List.mem_cons_self)) (prod_pos rr fun r hr => h r (List.mem_cons_of_mem _ hr))
def empt (n : Nat) : List (List α) := List.replicate n []
theorem empt_succ (n : Nat) : (empt (n + 1) : List (List α)) = empt n ++ [[]] := by
  unfold empt
  rw [List.replicate_succ', ]
theorem empt_len (n : Nat) : (empt n : List (List α)).length = n := by simp [empt]
/-- a run: all ticks but the last stay within, the last one gives the ball on -/
def RunOk (α : Type) (rr : List Rail) : Prop := ∀ q : List α, need rr ≤ q.length → ∃ (b : α) (qm q1 : List α) (Rm : List (List α)),
  Abs rr.reverse (prod rr - 1) q (empt rr.length) (b :: qm) Rm ∧ itick rr.reverse Rm qm b = (true, q1, empt rr.length) ∧ runL rr q = b :: q1
theorem rep_abs {rr : List Rail} (h2 : two rr) (ok : RunOk α rr) (bd : Nat) (w : Bool) : ∀ (c : Nat) (q r0 : List α), r0.length + c ≤ bd - 1 → need rr + c ≤ q.length + 1 →
    Abs (rr.reverse ++ [(bd, w)]) (c * prod rr) q (empt rr.length ++ [r0]) (rep (runL rr) c q).2 (empt rr.length ++ [r0 ++ (rep (runL rr) c q).1])
  | 0, q, r0, _, _ => by
    rw [Nat.zero_mul]
    simp only [rep, List.append_nil]
    exact .zero _ _ (by simp [empt_len])
  | c + 1, q, r0, h, hq => by
    obtain ⟨b, qm, q1, Rm, ha, hp, hr⟩ := ok q (by omega)
    have hl : q1.length + 1 = q.length := by
      have := runL_len rr h2 q (by omega)
      rw [hr] at this
      simpa using this
    have hRm : Rm.length = rr.reverse.length := ha.len.2
    have a1 := ha.lift [(bd, w)] [r0] rfl
    have a2 : Abs (rr.reverse ++ [(bd, w)]) 1 (b :: qm) (Rm ++ [r0]) q1 (empt rr.length ++ [r0 ++ [b]]) := by
      refine .succ (by simp [hRm]) (R1 := empt rr.length ++ [r0 ++ [b]]) (q1 := q1) ?_ (.zero _ _ (by simp [empt_len]))
      rw [itick_append _ _ _ _ _ _ hRm, hp]
      simp only [if_true]
      have hc : r0.length < bd - 1 := by omega
      simp [itick, hc]
    have a3 := rep_abs h2 ok bd w c q1 (r0 ++ [b]) (by simp only [List.length_append, List.length_cons, List.length_nil]; omega) (by omega)
    have e : rep (runL rr) (c + 1) q = (b :: (rep (runL rr) c q1).1, (rep (runL rr) c q1).2) := by
      show (match runL rr q with | [] => ([], []) | g :: q1 => (g :: (rep (runL rr) c q1).1, (rep (runL rr) c q1).2)) = _
      rw [hr]
    rw [e]
    have z := (a1.trans a2).trans a3
    have hpp := prod_pos rr h2
    have en : prod rr - 1 + 1 + c * prod rr = (c + 1) * prod rr := by
      rw [Nat.succ_mul]; omega
    rw [en] at z
    simpa using z
theorem run_ok : ∀ (rr : List Rail), two rr → RunOk α rr
  | [], _ => fun q h => by
    cases q with
    | nil => simp [need] at h
    | cons b q => exact ⟨b, q, q, [], .zero _ _ rfl, rfl, rfl⟩
  | (bd, w) :: rr, h2 => fun q h => by
    have hb : 2 ≤ bd := h2 (bd, w) List.mem_cons_self
    have t2 : two rr := fun r hr => h2 r (List.mem_cons_of_mem _ hr)
    have ok := run_ok rr t2
    have hn : (bd - 1) + need rr ≤ q.length := h
    -- all but the last inner run
    have a1 := rep_abs t2 ok bd w (bd - 1) q [] (by simp) (by omega)
    obtain ⟨l1, l2⟩ := rep_len (fun l hl => runL_len rr t2 l hl) (need_pos rr) (bd - 1) q (by omega)
    obtain ⟨b, qm, q1, Rm, ha, hp, hr⟩ := ok (rep (runL rr) (bd - 1) q).2 (by omega)
    have hRm : Rm.length = rr.reverse.length := ha.len.2
    have a2 := ha.lift [(bd, w)] [[] ++ (rep (runL rr) (bd - 1) q).1] rfl
    have hrep : rep (runL rr) bd q = ((rep (runL rr) (bd - 1) q).1 ++ [b], q1) := by
      have gen : ∀ (n : Nat) (q : List α), (rep (runL rr) n q).1.length = n → runL rr (rep (runL rr) n q).2 = b :: q1 → rep (runL rr) (n + 1) q = ((rep (runL rr) n q).1 ++ [b], q1) := by
        intro n
        induction n with
        | zero =>
          intro q _ e
          have e' : runL rr q = b :: q1 := e
          show (match runL rr q with | [] => ([], []) | g :: q1 => (g :: (rep (runL rr) 0 q1).1, (rep (runL rr) 0 q1).2)) = _
          rw [e']
          rfl
        | succ n ih =>
          intro q hl e
          show (match runL rr q with | [] => ([], []) | g :: q1 => (g :: (rep (runL rr) (n + 1) q1).1, (rep (runL rr) (n + 1) q1).2)) = _
          have eu : rep (runL rr) (n + 1) q = (match runL rr q with | [] => ([], []) | g :: q1 => (g :: (rep (runL rr) n q1).1, (rep (runL rr) n q1).2)) := rfl
          rw [eu] at hl e ⊢
          cases hq : runL rr q with
          | nil => rw [hq] at hl; simp at hl
          | cons g q2 =>
            rw [hq] at hl e
            have := ih q2 (by simpa using hl) e
            simp only
            rw [this]
            rfl
      have := gen (bd - 1) q l1 hr
      rwa [show bd - 1 + 1 = bd by omega] at this
    refine ⟨b, qm, q1 ++ sent w (rep (runL rr) (bd - 1) q).1, Rm ++ [(rep (runL rr) (bd - 1) q).1], ?_, ?_, ?_⟩
    · have z := a1.trans a2
      have hpp := prod_pos rr t2
      have en : (bd - 1) * prod rr + (prod rr - 1) = prod ((bd, w) :: rr) - 1 := by
        show _ = bd * prod rr - 1
        have : bd * prod rr = (bd - 1) * prod rr + prod rr := by
          rw [← Nat.succ_mul]
          congr 1
          omega
        omega
      rw [en] at z
      have e0 : (empt ((bd, w) :: rr).length : List (List α)) = empt rr.length ++ [[]] := empt_succ _
      rw [e0, List.reverse_cons]
      simpa using z
    · rw [List.reverse_cons, itick_append _ _ _ _ _ _ hRm, hp]
      have hc : ¬ ((rep (runL rr) (bd - 1) q).1.length < bd - 1) := by omega
      have e0 : (empt ((bd, w) :: rr).length : List (List α)) = empt rr.length ++ [[]] := empt_succ _
      rw [e0]
      simp [itick, hc]
    · unfold runL
      rw [hrep]
      simp
/-- digits, the first rail first -/
def digs : List Rail → Nat → List Nat
  | [], _ => []
  | (b, _) :: rs, t => t % b :: digs rs (t / b)
def val : List Rail → List Nat → Nat
  | (b, _) :: rs, c :: cs => c + b * val rs cs
  | _, _ => 0
/-- the value, the last rail first -/
def valR : List Rail → List Nat → Nat
  | _ :: rr, c :: cs => c * prod rr + valR rr cs
  | _, _ => 0
/-- fewer than their bounds -/
def fits : List Rail → List Nat → Prop
  | (b, _) :: rr, c :: cs => c < b ∧ fits rr cs
  | [], [] => True
  | _, _ => False
theorem fits_len : ∀ {rr : List Rail} {cs : List Nat}, fits rr cs → cs.length = rr.length
  | [], [], _ => rfl
  | _ :: _, c :: cs, h => by simp [fits_len h.2]
  | [], _ :: _, h => h.elim
  | _ :: _, [], h => h.elim
theorem fill_abs : ∀ (rr : List Rail) (cs : List Nat), two rr → fits rr cs → ∀ q : List α, need rr ≤ q.length →
    Abs rr.reverse (valR rr cs) q (empt rr.length) (fill rr cs q).1 (fill rr cs q).2.reverse
  | [], [], _, _, q, _ => .zero _ _ rfl
  | [], _ :: _, _, h, _, _ => h.elim
  | _ :: _, [], _, h, _, _ => h.elim
  | (bd, w) :: rr, c :: cs, h2, hf, q, h => by
    have t2 : two rr := fun r hr => h2 r (List.mem_cons_of_mem _ hr)
    have hn : (bd - 1) + need rr ≤ q.length := h
    have hc : c < bd := hf.1
    have a1 := rep_abs t2 (run_ok (α := α) rr t2) bd w c q [] (by simp; omega) (by omega)
    obtain ⟨l1, l2⟩ := rep_len (fun l hl => runL_len rr t2 l hl) (need_pos rr) c q (by omega)
    have ih := fill_abs rr cs t2 hf.2 (rep (runL rr) c q).2 (by omega)
    have a2 := ih.lift [(bd, w)] [(rep (runL rr) c q).1] rfl
    have e0 : (empt ((bd, w) :: rr).length : List (List α)) = empt rr.length ++ [[]] := empt_succ _
    rw [e0, List.reverse_cons]
    show Abs _ (c * prod rr + valR rr cs) _ _ (fill rr cs (rep (runL rr) c q).2).1 ((rep (runL rr) c q).1 :: (fill rr cs (rep (runL rr) c q).2).2).reverse
    rw [List.reverse_cons]
    simp only [List.nil_append] at a1
    exact a1.trans a2
theorem prod_append (a b : List Rail) : prod (a ++ b) = prod a * prod b := by
  induction a with
  | nil => simp [prod]
  | cons r a ih => obtain ⟨x, w⟩ := r; simp [prod, ih, Nat.mul_assoc]
theorem prod_reverse (a : List Rail) : prod a.reverse = prod a := by
  induction a with
  | nil => rfl
  | cons r a ih => obtain ⟨x, w⟩ := r; simp [prod_append, prod, ih, Nat.mul_comm]
theorem need_append (a b : List Rail) : need (a ++ b) + 1 = need a + need b := by
  induction a with
  | nil => simp [need]; omega
  | cons r a ih =>
    obtain ⟨x, w⟩ := r
    show (x - 1) + need (a ++ b) + 1 = (x - 1) + need a + need b
    omega
theorem need_reverse (a : List Rail) : need a.reverse = need a := by
  induction a with
  | nil => rfl
  | cons r a ih =>
    obtain ⟨x, w⟩ := r
    have h := need_append a.reverse [(x, w)]
    rw [List.reverse_cons]
    have e : need [(x, w)] = (x - 1) + 1 := rfl
    have e2 : need ((x, w) :: a) = (x - 1) + need a := rfl
    omega
theorem val_append : ∀ (a : List Rail) (cs : List Nat) (b : Nat) (w : Bool) (c : Nat), cs.length = a.length → val (a ++ [(b, w)]) (cs ++ [c]) = val a cs + prod a * c
  | [], [], b, w, c, _ => by simp [val, prod]
  | [], _ :: _, _, _, _, h => by simp at h
  | _ :: _, [], _, _, _, h => by simp at h
  | (x, v) :: a, d :: cs, b, w, c, h => by
    have ih := val_append a cs b w c (by simpa using h)
    show d + x * val (a ++ [(b, w)]) (cs ++ [c]) = d + x * val a cs + x * prod a * c
    rw [ih, Nat.mul_add, Nat.mul_assoc, Nat.add_assoc]
theorem valR_eq : ∀ (rr : List Rail) (cs : List Nat), cs.length = rr.length → valR rr cs = val rr.reverse cs.reverse
  | [], [], _ => rfl
  | [], _ :: _, h => by simp at h
  | _ :: _, [], h => by simp at h
  | (x, v) :: rr, c :: cs, h => by
    have hl : cs.length = rr.length := by simpa using h
    rw [List.reverse_cons, List.reverse_cons, val_append _ _ _ _ _ (by simp [hl]), ← valR_eq rr cs hl, prod_reverse]
    show c * prod rr + valR rr cs = _
    rw [Nat.mul_comm, Nat.add_comm]
theorem digs_val : ∀ (rs : List Rail) (t : Nat), val rs (digs rs t) = t % prod rs
  | [], t => by simp [digs, val, prod, Nat.mod_one]
  | (b, w) :: rs, t => by
    show t % b + b * val rs (digs rs (t / b)) = t % (b * prod rs)
    rw [digs_val rs (t / b), Nat.mod_mul]
theorem digs_len : ∀ (rs : List Rail) (t : Nat), (digs rs t).length = rs.length
  | [], _ => rfl
  | (b, w) :: rs, t => by simp [digs, digs_len rs]
theorem fits_append : ∀ (a : List Rail) (cs : List Nat) (b : Rail) (c : Nat), fits a cs → c < b.1 → fits (a ++ [b]) (cs ++ [c])
  | [], [], b, c, _, h => ⟨h, trivial⟩
  | [], _ :: _, _, _, h, _ => h.elim
  | _ :: _, [], _, _, h, _ => h.elim
  | (x, v) :: a, d :: cs, b, c, h, hc => ⟨h.1, fits_append a cs b c h.2 hc⟩
theorem fits_reverse : ∀ (a : List Rail) (cs : List Nat), fits a cs → fits a.reverse cs.reverse
  | [], [], _ => trivial
  | [], _ :: _, h => h.elim
  | _ :: _, [], h => h.elim
  | (x, v) :: a, d :: cs, h => by
    rw [List.reverse_cons, List.reverse_cons]
    exact fits_append _ _ _ _ (fits_reverse a cs h.2) h.1
theorem digs_fits : ∀ (rs : List Rail) (t : Nat), two rs → fits rs (digs rs t)
  | [], _, _ => trivial
  | (b, w) :: rs, t, h => ⟨Nat.mod_lt _ (Nat.lt_of_lt_of_le (by decide) (h (b, w) List.mem_cons_self)), digs_fits rs (t / b) fun r hr => h r (List.mem_cons_of_mem _ hr)⟩
theorem two_reverse {rs : List Rail} (h : two rs) : two rs.reverse := fun r hr => h r (List.mem_reverse.mp hr)

/-! ### a sight by its counts; a turn -/
/-- the sight with such counts behind a queue (rails and counts the first one first) -/
def spots (rs : List Rail) (cs : List Nat) (q : List α) : Sg α := ((fill rs.reverse cs.reverse q).1, (fill rs.reverse cs.reverse q).2.reverse)
theorem spots_steps (rs : List Rail) (cs : List Nat) (h2 : two rs) (hf : fits rs cs) (q : List α) (h : need rs ≤ q.length) : stepN rs (val rs cs) (q, empt rs.length) = spots rs cs q := by
  have z := (fill_abs rs.reverse cs.reverse (two_reverse h2) (fits_reverse _ _ hf) q (by rw [need_reverse]; exact h)).steps
  rw [List.reverse_reverse, valR_eq _ _ (by simp [fits_len hf]), List.reverse_reverse, List.reverse_reverse, List.length_reverse] at z
  exact z
theorem spots_map (g : α → β) (rs : List Rail) (cs : List Nat) (q : List α) : spots rs cs (q.map g) = ((spots rs cs q).1.map g, (spots rs cs q).2.map (·.map g)) := by
  unfold spots
  rw [fill_map]
  simp
/-- the queue behind a turn -/
def turnL (rs : List Rail) (q : List α) : List α := match runL rs.reverse q with
  | [] => []
  | b :: q1 => q1 ++ [b]
theorem turn_steps (rs : List Rail) (h2 : two rs) (q : List α) (h : need rs ≤ q.length) : stepN rs (prod rs) (q, empt rs.length) = (turnL rs q, empt rs.length) := by
  obtain ⟨b, qm, q1, Rm, ha, hp, hr⟩ := run_ok (α := α) rs.reverse (two_reverse h2) q (by rw [need_reverse]; exact h)
  rw [List.reverse_reverse, prod_reverse, List.length_reverse] at ha
  rw [List.reverse_reverse, List.length_reverse] at hp
  have hpp := prod_pos rs h2
  have hRm := ha.len.2
  have e : prod rs = prod rs - 1 + 1 := by omega
  rw [e, stepN_succ, ha.steps]
  show tickR rs Rm qm b = _
  have z := tickR_append rs [] Rm [] qm b hRm
  rw [List.append_nil, List.append_nil, hp] at z
  rw [z]
  unfold turnL
  rw [hr]
  simp [tickR]
theorem turnL_map (g : α → β) (rs : List Rail) (q : List α) : turnL rs (q.map g) = (turnL rs q).map g := by
  unfold turnL
  rw [runL_map]
  cases runL rs.reverse q with
  | nil => rfl
  | cons b r => simp
theorem turnL_perm (rs : List Rail) (h2 : two rs) (q : List α) (h : need rs ≤ q.length) : (turnL rs q).Perm q := by
  have p := runL_perm rs.reverse (two_reverse h2) q (by rw [need_reverse]; exact h)
  unfold turnL
  cases hr : runL rs.reverse q with
  | nil => rw [hr] at p; exact p
  | cons b r =>
    rw [hr] at p
    exact (List.perm_append_comm (l₁ := r) (l₂ := [b])).trans p
end BM
end
section
set_option linter.all false
namespace BM
variable {α β : Type}
/-! ### turns as a row of places -/
def app (l : List Nat) (i : Nat) : Nat := l.getD i 0
def itN (l : List Nat) : Nat → Nat → Nat
  | 0, i => i
  | m + 1, i => itN l m (app l i)
theorem itN_add (l : List Nat) : ∀ (a b i : Nat), itN l (a + b) i = itN l b (itN l a i)
  | 0, b, i => by rw [Nat.zero_add]; rfl
  | a + 1, b, i => by rw [Nat.add_right_comm]; exact itN_add l a b (app l i)
def iterT (rs : List Rail) : Nat → List α → List α
  | 0, q => q
  | m + 1, q => iterT rs m (turnL rs q)
theorem iterT_succ (rs : List Rail) : ∀ (m : Nat) (q : List α), iterT rs (m + 1) q = turnL rs (iterT rs m q)
  | 0, q => rfl
  | m + 1, q => iterT_succ rs m (turnL rs q)
/-- a list by its places -/
theorem by_places (d : α) (q : List α) : (List.range q.length).map (fun i => q.getD i d) = q := by
  apply List.ext_getElem
  · simp
  · intro i h1 h2
    simp [List.getElem?_eq_getElem h2]
theorem turnL_len (rs : List Rail) (h2 : two rs) (q : List α) (h : need rs ≤ q.length) : (turnL rs q).length = q.length := (turnL_perm rs h2 q h).length_eq
theorem iterT_len (rs : List Rail) (h2 : two rs) : ∀ (m : Nat) (q : List α), need rs ≤ q.length → (iterT rs m q).length = q.length
  | 0, q, _ => rfl
  | m + 1, q, h => by
    have e := turnL_len rs h2 q h
    show (iterT rs m (turnL rs q)).length = _
    rw [iterT_len rs h2 m _ (by rw [e]; exact h), e]
theorem turnL_at (rs : List Rail) (d : α) (q : List α) : turnL rs q = (turnL rs (List.range q.length)).map (fun i => q.getD i d) := by
  rw [← turnL_map, by_places]
/-- the queue behind so many turns, by the row of a turn -/
theorem iterT_at (rs : List Rail) (h2 : two rs) (d : α) : ∀ (m : Nat) (q : List α), need rs ≤ q.length → iterT rs m q = (List.range q.length).map (fun i => q.getD (itN (turnL rs (List.range q.length)) m i) d)
  | 0, q, _ => (by_places d q).symm
  | m + 1, q, h => by
    have el := turnL_len rs h2 q h
    show iterT rs m (turnL rs q) = _
    rw [iterT_at rs h2 d m (turnL rs q) (by rw [el]; exact h), el]
    apply List.map_congr_left
    intro i hi
    have hi' : i < q.length := List.mem_range.mp hi
    have key : ∀ j, j < q.length → (turnL rs q).getD j d = q.getD (app (turnL rs (List.range q.length)) j) d := by
      intro j hj
      have hl : (turnL rs (List.range q.length)).length = q.length := by
        rw [turnL_len rs h2 _ (by rw [List.length_range]; exact h), List.length_range]
      rw [turnL_at rs d q]
      unfold app
      rw [List.getD_eq_getElem?_getD, List.getElem?_map, List.getD_eq_getElem?_getD (l := turnL rs (List.range q.length)), List.getElem?_eq_getElem (by omega)]
      rfl
    have hin : itN (turnL rs (List.range q.length)) m i < q.length := by
      have hp := turnL_perm rs h2 (List.range q.length) (by rw [List.length_range]; exact h)
      have stay : ∀ m i, i < q.length → itN (turnL rs (List.range q.length)) m i < q.length := by
        intro m
        induction m with
        | zero => intro i hi; exact hi
        | succ m ih =>
          intro i hi
          apply ih
          unfold app
          have hl : (turnL rs (List.range q.length)).length = q.length := by rw [hp.length_eq, List.length_range]
          rw [List.getD_eq_getElem?_getD, List.getElem?_eq_getElem (by omega)]
          exact List.mem_range.mp (hp.mem_iff.mp (List.getElem_mem _))
      exact stay m i hi'
    rw [key _ hin]
    have comm : ∀ m i, app (turnL rs (List.range q.length)) (itN (turnL rs (List.range q.length)) m i) = itN (turnL rs (List.range q.length)) (m + 1) i := by
      intro m i
      rw [itN_add]
      rfl
    rw [comm]
theorem app_lt {l : List Nat} {n : Nat} (hp : l.Perm (List.range n)) {i : Nat} (h : i < n) : app l i < n := by
  have hl : l.length = n := by rw [hp.length_eq, List.length_range]
  unfold app
  rw [List.getD_eq_getElem?_getD, List.getElem?_eq_getElem (by omega)]
  exact List.mem_range.mp (hp.mem_iff.mp (List.getElem_mem _))
theorem itN_lt {l : List Nat} {n : Nat} (hp : l.Perm (List.range n)) : ∀ (m : Nat) {i : Nat}, i < n → itN l m i < n
  | 0, _, h => h
  | m + 1, _, h => itN_lt hp m (app_lt hp h)
theorem itN_succ (l : List Nat) (m i : Nat) : itN l (m + 1) i = app l (itN l m i) := by rw [itN_add]; rfl
theorem turns_steps (rs : List Rail) (h2 : two rs) : ∀ (m : Nat) (q : List α), need rs ≤ q.length → stepN rs (m * prod rs) (q, empt rs.length) = (iterT rs m q, empt rs.length)
  | 0, q, _ => by rw [Nat.zero_mul]; rfl
  | m + 1, q, h => by
    rw [Nat.succ_mul, Nat.add_comm, stepN_add, turn_steps rs h2 q h, turns_steps rs h2 m _ (by rw [turnL_len rs h2 q h]; exact h)]
    rfl
/-- the sight at any tick, from a queue with all rails empty -/
theorem far_steps (rs : List Rail) (h2 : two rs) (q : List α) (h : need rs ≤ q.length) (t : Nat) : stepN rs t (q, empt rs.length) = spots rs (digs rs (t % prod rs)) (iterT rs (t / prod rs) q) := by
  have e : t = (t / prod rs) * prod rs + t % prod rs := by
    rw [Nat.mul_comm]; exact (Nat.div_add_mod t (prod rs)).symm
  have e2 : stepN rs t (q, empt rs.length) = stepN rs ((t / prod rs) * prod rs + t % prod rs) (q, empt rs.length) := by rw [← e]
  rw [e2, stepN_add, turns_steps rs h2 _ _ h]
  have hv : val rs (digs rs (t % prod rs)) = t % prod rs := by
    rw [digs_val]; exact Nat.mod_mod _ _
  have z := spots_steps rs (digs rs (t % prod rs)) h2 (digs_fits rs _ h2) (iterT rs (t / prod rs) q) (by rw [iterT_len rs h2 _ _ h]; exact h)
  rw [hv] at z
  exact z

/-! ### sights -/
def Sg.map (f : α → β) (s : Sg α) : Sg β := (List.map f s.1, List.map (List.map f) s.2)
def cnts (s : Sg α) : List Nat := s.2.map List.length
def flat (s : Sg α) : List α := s.1 ++ s.2.flatten
structure Clk where
  n : Nat
  rs : List Rail
structure Clk.Ok (c : Clk) : Prop where
  n2 : 2 ≤ c.n
  n100 : c.n ≤ 100
  ne : c.rs ≠ []
  two : two c.rs
  need : need c.rs ≤ c.n
  l3 : c.rs.length ≤ 3
  b12 : ∀ r ∈ c.rs, r.1 ≤ 12
def first (c : Clk) : Sg Nat := (List.range c.n, empt c.rs.length)
structure VS (c : Clk) (s : Sg Nat) : Prop where
  fits : fits c.rs (cnts s)
  perm : (flat s).Perm (List.range c.n)
theorem VS.len {c : Clk} {s : Sg Nat} (h : VS c s) : s.2.length = c.rs.length := by
  have := fits_len h.fits
  simpa [cnts] using this
theorem fits_empt : ∀ {rs : List Rail}, two rs → fits rs ((empt rs.length : List (List α)).map List.length)
  | [], _ => trivial
  | (b, w) :: rs, h => ⟨Nat.lt_of_lt_of_le (Nat.succ_pos 1) (h (b, w) List.mem_cons_self), fits_empt fun r hr => h r (List.mem_cons_of_mem _ hr)⟩
theorem empt_flat (n : Nat) : (empt n : List (List α)).flatten = [] := by
  unfold empt
  simp
theorem first_vs {c : Clk} (h : c.Ok) : VS c (first c) := ⟨fits_empt h.two, by simp [first, flat, empt_flat]⟩
theorem sum_fits : ∀ {rs : List Rail} {cs : List Nat}, fits rs cs → cs.sum + 1 ≤ need rs
  | [], [], _ => Nat.le_refl _
  | [], _ :: _, h => h.elim
  | _ :: _, [], h => h.elim
  | (b, w) :: rs, c :: cs, h => by
    have := sum_fits h.2
    have hc : c < b := h.1
    show (c :: cs).sum + 1 ≤ (b - 1) + need rs
    simp only [List.sum_cons]
    omega
theorem flat_len (s : Sg α) : (flat s).length = s.1.length + (cnts s).sum := by
  unfold flat cnts
  rw [List.length_append, List.length_flatten]
theorem VS.head {c : Clk} {s : Sg Nat} (hc : c.Ok) (h : VS c s) : s.1 ≠ [] := by
  intro e
  have h1 := flat_len s
  rw [h.perm.length_eq, List.length_range, e] at h1
  have h2 := sum_fits h.fits
  have h3 := hc.need
  simp at h1
  omega
theorem tickR_fits : ∀ (rs : List Rail) (R : List (List α)) (q : List α) (b : α), two rs → fits rs (R.map List.length) → fits rs ((tickR rs R q b).2.map List.length)
  | [], [], _, _, _, _ => trivial
  | [], _ :: _, _, _, _, h => h.elim
  | _ :: _, [], _, _, _, h => h.elim
  | (bd, w) :: rs, r :: R, q, b, h2, h => by
    unfold tickR
    split
    · rename_i hlt
      refine ⟨?_, h.2⟩
      simp only [List.length_append, List.length_cons, List.length_nil]
      omega
    · exact ⟨Nat.lt_of_lt_of_le (Nat.succ_pos 1) (h2 (bd, w) List.mem_cons_self), tickR_fits rs R _ b (fun r hr => h2 r (List.mem_cons_of_mem _ hr)) h.2⟩
theorem tickR_flat : ∀ (rs : List Rail) (R : List (List α)) (q : List α) (b : α), (flat (tickR rs R q b)).Perm (b :: (q ++ R.flatten))
  | [], R, q, b => by
    show (q ++ [b] ++ R.flatten).Perm _
    rw [List.append_assoc]
    exact List.perm_middle
  | _ :: _, [], q, b => by
    show (q ++ [b] ++ ([] : List (List α)).flatten).Perm _
    rw [List.append_assoc]
    exact List.perm_middle
  | (bd, w) :: rs, r :: R, q, b => by
    unfold tickR
    split
    · show (q ++ ((r ++ [b]) :: R).flatten).Perm (b :: (q ++ (r :: R).flatten))
      simp only [List.flatten_cons, List.append_assoc]
      have : (q ++ (r ++ ([b] ++ R.flatten))) = (q ++ r) ++ b :: R.flatten := by simp
      rw [this]
      refine List.perm_middle.trans ?_
      simp
    · have ih := tickR_flat rs R (q ++ sent w r) b
      have e : flat ((tickR rs R (q ++ sent w r) b).1, ([] : List α) :: (tickR rs R (q ++ sent w r) b).2) = flat (tickR rs R (q ++ sent w r) b) := by simp [flat]
      rw [e]
      refine ih.trans (List.Perm.cons b ?_)
      simp only [List.flatten_cons, List.append_assoc]
      exact List.Perm.append_left q (List.Perm.append_right _ (sent_perm w r))
theorem step_vs {c : Clk} (hc : c.Ok) {s : Sg Nat} (h : VS c s) : VS c (step c.rs s) := by
  obtain ⟨q, R⟩ := s
  cases q with
  | nil => exact absurd rfl (VS.head hc h)
  | cons b q => exact ⟨tickR_fits c.rs R q b hc.two h.fits, (tickR_flat c.rs R q b).trans h.perm⟩
theorem stepN_vs {c : Clk} (hc : c.Ok) : ∀ (n : Nat) {s : Sg Nat}, VS c s → VS c (stepN c.rs n s)
  | 0, _, h => h
  | n + 1, _, h => stepN_vs hc n (step_vs hc h)
theorem tickR_map (f : α → β) : ∀ (rs : List Rail) (R : List (List α)) (q : List α) (b : α), tickR rs (R.map (List.map f)) (q.map f) (f b) = Sg.map f (tickR rs R q b)
  | [], R, q, b => by simp [tickR, Sg.map]
  | _ :: _, [], q, b => by simp [tickR, Sg.map]
  | (bd, w) :: rs, r :: R, q, b => by
    have ih := tickR_map f rs R (q ++ sent w r) b
    simp only [List.map_append, ← sent_map] at ih
    simp only [List.map_cons, tickR, List.length_map]
    split
    · simp [Sg.map]
    · rw [ih]
      simp [Sg.map]
theorem step_map (f : α → β) (rs : List Rail) (s : Sg α) : step rs (Sg.map f s) = Sg.map f (step rs s) := by
  obtain ⟨q, R⟩ := s
  cases q with
  | nil => rfl
  | cons b q => exact tickR_map f rs R q b
theorem stepN_map (f : α → β) (rs : List Rail) : ∀ (n : Nat) (s : Sg α), stepN rs n (Sg.map f s) = Sg.map f (stepN rs n s)
  | 0, s => rfl
  | n + 1, s => by
    show stepN rs n (step rs (Sg.map f s)) = _
    rw [step_map, stepN_map f rs n]
    rfl
/-- the row of a turn -/
def trow (c : Clk) : List Nat := turnL c.rs (List.range c.n)
theorem trow_perm {c : Clk} (hc : c.Ok) : (trow c).Perm (List.range c.n) := turnL_perm c.rs hc.two _ (by rw [List.length_range]; exact hc.need)
theorem trow_len {c : Clk} (hc : c.Ok) : (trow c).length = c.n := by rw [(trow_perm hc).length_eq, List.length_range]
theorem iterT_row {c : Clk} (hc : c.Ok) (m : Nat) (q : List Nat) (hq : q.length = c.n) : iterT c.rs m q = (List.range c.n).map (fun i => q.getD (itN (trow c) m i) 0) := by
  have z := iterT_at c.rs hc.two (0 : Nat) m q (by rw [hq]; exact hc.need)
  rw [hq] at z
  exact z
theorem range_getD {n i : Nat} (h : i < n) : (List.range n).getD i 0 = i := by
  rw [List.getD_eq_getElem?_getD, List.getElem?_eq_getElem (by rw [List.length_range]; exact h)]
  simp
theorem iterT_first {c : Clk} (hc : c.Ok) (m : Nat) : iterT c.rs m (List.range c.n) = (List.range c.n).map (itN (trow c) m) := by
  rw [iterT_row hc m _ List.length_range]
  apply List.map_congr_left
  intro i hi
  exact range_getD (itN_lt (trow_perm hc) m (List.mem_range.mp hi))
/-- THE SIGHT at a tick: by the rest and the turns -/
theorem sight_at {c : Clk} (hc : c.Ok) (t : Nat) : stepN c.rs t (first c) = Sg.map (itN (trow c) (t / prod c.rs)) (stepN c.rs (t % prod c.rs) (first c)) := by
  have hn : need c.rs ≤ (List.range c.n).length := by rw [List.length_range]; exact hc.need
  have e := far_steps c.rs hc.two (List.range c.n) hn t
  have e2 := far_steps c.rs hc.two (List.range c.n) hn (t % prod c.rs)
  have hpp := prod_pos c.rs hc.two
  rw [Nat.mod_mod, Nat.div_eq_of_lt (Nat.mod_lt _ hpp)] at e2
  show stepN c.rs t (List.range c.n, empt c.rs.length) = Sg.map _ (stepN c.rs (t % prod c.rs) (List.range c.n, empt c.rs.length))
  rw [e, e2, iterT_first hc, spots_map]
  rfl
/-- a sight from its queue -/
theorem spots_counts (c : Clk) (hc : c.Ok) (qq : List Nat) (hq : qq.length = c.n) (cs : List Nat) (hf : fits c.rs cs) : spots c.rs cs qq = stepN c.rs (val c.rs cs) (qq, empt c.rs.length) :=
  (spots_steps c.rs cs hc.two hf qq (by rw [hq]; exact hc.need)).symm
theorem prod_le : ∀ {rs : List Rail}, (∀ r ∈ rs, r.1 ≤ 12) → prod rs ≤ 12 ^ rs.length
  | [], _ => Nat.le_refl _
  | (b, w) :: rs, h => by
    have h1 := prod_le (rs := rs) fun r hr => h r (List.mem_cons_of_mem _ hr)
    have h2 := h (b, w) List.mem_cons_self
    show b * prod rs ≤ 12 ^ (rs.length + 1)
    rw [Nat.pow_succ, Nat.mul_comm]
    exact Nat.mul_le_mul h1 h2
theorem prod_1728 {c : Clk} (hc : c.Ok) : prod c.rs ≤ 1728 := by
  refine Nat.le_trans (prod_le hc.b12) ?_
  exact Nat.le_trans (Nat.pow_le_pow_right (by decide) hc.l3) (by decide)
end BM
end
section
set_option Elab.async false
set_option linter.all false
set_option maxRecDepth 100000
set_option maxHeartbeats 4000000
namespace BH
open PySem PySem.Spec PyProof.Rows L2 BM
/-! ### B: what never changes again; H: what is there -/
structure Ext (B H B' H' : Hp) : Prop where
  b : Same B B'
  w : Same B' H'
  h : Same H H'
  n : ∀ a, H a ≠ Option.none → B' a = B a
theorem Ext.refl {B H : Hp} (s : Same B H) : Ext B H B H := ⟨Same.refl _, s, Same.refl _, fun _ _ => rfl⟩
theorem Ext.trans {B H B1 H1 B2 H2 : Hp} (e : Ext B H B1 H1) (f : Ext B1 H1 B2 H2) : Ext B H B2 H2 :=
  ⟨e.b.trans f.b, f.w, e.h.trans f.h, fun a ha => by
    have h1 : H1 a ≠ Option.none := fun z => by
      cases q : H a with
      | none => exact ha q
      | some o => rw [e.h a o q] at z; cases z
    rw [f.n a h1, e.n a ha]⟩
theorem Ext.bh {B H B1 H1 : Hp} (e : Ext B H B1 H1) : Same B H1 := e.b.trans e.w
theorem _root_.L2.Same.new {H : Hp} {p : Addr} {o : HO} (h : H p = Option.none) : Same H (upd H p o) := fun b x e => by
  rw [upd_ne (ne_of_none e h)]
  exact e
/-- a new thing, both in B and H -/
theorem Ext.new {B H : Hp} (s : Same B H) {p : Addr} (o : HO) (h : H p = Option.none) : Ext B H (upd B p o) (upd H p o) :=
  ⟨Same.new (s.free h), fun b x e => by
    by_cases hb : b = p
    · subst hb; rw [upd_same] at e ⊢; exact e
    · rw [upd_ne hb] at e ⊢; exact s b x e, Same.new h, fun a ha => upd_ne fun z => ha (by rw [z]; exact h)⟩
/-- a new thing that may change later -/
theorem Ext.tmp {B H : Hp} (s : Same B H) {p : Addr} (o : HO) (h : H p = Option.none) : Ext B H B (upd H p o) :=
  ⟨Same.refl _, s.trans (Same.new h), Same.new h, fun _ _ => rfl⟩
/-- p: ours, it may change (H0: the heap at the entry) -/
structure Mine (H0 B H : Hp) (p : Addr) (o : HO) : Prop where
  z : H0 p = Option.none
  b : B p = Option.none
  h : H p = some o
theorem Mine.new {H0 B H : Hp} {B0 : Hp} (e : Ext B0 H0 B H) {p : Addr} {o : HO} (h : H p = Option.none) : Mine H0 B (upd H p o) p o :=
  ⟨e.h.free h, e.w.free h, upd_same⟩
theorem Mine.ext {H0 B H B1 H1 : Hp} {p : Addr} {o : HO} (m : Mine H0 B H p o) (e : Ext B H B1 H1) : Mine H0 B1 H1 p o :=
  ⟨m.z, by rw [e.n p (by rw [m.h]; exact fun q => nomatch q)]; exact m.b, e.h _ _ m.h⟩
/-- it changes -/
theorem Mine.set {B0 H0 B H : Hp} {p : Addr} {o : HO} (m : Mine H0 B H p o) (e : Ext B0 H0 B H) (u : HO) : Ext B0 H0 B (upd H p u) :=
  ⟨e.b, fun b x q => by rw [upd_ne (ne_of_none q m.b)]; exact e.w b x q, fun b x q => by rw [upd_ne (ne_of_none q m.z)]; exact e.h b x q, e.n⟩
theorem Mine.put {H0 B H : Hp} {p : Addr} {o : HO} (m : Mine H0 B H p o) (u : HO) : Mine H0 B (upd H p u) p u := ⟨m.z, m.b, upd_same⟩
theorem Mine.other {H0 B H : Hp} {p q : Addr} {o u : HO} (m : Mine H0 B H p o) (n : p ≠ q) : Mine H0 B (upd H q u) p o := ⟨m.z, m.b, by rw [upd_ne n]; exact m.h⟩
/-- from now on it stays as it is -/
theorem Mine.frz {B0 H0 B H : Hp} {p : Addr} {o : HO} (m : Mine H0 B H p o) (e : Ext B0 H0 B H) : Ext B0 H0 (upd B p o) H :=
  ⟨e.b.trans (Same.new m.b), fun b x q => by
    by_cases hb : b = p
    · subst hb; rw [upd_same] at q; rw [m.h]; exact q
    · rw [upd_ne hb] at q; exact e.w b x q, e.h, fun a ha => by rw [upd_ne fun z => ha (by rw [z]; exact m.z)]; exact e.n a ha⟩
theorem Mine.frz1 {H0 B H : Hp} {p : Addr} {o : HO} (m : Mine H0 B H p o) : Same B (upd B p o) := Same.new m.b
theorem Mine.keep {H0 B H : Hp} {p q : Addr} {o u : HO} (m : Mine H0 B H p o) (n : p ≠ q) : Mine H0 (upd B q u) H p o := ⟨m.z, by rw [upd_ne n]; exact m.b, m.h⟩

/-! ### what values stand for -/
def wayS (b : Bool) : Str := if b then "back" else "through"
/-- a list of numbers from 0 on -/
def LN (K : PySem.W.Frag) (B : Hp) (v : V) (l : List Nat) : Prop := ∃ a, v = .ref a ∧ SqL K B a (l.map fun n : Nat => V.int (n : Int))
def LNs (K : PySem.W.Frag) (B : Hp) (v : V) (ls : List (List Nat)) : Prop := ∃ a vs, v = .ref a ∧ SqL K B a vs ∧ Paired (LN K B) vs ls
/-- a sight -/
def SG (K : PySem.W.Frag) (B : Hp) (v : V) (s : Sg Nat) : Prop := LNs K B v (s.1 :: s.2)
def RL (K : PySem.W.Frag) (B : Hp) (v : V) (r : Rail) : Prop := ∃ a, v = .ref a ∧ SqT K B a [.int (r.1 : Int), .str (wayS r.2)]
def RLs (K : PySem.W.Frag) (B : Hp) (v : V) (rs : List Rail) : Prop := ∃ a vs, v = .ref a ∧ SqL K B a vs ∧ Paired (RL K B) vs rs
def CK (K : PySem.W.Frag) (B : Hp) (v : V) (c : Clk) : Prop := ∃ a rv, v = .ref a ∧ SqT K B a [.int (c.n : Int), rv] ∧ RLs K B rv c.rs
/-- a pair of numbers -/
def P2 (K : PySem.W.Frag) (B : Hp) (v : V) (x : Int × Int) : Prop := ∃ a, v = .ref a ∧ SqT K B a [.int x.1, .int x.2]
/-- a pair of numbers or None -/
def O2 (K : PySem.W.Frag) (B : Hp) (v : V) : Option (Int × Int) → Prop
  | none => v = .non
  | some x => P2 K B v x
theorem _root_.L2.Same.tup {K : PySem.W.Frag} {H H' : Hp} {a : Addr} {xs : List V} (e : Same H H') (h : SqT K H a xs) : SqT K H' a xs := by
  rcases h with (h | ⟨o, h⟩) | h
  · exact .inl (.inl (e _ _ h))
  · exact .inl (.inr ⟨o, e _ _ h⟩)
  · exact .inr h
section
variable {K : PySem.W.Frag} {B B' : Hp} {v : V}
theorem LN.mono (e : Same B B') {l : List Nat} (h : LN K B v l) : LN K B' v l := let ⟨a, h1, h2⟩ := h; ⟨a, h1, e.seq h2⟩
theorem LNs.mono (e : Same B B') {l : List (List Nat)} (h : LNs K B v l) : LNs K B' v l := let ⟨a, vs, h1, h2, h3⟩ := h; ⟨a, vs, h1, e.seq h2, Paired.mapP h3 fun _ _ => LN.mono e⟩
theorem SG.mono (e : Same B B') {s : Sg Nat} (h : SG K B v s) : SG K B' v s := LNs.mono e h
theorem RL.mono (e : Same B B') {r : Rail} (h : RL K B v r) : RL K B' v r := let ⟨a, h1, h2⟩ := h; ⟨a, h1, e.tup h2⟩
theorem RLs.mono (e : Same B B') {r : List Rail} (h : RLs K B v r) : RLs K B' v r := let ⟨a, vs, h1, h2, h3⟩ := h; ⟨a, vs, h1, e.seq h2, Paired.mapP h3 fun _ _ => RL.mono e⟩
theorem CK.mono (e : Same B B') {c : Clk} (h : CK K B v c) : CK K B' v c := let ⟨a, rv, h1, h2, h3⟩ := h; ⟨a, rv, h1, e.tup h2, h3.mono e⟩
theorem P2.mono (e : Same B B') {x : Int × Int} (h : P2 K B v x) : P2 K B' v x := let ⟨a, h1, h2⟩ := h; ⟨a, h1, e.tup h2⟩
theorem O2.mono (e : Same B B') {x : Option (Int × Int)} (h : O2 K B v x) : O2 K B' v x := by
  cases x with
  | none => exact h
  | some x => exact P2.mono e h
end
theorem pat {α β : Type} {F : α → β → Prop} : ∀ {l : List α} {m : List β} {i : Nat} {x : α}, Paired F l m → l[i]? = some x → ∃ y, m[i]? = some y ∧ F x y
  | _, _, _, _, .nil, h => by simp at h
  | _, _, 0, _, .cons r _, h => by simp at h; subst h; exact ⟨_, rfl, r⟩
  | _, _, i + 1, _, .cons _ t, h => pat (i := i) t (by simpa using h)
theorem pat2 {α β : Type} {F : α → β → Prop} : ∀ {l : List α} {m : List β} {i : Nat} {y : β}, Paired F l m → m[i]? = some y → ∃ x, l[i]? = some x ∧ F x y
  | _, _, _, _, .nil, h => by simp at h
  | _, _, 0, _, .cons r _, h => by simp at h; subst h; exact ⟨_, rfl, r⟩
  | _, _, i + 1, _, .cons _ t, h => pat2 (i := i) t (by simpa using h)
/-- pairs by their places -/
theorem paired_of {α β : Type} {F : α → β → Prop} : ∀ {l : List α} {m : List β}, l.length = m.length → (∀ (i : Nat) x y, l[i]? = some x → m[i]? = some y → F x y) → Paired F l m
  | [], [], _, _ => .nil
  | [], _ :: _, h, _ => by simp at h
  | _ :: _, [], h, _ => by simp at h
  | x :: l, y :: m, h, f => .cons (f 0 x y rfl rfl) (paired_of (by simpa using h) fun i a b ha hb => f (i + 1) a b ha hb)
theorem paired_app {α β : Type} {F : α → β → Prop} : ∀ {l l' : List α} {m m' : List β}, Paired F l m → Paired F l' m' → Paired F (l ++ l') (m ++ m')
  | _, _, _, _, .nil, s => s
  | _, _, _, _, .cons r t, s => .cons r (paired_app t s)
theorem paired_rev {α β : Type} {F : α → β → Prop} : ∀ {l : List α} {m : List β}, Paired F l m → Paired F l.reverse m.reverse
  | _, _, .nil => .nil
  | _, _, .cons r t => by
    rw [List.reverse_cons, List.reverse_cons]
    exact paired_app (paired_rev t) (.cons r .nil)

/-! ### promises -/
/-- a def that only makes new things: P says of the arguments what is told of the answer -/
def Pu (P : Hp → List V → (Hp → V → Prop) → Prop) : Sp := fun vs H Q _ => ∃ (B : Hp) (R : Hp → V → Prop), Same B H ∧ P B vs R ∧ ∀ B' H' v, Ext B H B' H' → R B' v → Q v H'
section
variable (P : Program) (w : World) (K : PySem.W.Frag) (mg : Str → Option Value) (base : Heap)
structure Has (x : Str) (k : Nat) (ps : List Str) (sp : Sp) : Prop where
  ex : ∃ fd, FnOk P w K mg base CX0 k (He.ga K x) fd ps sp ∧ Binds K fd ps []
  gl : mg x = some (.ref (He.ga K x))
  kp : PySem.W.keepIn K (.ref (He.ga K x)) = true
structure HasM (C m : Str) (k : Nat) (ps : List Str) (sp : Sp) : Prop where
  ex : ∃ fd, FnOk P w K mg base CX0 k (He.ma K (He.ga K C) m) fd ps sp ∧ Binds K fd ps []
  me : Meth K (He.ga K C) m (He.ma K (He.ga K C) m)
  cl : Cls K (He.ga K C)
structure HasI (C : Str) (k : Nat) (ps : List Str) (sp : Sp) : Prop where
  ex : ∃ fd, FnOk P w K mg base CX0 k (He.ma K (He.ga K C) "__init__") fd ps sp ∧ Binds K fd ps []
  mkr : Mk K (He.ga K C) (He.ma K (He.ga K C) "__init__")
  gl : mg C = some (.ref (He.ga K C))
structure HasP (C m : Str) (k : Nat) (sp : Sp) : Prop where
  ex : ∃ fd, FnOk P w K mg base CX0 k ((Wh.p C m).ad K) fd ["self"] sp ∧ Binds K fd ["self"] []
  pr : PropOf K (He.ga K C) m (He.ma K (He.ga K C) m) ((Wh.p C m).ad K)
  cl : Cls K (He.ga K C)
end
section
variable {X : Cx} {x C m : Str} {k j : Nat} {ps : List Str} {sp : Sp} {e o : Expr} {es : List Expr} {t : TA} {to : TE} {p pos apos : Pos}
def tCal (sp : Sp) (t : TA) : TE := fun σ H Q => t σ H fun vs H1 => sp vs H1 Q E0
def tCalM (C : Addr) (m : Str) (sp : Sp) (to : TE) (t : TA) : TE := fun σ H Q => to σ H fun x H1 => ∃ a dx fs, x = .ref a ∧ H1 a = some (.ins C dx fs) ∧ fs.lookup m = none ∧ t σ H1 fun vs H2 => sp (x :: vs) H2 Q E0
def tNw (C : Addr) (sp : Sp) (t : TA) : TE := fun σ H Q => t σ H fun vs H1 => ∀ x dx, H1 x = none → H1 dx = none → dx ≠ x → sp (.ref x :: vs) (upd (upd H1 dx (.own x)) x (.ins C dx [])) (fun v H2 => v = .non ∧ Q (.ref x) H2) E0
def tPrp (C : Addr) (sp : Sp) (to : TE) : TE := fun σ H Q => to σ H fun x H1 => ∃ a dx fs, x = .ref a ∧ H1 a = some (.ins C dx fs) ∧ sp [.ref a] H1 Q E0
/-- f(e, ..) -/
theorem pc (h : Has X.prog X.w X.K X.mg X.base x k ps sp) (hr : Room j X.A) (ha : PA X (e :: es) t) (hk : k ≤ j := by decide) (hg : Gl X x := by rfl) (hdb : (x == ("__debug__" : Str)) = false := by decide)
    (he : starEach (e :: es) X.env = (false, eval e X.env) :: starEach es X.env := by rfl) (hpl : (backTo pos (starEach es X.env)).any (·.1) = false := by rfl) : PE X (.Call (.Name x p) (e :: es) [] pos) (tCal sp t) := by
  obtain ⟨fd, F, b⟩ := h.ex
  have z := pe_call (pos := pos) (p := p) F (hr.mono hk) hg h.gl h.kp b .nil (pass0 (X := X)) ha hdb he hpl
  refine ⟨fun pins s σ H Q I q => z.run pins s σ H Q I ?_⟩
  show t σ H fun vs H1 => sp (vs ++ []) H1 Q E0
  have e1 : (fun (vs : List V) H1 => sp (vs ++ []) H1 Q E0) = fun vs H1 => sp vs H1 Q E0 := by
    funext vs H1; rw [List.append_nil]
  rw [e1]
  exact q
/-- o.m(e, ..) -/
theorem pm {pl : Sem Bool} (h : HasM X.prog X.w X.K X.mg X.base C m k ps sp) (hr : Room j X.A) (ho : PE X o to) (ha : PA X (e :: es) t) (hk : k ≤ j := by decide)
    (hst : starEach (e :: es) X.env = (false, eval e X.env) :: starEach es X.env := by rfl) (hpl : (backTo pos (starEach es X.env)).any (·.1) = false := by rfl)
    (ht : eval (.Call (.Attribute o m apos) (e :: es) [] pos) X.env = (do
      let ov ← eval o X.env
      standAt apos.atName
      let (f, first) ← holding [ov] (getMethod ov m pl)
      callWith pos f first (backTo pos (starEach (e :: es) X.env)) (backToKw pos (keywordEach [] X.env))) := by rfl) :
    PE X (.Call (.Attribute o m apos) (e :: es) [] pos) (tCalM (He.ga X.K C) m sp to t) := by
  obtain ⟨fd, F, b⟩ := h.ex
  have z := pe_meth (pos := pos) (apos := apos) (pl := pl) ho h.cl h.me F (hr.mono hk) b .nil (pass0 (X := X)) ha hst hpl ht
  refine ⟨fun pins s σ H Q I q => z.run pins s σ H Q I ?_⟩
  show to σ H fun x H1 => ∃ a dx fs, x = .ref a ∧ H1 a = some (.ins (He.ga X.K C) dx fs) ∧ fs.lookup m = none ∧ t σ H1 fun vs H2 => sp (x :: (vs ++ [])) H2 Q E0
  have e1 : ∀ x, (fun (vs : List V) H2 => sp (x :: (vs ++ [])) H2 Q E0) = fun vs H2 => sp (x :: vs) H2 Q E0 := fun x => by
    funext vs H1; rw [List.append_nil]
  simp only [e1]
  exact q
theorem pm0 {pl : Sem Bool} (h : HasM X.prog X.w X.K X.mg X.base C m k ps sp) (hr : Room j X.A) (ho : PE X o to) (hk : k ≤ j := by decide)
    (ht : eval (.Call (.Attribute o m apos) [] [] pos) X.env = (do
      let ov ← eval o X.env
      standAt apos.atName
      let (f, first) ← holding [ov] (getMethod ov m pl)
      callWith pos f first (backTo pos (starEach [] X.env)) (backToKw pos (keywordEach [] X.env))) := by rfl) :
    PE X (.Call (.Attribute o m apos) [] [] pos) (tCalM (He.ga X.K C) m sp to tNil) := by
  obtain ⟨fd, F, b⟩ := h.ex
  have z := pe_meth0 (pos := pos) (apos := apos) (pl := pl) ho h.cl h.me F (hr.mono hk) b .nil (pass0 (X := X)) ht
  exact ⟨fun pins s σ H Q I q => z.run pins s σ H Q I q⟩
/-- C(e, ..) -/
theorem pk (h : HasI X.prog X.w X.K X.mg X.base C k ps sp) (hr : Room j X.A) (ha : PA X (e :: es) t) (hk : k + 1 ≤ j := by decide) (hg : Gl X C := by rfl) (hdb : (C == ("__debug__" : Str)) = false := by decide)
    (he : starEach (e :: es) X.env = (false, eval e X.env) :: starEach es X.env := by rfl) (hpl : (backTo pos (starEach es X.env)).any (·.1) = false := by rfl) : PE X (.Call (.Name C p) (e :: es) [] pos) (tNw (He.ga X.K C) sp t) := by
  obtain ⟨fd, F, b⟩ := h.ex
  have z := pe_make (pos := pos) (p := p) h.mkr F (hr.mono hk) hg h.gl b .nil (pass0 (X := X)) ha hdb he hpl
  refine ⟨fun pins s σ H Q I q => z.run pins s σ H Q I ?_⟩
  show t σ H fun vs H1 => ∀ x dx, H1 x = none → H1 dx = none → dx ≠ x → sp (.ref x :: (vs ++ [])) (upd (upd H1 dx (.own x)) x (.ins (He.ga X.K C) dx [])) (fun v H2 => v = .non ∧ Q (.ref x) H2) E0
  have e1 : ∀ vs : List V, vs ++ [] = vs := fun vs => List.append_nil vs
  simp only [e1]
  exact q
theorem pk0 (h : HasI X.prog X.w X.K X.mg X.base C k ps sp) (hr : Room j X.A) (hk : k + 1 ≤ j := by decide) (hg : Gl X C := by rfl) (hdb : (C == ("__debug__" : Str)) = false := by decide) : PE X (.Call (.Name C p) [] [] pos) (tNw (He.ga X.K C) sp tNil) := by
  obtain ⟨fd, F, b⟩ := h.ex
  have z := pe_make0 (pos := pos) (p := p) h.mkr F (hr.mono hk) hg h.gl b .nil (pass0 (X := X)) hdb
  exact ⟨fun pins s σ H Q I q => z.run pins s σ H Q I q⟩
/-- o.m, a property -/
theorem pq (h : HasP X.prog X.w X.K X.mg X.base C m k sp) (hr : Room j X.A) (ho : PE X o to) (hk : k + 1 ≤ j := by decide) (hab : attributeBase o m X.env (eval o X.env) = eval o X.env := by rfl) : PE X (.Attribute o m pos) (tPrp (He.ga X.K C) sp to) := by
  obtain ⟨fd, F, b⟩ := h.ex
  have z := pe_prop (pos := pos) ho h.cl h.pr F (hr.mono hk) b .nil (pass0 (X := X.nox)) hab
  exact ⟨fun pins s σ H Q I q => z.run pins s σ H Q I q⟩
end

/-! ### comprehensions whose turns only make new things -/
theorem lc_new {J : It} {n : Nat} {G : Hp → Prop} {Y : Nat → Hp → V → Hp → Prop} {g : TG} {te : TE} {vs : List Nat} {σ : L2.St} {B H : Hp} {D : Addr} {Qd : Hp → Prop} (wk : Walk J n G Y) (R : Nat → Hp → V → Prop)
    (hB : Same B H) (hG : ∀ H', Same B H' → G H') (hn : n ≤ 1000000) (hD : H D = Option.none) (mono : ∀ i y B1 B2, Same B1 B2 → R i B1 y → R i B2 y)
    (hs : ∀ i x B1 H1 H1' (N : VK), i < n → Ext B H B1 H1 → Y i H1 x H1' → (∀ B3 H3 y, Ext B1 H1 B3 H3 → R i B3 y → N y H3) → g x (wipe σ vs) H1' fun σ2 H2 => wipe σ2 vs = wipe σ vs ∧ te σ2 H2 N)
    (hd : ∀ B' H' ys, Ext B H B' H' → B' D = some (.lst ys) → ys.length = n → (∀ i y, ys[i]? = some y → R i B' y) → Qd H') :
    ∃ W : Nat → Nat → Hp → Prop, (∃ m, W 0 m (upd H D (.lst []))) ∧ ∀ i m H, W i m H →
      (J.stop i H ∧ Qd H) ∨ (J.go i H ∧ ∃ Nx : Hp → Prop, (∀ H', Nx H' → ∃ m', m' < m ∧ W (i + 1) m' H') ∧ ∀ x H', J.yld i H x H' → g x (wipe σ vs) H' fun σ2 H2 => wipe σ2 vs = wipe σ vs ∧ tYes σ2 H2 fun b H3 =>
        if b = true then te σ2 H3 fun y H4 => ∃ acc, H4 D = some (.lst acc) ∧ acc.length < sizeLine ∧ Nx (upd H4 D (.lst (acc ++ [y]))) else Nx H3) := by
  refine lc_it wk (Pv := fun i H' => ∃ B1 acc, Ext B H B1 H' ∧ Mine H B1 H' D (.lst acc) ∧ acc.length = i ∧ ∀ j y, acc[j]? = some y → R j B1 y) ?_ ?_ ?_ ?_
  · exact ⟨B, [], Ext.tmp hB _ hD, ⟨hD, hB.free hD, upd_same⟩, rfl, fun j y h => by simp at h⟩
  · rintro i H' _ ⟨B1, acc, e, _⟩
    exact hG H' e.bh
  · rintro i x H1 H1' hi ⟨B1, acc, e, m, hl, hR⟩ hy
    refine hs i x B1 H1 H1' (fun y H3 => ∃ acc, H3 D = some (.lst acc) ∧ acc.length < sizeLine ∧ _) hi e hy fun B3 H3 y e3 hy3 => ?_
    have m3 := m.ext e3
    refine ⟨acc, m3.h, Nat.lt_of_lt_of_le (Nat.lt_of_lt_of_le (by omega) hn) (by decide), B3, acc ++ [y], m3.set (e.trans e3) _, m3.put _, by simp [hl], fun j z hj => ?_⟩
    by_cases hj' : j < acc.length
    · rw [List.getElem?_append_left hj'] at hj
      exact mono _ _ _ _ e3.b (hR j z hj)
    · rw [List.getElem?_append_right (by omega)] at hj
      have e0 : j - acc.length = 0 := by
        cases q : j - acc.length with
        | zero => rfl
        | succ k => rw [q] at hj; simp at hj
      rw [e0] at hj
      have ez : y = z := by simpa using hj
      subst ez
      have ej : j = i := by omega
      subst ej
      exact hy3
  · rintro H' ⟨B1, acc, e, m, hl, hR⟩
    exact hd (upd B1 D (.lst acc)) H' acc (m.frz e) upd_same hl fun i y hi => mono _ _ _ _ m.frz1 (hR i y hi)
end BH
end
section
set_option Elab.async false
set_option linter.all false
set_option maxRecDepth 100000
set_option maxHeartbeats 4000000
namespace BH
open PySem PySem.Spec PyProof.Rows L2 BM
theorem sc_Runs_init : FnScope ["self", "clock"] ["self", "clock"] (defScope s_Runs_init) := ⟨rfl, rfl, rfl, by decide +kernel, rfl, by decide +kernel, by decide +kernel⟩
theorem sc_Runs_row : FnScope ["self", "rail", "length", "key"] ["self", "rail", "length"] (defScope s_Runs_row) := ⟨rfl, rfl, rfl, by decide +kernel, rfl, by decide +kernel, by decide +kernel⟩
theorem sc_Runs_found_row : FnScope ["self", "rail", "length", "queue", "bound", "way", "lying", "turn", "row", "given", "back", "place"] ["self", "rail", "length"] (defScope s_Runs_found_row) := ⟨rfl, rfl, rfl, by decide +kernel, rfl, by decide +kernel, by decide +kernel⟩
theorem sc_spots_at : FnScope ["clock", "counts", "runs", "queue", "rails", "rail", "lying", "turn", "row", "place"] ["clock", "counts"] (defScope s_spots_at) := ⟨rfl, rfl, rfl, by decide +kernel, rfl, by decide +kernel, by decide +kernel⟩
theorem sc_turn_row : FnScope ["clock", "row"] ["clock"] (defScope s_turn_row) := ⟨rfl, rfl, rfl, by decide +kernel, rfl, by decide +kernel, by decide +kernel⟩
theorem sc_row_cycles : FnScope ["row", "found", "seen", "begin", "cycle", "here"] ["row"] (defScope s_row_cycles) := ⟨rfl, rfl, rfl, by decide +kernel, rfl, by decide +kernel, by decide +kernel⟩
theorem sc_power_row : FnScope ["row", "times", "found", "cycle", "index", "here"] ["row", "times"] (defScope s_power_row) := ⟨rfl, rfl, rfl, by decide +kernel, rfl, by decide +kernel, by decide +kernel⟩
theorem sc_inverse_row : FnScope ["row", "found", "place", "here"] ["row"] (defScope s_inverse_row) := ⟨rfl, rfl, rfl, by decide +kernel, rfl, by decide +kernel, by decide +kernel⟩
theorem sc_is_integer : FnScope ["value"] ["value"] (defScope s_is_integer) := ⟨rfl, rfl, rfl, by decide +kernel, rfl, by decide +kernel, by decide +kernel⟩
theorem sc_is_at_least : FnScope ["value", "least"] ["value", "least"] (defScope s_is_at_least) := ⟨rfl, rfl, rfl, by decide +kernel, rfl, by decide +kernel, by decide +kernel⟩
theorem sc_is_rail : FnScope ["value"] ["value"] (defScope s_is_rail) := ⟨rfl, rfl, rfl, by decide +kernel, rfl, by decide +kernel, by decide +kernel⟩
theorem sc_clock_fault : FnScope ["value", "balls", "rails", "rail", "bound", "way"] ["value"] (defScope s_clock_fault) := ⟨rfl, rfl, rfl, by decide +kernel, rfl, by decide +kernel, by decide +kernel⟩
theorem sc_is_ball : FnScope ["clock", "value"] ["clock", "value"] (defScope s_is_ball) := ⟨rfl, rfl, rfl, by decide +kernel, rfl, by decide +kernel, by decide +kernel⟩
theorem sc_sight_fault : FnScope ["clock", "value", "balls", "rails", "seen", "index", "row", "ball"] ["clock", "value"] (defScope s_sight_fault) := ⟨rfl, rfl, rfl, by decide +kernel, rfl, by decide +kernel, by decide +kernel⟩
theorem sc_require_clock : FnScope ["clock", "fault"] ["clock"] (defScope s_require_clock) := ⟨rfl, rfl, rfl, by decide +kernel, rfl, by decide +kernel, by decide +kernel⟩
theorem sc_require_sight : FnScope ["clock", "sight", "fault"] ["clock", "sight"] (defScope s_require_sight) := ⟨rfl, rfl, rfl, by decide +kernel, rfl, by decide +kernel, by decide +kernel⟩
theorem sc_require_ball : FnScope ["clock", "ball"] ["clock", "ball"] (defScope s_require_ball) := ⟨rfl, rfl, rfl, by decide +kernel, rfl, by decide +kernel, by decide +kernel⟩
theorem sc_require_tick : FnScope ["tick"] ["tick"] (defScope s_require_tick) := ⟨rfl, rfl, rfl, by decide +kernel, rfl, by decide +kernel, by decide +kernel⟩
theorem sc_require_at_least : FnScope ["value", "least"] ["value", "least"] (defScope s_require_at_least) := ⟨rfl, rfl, rfl, by decide +kernel, rfl, by decide +kernel, by decide +kernel⟩
theorem sc_turn_of : FnScope ["clock", "found", "bound", "way"] ["clock"] (defScope s_turn_of) := ⟨rfl, rfl, rfl, by decide +kernel, rfl, by decide +kernel, by decide +kernel⟩
theorem sc_digits_of : FnScope ["clock", "rest", "found", "bound", "way", "digit"] ["clock", "rest"] (defScope s_digits_of) := ⟨rfl, rfl, rfl, by decide +kernel, rfl, by decide +kernel, by decide +kernel⟩
theorem sc_sight_of : FnScope ["clock", "queue", "rest", "row", "place"] ["clock", "queue", "rest"] (defScope s_sight_of) := ⟨rfl, rfl, rfl, by decide +kernel, rfl, by decide +kernel, by decide +kernel⟩
theorem sc_sight_behind : FnScope ["clock", "queue", "ticks", "turns", "rest", "places", "place"] ["clock", "queue", "ticks"] (defScope s_sight_behind) := ⟨rfl, rfl, rfl, by decide +kernel, rfl, by decide +kernel, by decide +kernel⟩
theorem sc_ticks_past : FnScope ["clock", "sight", "found", "weight", "bound", "way", "row"] ["clock", "sight"] (defScope s_ticks_past) := ⟨rfl, rfl, rfl, by decide +kernel, rfl, by decide +kernel, by decide +kernel⟩
theorem sc_queue_of : FnScope ["clock", "sight", "spots", "places", "balls", "row", "here", "index"] ["clock", "sight"] (defScope s_queue_of) := ⟨rfl, rfl, rfl, by decide +kernel, rfl, by decide +kernel, by decide +kernel⟩
theorem sc_far_sight : FnScope ["clock", "tick"] ["clock", "tick"] (defScope s_far_sight) := ⟨rfl, rfl, rfl, by decide +kernel, rfl, by decide +kernel, by decide +kernel⟩
theorem sc_moved_sight : FnScope ["clock", "sight", "ticks"] ["clock", "sight", "ticks"] (defScope s_moved_sight) := ⟨rfl, rfl, rfl, by decide +kernel, rfl, by decide +kernel, by decide +kernel⟩
theorem sc_sight_at : FnScope ["clock", "tick"] ["clock", "tick"] (defScope s_sight_at) := ⟨rfl, rfl, rfl, by decide +kernel, rfl, by decide +kernel, by decide +kernel⟩
theorem sc_spot_at : FnScope ["clock", "ball", "tick", "sight", "rail", "row"] ["clock", "ball", "tick"] (defScope s_spot_at) := ⟨rfl, rfl, rfl, by decide +kernel, rfl, by decide +kernel, by decide +kernel⟩
theorem sc_common_divisor : FnScope ["one", "other"] ["one", "other"] (defScope s_common_divisor) := ⟨rfl, rfl, rfl, by decide +kernel, rfl, by decide +kernel, by decide +kernel⟩
theorem sc_common_multiple : FnScope ["one", "other"] ["one", "other"] (defScope s_common_multiple) := ⟨rfl, rfl, rfl, by decide +kernel, rfl, by decide +kernel, by decide +kernel⟩
theorem sc_inverse_of : FnScope ["number", "step", "one", "other", "first", "second", "times"] ["number", "step"] (defScope s_inverse_of) := ⟨rfl, rfl, rfl, by decide +kernel, rfl, by decide +kernel, by decide +kernel⟩
theorem sc_joined_two : FnScope ["one", "other", "rest", "step", "goal", "more", "divisor", "part", "times", "whole"] ["one", "other"] (defScope s_joined_two) := ⟨rfl, rfl, rfl, by decide +kernel, rfl, by decide +kernel, by decide +kernel⟩
theorem sc_joined_rests : FnScope ["rows", "found", "row"] ["rows"] (defScope s_joined_rests) := ⟨rfl, rfl, rfl, by decide +kernel, rfl, by decide +kernel, by decide +kernel⟩
theorem sc_Circles_init : FnScope ["self", "clock", "number", "cycle", "spot", "place"] ["self", "clock"] (defScope s_Circles_init) := ⟨rfl, rfl, rfl, by decide +kernel, rfl, by decide +kernel, by decide +kernel⟩
theorem sc_Circles_turns_to : FnScope ["self", "place", "ball", "number", "spot", "other", "goal", "step"] ["self", "place", "ball"] (defScope s_Circles_turns_to) := ⟨rfl, rfl, rfl, by decide +kernel, rfl, by decide +kernel, by decide +kernel⟩
theorem sc_Circles_turns_for : FnScope ["self", "order", "rows", "place", "ball"] ["self", "order"] (defScope s_Circles_turns_for) := ⟨rfl, rfl, rfl, by decide +kernel, rfl, by decide +kernel, by decide +kernel⟩
theorem sc_queue_period : FnScope ["clock", "found", "cycle"] ["clock"] (defScope s_queue_period) := ⟨rfl, rfl, rfl, by decide +kernel, rfl, by decide +kernel, by decide +kernel⟩
theorem sc_order_period : FnScope ["clock"] ["clock"] (defScope s_order_period) := ⟨rfl, rfl, rfl, by decide +kernel, rfl, by decide +kernel, by decide +kernel⟩
theorem sc_tick_of : FnScope ["clock", "sight", "found"] ["clock", "sight"] (defScope s_tick_of) := ⟨rfl, rfl, rfl, by decide +kernel, rfl, by decide +kernel, by decide +kernel⟩
theorem sc_turn_ticks : FnScope ["clock"] ["clock"] (defScope s_turn_ticks) := ⟨rfl, rfl, rfl, by decide +kernel, rfl, by decide +kernel, by decide +kernel⟩
theorem sc_BallClock_init : FnScope ["self", "clock"] ["self", "clock"] (defScope s_BallClock_init) := ⟨rfl, rfl, rfl, by decide +kernel, rfl, by decide +kernel, by decide +kernel⟩
theorem sc_BallClock_sight_now : FnScope ["self", "rail"] ["self"] (defScope s_BallClock_sight_now) := ⟨rfl, rfl, rfl, by decide +kernel, rfl, by decide +kernel, by decide +kernel⟩
theorem sc_BallClock_keep : FnScope ["self", "call", "sight", "ticks"] ["self", "call", "sight", "ticks"] (defScope s_BallClock_keep) := ⟨rfl, rfl, rfl, by decide +kernel, rfl, by decide +kernel, by decide +kernel⟩
theorem sc_BallClock_tick : FnScope ["self"] ["self"] (defScope s_BallClock_tick) := ⟨rfl, rfl, rfl, by decide +kernel, rfl, by decide +kernel, by decide +kernel⟩
theorem sc_BallClock_run : FnScope ["self", "ticks"] ["self", "ticks"] (defScope s_BallClock_run) := ⟨rfl, rfl, rfl, by decide +kernel, rfl, by decide +kernel, by decide +kernel⟩
theorem sc_BallClock_swap : FnScope ["self", "one", "other", "swapped", "sight", "balls", "ball"] ["self", "one", "other"] (defScope s_BallClock_swap) := ⟨rfl, rfl, rfl, by decide +kernel, rfl, by decide +kernel, by decide +kernel⟩
theorem sc_BallClock_sight : FnScope ["self", "balls"] ["self"] (defScope s_BallClock_sight) := ⟨rfl, rfl, rfl, by decide +kernel, rfl, by decide +kernel, by decide +kernel⟩
theorem sc_BallClock_counts : FnScope ["self", "balls"] ["self"] (defScope s_BallClock_counts) := ⟨rfl, rfl, rfl, by decide +kernel, rfl, by decide +kernel, by decide +kernel⟩
theorem sc_BallClock_moment : FnScope ["self"] ["self"] (defScope s_BallClock_moment) := ⟨rfl, rfl, rfl, by decide +kernel, rfl, by decide +kernel, by decide +kernel⟩
theorem sc_sent_back : FnScope ["row", "way"] ["row", "way"] (defScope s_sent_back) := ⟨rfl, rfl, rfl, by decide +kernel, rfl, by decide +kernel, by decide +kernel⟩
theorem sc_sight_after : FnScope ["clock", "sight", "rows", "rails", "ball", "queue", "index", "bound", "way", "row"] ["clock", "sight"] (defScope s_sight_after) := ⟨rfl, rfl, rfl, by decide +kernel, rfl, by decide +kernel, by decide +kernel⟩
theorem sc_is_item : FnScope ["clock", "value", "part"] ["clock", "value"] (defScope s_is_item) := ⟨rfl, rfl, rfl, by decide +kernel, rfl, by decide +kernel, by decide +kernel⟩
theorem sc_require_look : FnScope ["clock", "look", "index", "item"] ["clock", "look"] (defScope s_require_look) := ⟨rfl, rfl, rfl, by decide +kernel, rfl, by decide +kernel, by decide +kernel⟩
theorem sc_Turned_init : FnScope ["self", "clock", "sight", "rest", "rail"] ["self", "clock"] (defScope s_Turned_init) := ⟨rfl, rfl, rfl, by decide +kernel, rfl, by decide +kernel, by decide +kernel⟩
theorem sc_Turned_place_at : FnScope ["self", "rest", "rail", "spot", "places"] ["self", "rest", "rail", "spot"] (defScope s_Turned_place_at) := ⟨rfl, rfl, rfl, by decide +kernel, rfl, by decide +kernel, by decide +kernel⟩
theorem sc_Turned_turns_fitting : FnScope ["self", "rest", "item", "wait", "ball", "rail", "spot", "tick", "place", "found"] ["self", "rest", "item"] (defScope s_Turned_turns_fitting) := ⟨rfl, rfl, rfl, by decide +kernel, rfl, by decide +kernel, by decide +kernel⟩
theorem sc_Turned_rows_fitting : FnScope ["self", "look", "found", "rest", "rows", "turns", "item"] ["self", "look"] (defScope s_Turned_rows_fitting) := ⟨rfl, rfl, rfl, by decide +kernel, rfl, by decide +kernel, by decide +kernel⟩
theorem sc_rows_for : FnScope ["clock", "look"] ["clock", "look"] (defScope s_rows_for) := ⟨rfl, rfl, rfl, by decide +kernel, rfl, by decide +kernel, by decide +kernel⟩
theorem sc_first_fit : FnScope ["clock", "look", "rows"] ["clock", "look"] (defScope s_first_fit) := ⟨rfl, rfl, rfl, by decide +kernel, rfl, by decide +kernel, by decide +kernel⟩
theorem sc_require_alike : FnScope ["clock", "other", "with_rails"] ["clock", "other", "with_rails"] (defScope s_require_alike) := ⟨rfl, rfl, rfl, by decide +kernel, rfl, by decide +kernel, by decide +kernel⟩
theorem sc_first_unlike : FnScope ["clock", "other", "ticks", "bound", "way", "second", "its_way"] ["clock", "other"] (defScope s_first_unlike) := ⟨rfl, rfl, rfl, by decide +kernel, rfl, by decide +kernel, by decide +kernel⟩
theorem sc_parting_tick : FnScope ["clock", "other"] ["clock", "other"] (defScope s_parting_tick) := ⟨rfl, rfl, rfl, by decide +kernel, rfl, by decide +kernel, by decide +kernel⟩
theorem sc_natural_of : FnScope ["word", "sign"] ["word"] (defScope s_natural_of) := ⟨rfl, rfl, rfl, by decide +kernel, rfl, by decide +kernel, by decide +kernel⟩
theorem sc_integer_of : FnScope ["word", "found"] ["word"] (defScope s_integer_of) := ⟨rfl, rfl, rfl, by decide +kernel, rfl, by decide +kernel, by decide +kernel⟩
theorem sc_words_of : FnScope ["text"] ["text"] (defScope s_words_of) := ⟨rfl, rfl, rfl, by decide +kernel, rfl, by decide +kernel, by decide +kernel⟩
theorem sc_format_clock : FnScope ["clock", "bound", "way"] ["clock"] (defScope s_format_clock) := ⟨rfl, rfl, rfl, by decide +kernel, rfl, by decide +kernel, by decide +kernel⟩
theorem sc_format_sight : FnScope ["sight", "words", "row", "ball"] ["sight"] (defScope s_format_sight) := ⟨rfl, rfl, rfl, by decide +kernel, rfl, by decide +kernel, by decide +kernel⟩
theorem sc_rail_of : FnScope ["word", "bound", "way"] ["word"] (defScope s_rail_of) := ⟨rfl, rfl, rfl, by decide +kernel, rfl, by decide +kernel, by decide +kernel⟩
theorem sc_parse_clock : FnScope ["text", "words", "balls", "rails", "left", "index", "word", "rail"] ["text"] (defScope s_parse_clock) := ⟨rfl, rfl, rfl, by decide +kernel, rfl, by decide +kernel, by decide +kernel⟩
theorem sc_ball_written : FnScope ["clock", "word", "seen", "ball"] ["clock", "word", "seen"] (defScope s_ball_written) := ⟨rfl, rfl, rfl, by decide +kernel, rfl, by decide +kernel, by decide +kernel⟩
theorem sc_parse_sight : FnScope ["clock", "text", "balls", "rails", "rows", "seen", "words", "room", "index", "word", "ball", "bound", "way"] ["clock", "text"] (defScope s_parse_sight) := ⟨rfl, rfl, rfl, by decide +kernel, rfl, by decide +kernel, by decide +kernel⟩
theorem sc_clock_values : FnScope ["text"] ["text"] (defScope s_clock_values) := ⟨rfl, rfl, rfl, by decide +kernel, rfl, by decide +kernel, by decide +kernel⟩
theorem sc_command_values : FnScope ["name", "words", "found", "word"] ["name", "words"] (defScope s_command_values) := ⟨rfl, rfl, rfl, by decide +kernel, rfl, by decide +kernel, by decide +kernel⟩
theorem sc_value_text : FnScope ["value"] ["value"] (defScope s_value_text) := ⟨rfl, rfl, rfl, by decide +kernel, rfl, by decide +kernel, by decide +kernel⟩
theorem sc_numbers_text : FnScope ["numbers", "number"] ["numbers"] (defScope s_numbers_text) := ⟨rfl, rfl, rfl, by decide +kernel, rfl, by decide +kernel, by decide +kernel⟩
theorem sc_Console_init : FnScope ["self"] ["self"] (defScope s_Console_init) := ⟨rfl, rfl, rfl, by decide +kernel, rfl, by decide +kernel, by decide +kernel⟩
theorem sc_Console_set_anew : FnScope ["self", "clock"] ["self", "clock"] (defScope s_Console_set_anew) := ⟨rfl, rfl, rfl, by decide +kernel, rfl, by decide +kernel, by decide +kernel⟩
theorem sc_Console_change : FnScope ["self", "name", "values"] ["self", "name", "values"] (defScope s_Console_change) := ⟨rfl, rfl, rfl, by decide +kernel, rfl, by decide +kernel, by decide +kernel⟩
theorem sc_Console_answer : FnScope ["self", "name", "values", "clock", "live"] ["self", "name", "values"] (defScope s_Console_answer) := ⟨rfl, rfl, rfl, by decide +kernel, rfl, by decide +kernel, by decide +kernel⟩
theorem sc_Console_execute : FnScope ["self", "command", "name", "words", "values"] ["self", "command"] (defScope s_Console_execute) := ⟨rfl, rfl, rfl, by decide +kernel, rfl, by decide +kernel, by decide +kernel⟩
theorem sc_law_stock : FnScope ["_law_script", "_law_digits", "_law_mixed", "_law_cell", "_law_grown"] ["_law_script"] (defScope s_law_stock) := ⟨rfl, rfl, rfl, by decide +kernel, rfl, by decide +kernel, by decide +kernel⟩
theorem sc_law_draw : FnScope ["_law_stock_here", "_law_wide", "_law_found", "_law_grown"] ["_law_stock_here", "_law_wide"] (defScope s_law_draw) := ⟨rfl, rfl, rfl, by decide +kernel, rfl, by decide +kernel, by decide +kernel⟩
theorem sc_law_kind : FnScope ["_law_stock_here", "_law_most", "_law_wide", "_law_spare", "_law_rails_here", "_law_total", "_law_turn_here", "_law_bound_here"] ["_law_stock_here", "_law_most", "_law_wide", "_law_spare"] (defScope s_law_kind) := ⟨rfl, rfl, rfl, by decide +kernel, rfl, by decide +kernel, by decide +kernel⟩
theorem sc_law_console : FnScope ["_law_kind_here", "_law_texts_here", "_law_console_here", "_law_told", "_law_text"] ["_law_kind_here", "_law_texts_here"] (defScope s_law_console) := ⟨rfl, rfl, rfl, by decide +kernel, rfl, by decide +kernel, by decide +kernel⟩
theorem sc_law_texts : FnScope ["_law_stock_here", "_law_kind_here", "_law_count", "_law_found", "_law_turn_here", "_law_first_here", "_law_second", "_law_many", "_law_rows"] ["_law_stock_here", "_law_kind_here", "_law_count"] (defScope s_law_texts) := ⟨rfl, rfl, rfl, by decide +kernel, rfl, by decide +kernel, by decide +kernel⟩
theorem sc_law_again_right : FnScope ["_law_kind_here", "_law_console_here", "_law_text", "_law_told", "_law_view", "_law_many", "_law_row"] ["_law_kind_here", "_law_console_here"] (defScope s_law_again_right) := ⟨rfl, rfl, rfl, by decide +kernel, rfl, by decide +kernel, by decide +kernel⟩
theorem sc_law_spots_right : FnScope ["_law_stock_here", "_law_kind_here", "_law_many", "_law_console_here", "_law_rail_here", "_law_row", "_law_place", "_law_ball_here", "_law_spot", "_law_asked", "_law_wait", "_law_told", "_law_now"] ["_law_stock_here", "_law_kind_here"] (defScope s_law_spots_right) := ⟨rfl, rfl, rfl, by decide +kernel, rfl, by decide +kernel, by decide +kernel⟩
theorem sc_law_parts_right : FnScope ["_law_stock_here", "_law_kind_here", "_law_spot", "_law_bound_here", "_law_road", "_law_other_rail", "_law_other_kind", "_law_one_here", "_law_two", "_law_told", "_law_console_here"] ["_law_stock_here", "_law_kind_here"] (defScope s_law_parts_right) := ⟨rfl, rfl, rfl, by decide +kernel, rfl, by decide +kernel, by decide +kernel⟩
theorem sc_law : FnScope ["_law_script", "_law_stock_here", "_law_turn_here", "_law_kind_here", "_law_console_here"] ["_law_script"] (defScope s_law) := ⟨rfl, rfl, rfl, by decide +kernel, rfl, by decide +kernel, by decide +kernel⟩
end BH
end
section
set_option Elab.async false
set_option linter.all false
set_option maxRecDepth 100000
set_option maxHeartbeats 4000000
namespace BH
open PySem PySem.Spec PyProof.Rows L2 BM
section
variable {X : Cx} {pins : List (Addr × Obj)} {σ : L2.St} {H : Hp} {s : Shared}
/-! ### == and != beside an empty list, an empty tuple -/
def rE (K : PySem.W.Frag) (k : Bool) : R2 := fun x y H Q => ∃ a b xs, x = .ref a ∧ y = .ref b ∧ ((SqL K H a xs ∧ SqL K H b []) ∨ (SqT K H a xs ∧ SqT K H b [])) ∧ Q (.bl (xs.isEmpty == k)) H
theorem sizes_of {xs : List V} {its : List Value} (r : Vals xs its) : its.toArray.size = xs.length := by rw [List.size_toArray, r.length]
theorem op_eqE (hu : X.A.units < cLine) : OpR X (compareOp .Eq) (rE X.K true) := by
  intro pins s σ H x y v u Q I rx ry h
  obtain ⟨a, b, xs, rfl, rfl, hs, q⟩ := h
  cases rx
  cases ry
  rcases hs with ⟨h1, h2⟩ | ⟨h1, h2⟩
  · obtain ⟨i1, r1, p1, z1⟩ := I.list h1
    obtain ⟨i2, r2, p2, z2⟩ := I.list h2
    cases r2
    cases xs with
    | nil =>
      cases r1
      exact SeqAt.eq_listAt (e := fun _ => true) p1.isList p2.isList rfl hu (fun j h1 _ => absurd h1 (by simp)) ⟨.bl true, H, I, rfl, q⟩
    | cons x xs =>
      refine SeqAt.eq_list_lengthsAt p1.isList p2.isList ?_ hu ⟨.bl false, H, I, rfl, q⟩
      have := sizes_of r1
      rw [this]
      rfl
  · obtain ⟨i1, r1, p1, z1⟩ := I.tuple h1
    obtain ⟨i2, r2, p2, z2⟩ := I.tuple h2
    cases r2
    refine SeqAt.eq_tupleAt (e := fun _ => true) p1 p2 hu (fun j _ h2 => absurd h2 (by simp)) ?_
    have e := sizes_of r1
    rw [e]
    cases xs with
    | nil => exact ⟨.bl true, H, I, rfl, q⟩
    | cons x xs => exact ⟨.bl false, H, I, by simp [L2.RelV], q⟩
theorem op_neE (hu : X.A.units < cLine) : OpR X (compareOp .NotEq) (rE X.K false) := by
  intro pins s σ H x y v u Q I rx ry h
  obtain ⟨a, b, xs, rfl, rfl, hs, q⟩ := h
  cases rx
  cases ry
  rcases hs with ⟨h1, h2⟩ | ⟨h1, h2⟩
  · obtain ⟨i1, r1, p1, z1⟩ := I.list h1
    obtain ⟨i2, r2, p2, z2⟩ := I.list h2
    cases r2
    cases xs with
    | nil =>
      cases r1
      exact SeqAt.RcNeAt.lists (e := fun _ => true) p1.isList p2.isList rfl hu (fun j h1 _ => absurd h1 (by simp)) _ _ _ _ ⟨.bl false, H, I, rfl, q⟩
    | cons x xs =>
      refine SeqAt.RcNeAt.lists_lengths p1.isList p2.isList ?_ hu _ _ _ _ ⟨.bl true, H, I, rfl, q⟩
      have := sizes_of r1
      rw [this]
      rfl
  · obtain ⟨i1, r1, p1, z1⟩ := I.tuple h1
    obtain ⟨i2, r2, p2, z2⟩ := I.tuple h2
    cases r2
    refine SeqAt.RcNeAt.tuples (e := fun _ => true) p1 p2 hu (fun j _ h2 => absurd h2 (by simp)) _ _ _ _ ?_
    have e := sizes_of r1
    rw [e]
    cases xs with
    | nil => exact ⟨.bl false, H, I, rfl, q⟩
    | cons x xs => exact ⟨.bl true, H, I, by simp [L2.RelV], q⟩
/-! ### None in a list of tuples and Nones -/
def rNoneIn (K : PySem.W.Frag) : R2 := fun x y H Q => ∃ b xs, x = .non ∧ y = .ref b ∧ SqL K H b xs ∧ (∀ v ∈ xs, v = .non ∨ ∃ p ys, v = .ref p ∧ SqT K H p ys) ∧ Q (.bl (xs.any fun v => decide (v = .non))) H
def isNon : Value → Bool
  | .none => true
  | _ => false
theorem any_non : ∀ {xs : List V} {us : List Value}, Vals xs us → us.any isNon = xs.any fun v => decide (v = V.non)
  | _, _, .nil => rfl
  | _, _, .cons (a := v) (b := u) r t => by
    rw [List.any_cons, List.any_cons, any_non t]
    congr 1
    cases v with
    | non => cases (show u = Value.none from r); rfl
    | bl b => cases (show u = Value.bool b from r); rfl
    | int i => obtain ⟨t, rfl⟩ := (show ∃ t, u = Value.int i t from r); rfl
    | str i => obtain ⟨t, rfl⟩ := (show ∃ t, u = Value.str i t from r); rfl
    | byt i => obtain ⟨t, rfl⟩ := (show ∃ t, u = Value.bytes i t from r); rfl
    | flt i => obtain ⟨t, rfl⟩ := (show ∃ t, u = Value.float i t from r); rfl
    | ref a => cases (show u = Value.ref a from r); rfl
    | ty n => cases (show u = Value.type n from r); rfl
theorem op_inNone (hu : X.A.units + 64 < cLine) : OpR X (compareOp .In) (rNoneIn X.K) := by
  intro pins s σ H x y v u Q I rx ry h
  obtain ⟨b, xs, rfl, rfl, hb, hx, q⟩ := h
  cases rx
  cases ry
  obtain ⟨its, r, p, z⟩ := I.list hb
  refine SeqAt.in_listAt isNon p.isList (fun w hw => ?_) ?_
  · have hw' : w ∈ its := by simpa using hw
    obtain ⟨i, hi, ei⟩ := List.mem_iff_getElem.mp hw'
    have hw2 : its[i]? = some w := by rw [List.getElem?_eq_getElem hi, ei]
    obtain ⟨v, hv, rv⟩ : ∃ v, xs[i]? = some v ∧ RelV v w := by
      cases e : xs[i]? with
      | none => rw [r.none_of e] at hw2; cases hw2
      | some v =>
        obtain ⟨w', h1, h2⟩ := r.get e
        rw [hw2] at h1
        cases h1
        exact ⟨v, rfl, h2⟩
    rcases hx v (List.mem_of_getElem? hv) with e | ⟨p, ys, e, hp⟩
    · subst e
      cases rv
      exact SeqAt.EqAt.same _
    · subst e
      cases rv
      obtain ⟨_, _, pt, _⟩ := I.tuple hp
      exact SeqAt.EqAt.tuple_none pt (by show X.A.units + 1 < cLine; omega)
  · have e : its.toArray.any isNon = xs.any fun v => decide (v = V.non) := by rw [← any_non r]; simp
    rw [e]
    exact ⟨.bl _, H, I, rfl, q⟩
/-! ### powers of wide numbers -/
theorem op_powW : OpR X (binaryOp .Pow) (rI (fun i j => 0 ≤ j ∧ (Builtin.Int.intBits i : Int) * j ≤ 2 ^ 27) fun i j => .int (i ^ j.toNat)) := opI fun _ _ _ _ _ _ _ hc q => pow_int hc.1 hc.2 q
/-! ### o.f as a target -/
def gFld (K : PySem.W.Frag) (to : TE) (f : Str) : TG := fun v σ H Q => to σ H fun x H1 => ∃ a C dx fs, x = .ref a ∧ H1 a = some (.ins C dx fs) ∧ Cls K C ∧ NoAttr K C f ∧ fs.length < 1000 ∧ Q σ (upd H1 a (.ins C dx (putF f v fs)))
theorem pg_fld {o : Expr} {f : Str} {pos : Pos} {to : TE} (ho : PE X o to) (ha : ∀ v, assign (.Attribute o f pos) X.env v = (do
      let ov ← holding [v] (eval o X.env)
      standAt pos.atName
      holding [v, ov] (setAttr ov f v)
      release [v, ov] []) := by intro _; rfl) : PG X (.Attribute o f pos) (gFld X.K to f) := by
  refine ⟨fun pins s σ H v u Q I r h => ?_⟩
  rw [ha]
  refine wpAny_bind (wpAny_holding (thn (ho.run pins s σ H _ I h) fun ov s1 ⟨x, H1, I1, r1, q1⟩ => ?_))
  obtain ⟨a, C, dx, fs, ex, ea, c, n, l, q⟩ := q1
  subst ex
  obtain rfl : ov = Value.ref a := r1
  refine wpAny_bind (wpAny_standAt (wpAny_bind (wpAny_holding ?_)))
  exact setattr_ok I1 ea c n l r fun s3 I3 => wpAny_release ⟨σ, _, I3, q⟩
/-! ### a, *b = a list -/
def gStar1 (K : PySem.W.Frag) (g1 g2 : TG) : TG := fun v σ H Q => ∃ a x xs, v = .ref a ∧ SqL K H a (x :: xs) ∧ xs.length ≤ 10000 ∧ ∀ p, H p = none → g1 x σ (upd H p (.lst xs)) fun σ1 H1 => g2 (.ref p) σ1 H1 Q
theorem pg_star1 {t1 t2 : Expr} {k : Nat} {p2 pos : Pos} {g1 g2 : TG} (hg1 : PG X t1 g1) (hg2 : PG X t2 g2) (hc : X.calm = true := by rfl)
    (hl : (assignEach [t1, .Starred t2 p2] X.env).length = 2 := by rfl) (hst : (assignEach [t1, .Starred t2 p2] X.env).findIdx? (·.1) = some 1 := by rfl)
    (hm : (assignEach [t1, .Starred t2 p2] X.env).map (·.2) = [assign t1 X.env, assign t2 X.env] := by rfl) : PG X (.Tuple [t1, .Starred t2 p2] k pos) (gStar1 X.K g1 g2) := by
  refine ⟨fun pins s σ H v u Q I r h => ?_⟩
  obtain ⟨a, x, xs, e, hs, hz, q⟩ := h
  subst e
  cases r
  obtain ⟨its, rv, p, z⟩ := I.list hs
  cases rv with
  | @cons _ w _ ws rw' rvs =>
    obtain ⟨m, hn, _⟩ := id I.loc
    have Fr1 : Fr X.base X.env.locals s.heap m := ⟨hn, I.bk, Nat.le_trans I.ok.bsz I.ok.above⟩
    have lws : ws.length = xs.length := rvs.length.symm
    refine PySem.W.kun_assignL (n := 2) (i := 1) (first := [w]) (mids := ws) (lasts := []) Fr1 (news_all (g := X.base)) p.isList (I.ok.hd hc) hl hst (by decide) (by simp) (by simp; omega) (by simp) (by simp) (by simp) fun D h' tk F' N' hlow => ?_
    rw [hm]
    have hD := N' (D, _) (List.mem_cons_self)
    have keep : ∀ b o, b ≠ X.env.locals → s.heap.get? b = some o → h'.get? b = some o := fun b o hb e => by
      cases q : X.base.get? b with
      | some u =>
        have e2 := I.bk b u q
        rw [e] at e2
        cases e2
        exact F'.keep b _ q
      | none => exact (N' (b, o) (List.mem_cons_of_mem _ (mem_allNews hb q e))).1
    have nD : X.env.locals ≠ D := fun e => hD.2.1 e.symm
    have hsD : s.heap.get? D = Option.none := by
      cases q : s.heap.get? D with
      | none => rfl
      | some o => exact absurd (hlow (D, o) (mem_allNews hD.2.1 hD.2.2 q)) (Nat.lt_irrefl _)
    have hHD : H D = Option.none := by
      cases q : H D with
      | none => rfl
      | some o =>
        cases o with
        | lst xs => obtain ⟨_, _, _, _, e⟩ := I.hok D _ q; rw [hsD] at e; cases e
        | tup xs => obtain ⟨_, _, _, ob, e, _⟩ := I.hok D _ q; rw [hsD] at e; cases e
        | dK kvs => obtain ⟨_, _, _, _, o, _, _, e, _⟩ := I.hok D _ q; rw [hsD] at e; cases e
        | dT kvs => obtain ⟨_, _, _, _, o, _, _, e, _⟩ := I.hok D _ q; rw [hsD] at e; cases e
        | set S n => obtain ⟨o, _, _, _, e, _⟩ := I.hok D _ q; rw [hsD] at e; cases e
        | ins C dx fs => obtain ⟨_, _, _, e, _⟩ := I.hok D _ q; rw [hsD] at e; cases e
        | own y => obtain ⟨_, e⟩ := I.hok D _ q; rw [hsD] at e; cases e
        | xd fs => obtain ⟨_, ⟨_, _, _, e, _⟩, _⟩ := I.hok D _ q; rw [hsD] at e; cases e
        | rng lo hi => obtain ⟨_, _, _, e⟩ := I.hok D _ q; rw [hsD] at e; cases e
        | frz ob u => obtain ⟨e, _⟩ := I.hok D _ q; rw [hsD] at e; cases e
        | tbl ps => have e := I.hok D _ q; rw [show s.heap.get? D = some _ from e] at hsD; cases hsD
        | met f y => have e := I.hok D _ q; rw [show s.heap.get? D = some _ from e] at hsD; cases hsD
        | ext φ => obtain ⟨_, ⟨_, e⟩, _⟩ := I.hok D _ q; rw [hsD] at e; cases e
    have nbD : ∀ b o, s.heap.get? b = some o → b ≠ D := fun b o e z => by rw [z, hsD] at e; cases e
    have hok' : HOk X.prog X.w (upd H D (.lst xs)) h' := fun b u e => by
      by_cases hb : b = D
      · subst hb
        rw [upd_same] at e
        cases e
        exact ⟨Nat.le_trans hz (by decide), ws, 0, rvs, hD.1⟩
      · rw [upd_ne hb] at e
        have hL : ∀ c, (c = b ∨ H c = some (.own b)) → c ≠ X.env.locals := fun c hc z => by
          have f := I.free
          rcases hc with hc | hc
          · rw [← z, hc, e] at f; cases f
          · rw [← z, hc] at f; cases f
        exact (I.hok b u e).stay (fun c v hc q => keep c v (hL c hc) q) (fun c q => by rw [upd_ne (ne_of_none q hHD)]; exact q) fun c ys q => by rw [upd_ne (ne_of_none q hHD)]; exact q
    have I1 : L2.Inv X pins σ (upd H D (.lst xs)) { s with heap := h', toks := tk } := by
      refine I.step (g' := s.gens) (d' := s.drawn) (ch := []) (fun _ z => nomatch z) (fun b o hb _ _ e _ => keep b o hb e) (fun b o hb _ _ e _ => ⟨o.slots, keep b o hb e⟩) (fun b o _ e n => by rw [upd_ne (nbD b o e)]; exact n)
        (fun b o _ e => ?_) (fun b ys e => by rw [upd_ne (ne_of_none e hHD)]; exact e) (fun b o u e => by rw [upd_ne (ne_of_none e hHD)]; exact e) (fun b ps e => ⟨#[], by rw [upd_ne (ne_of_none e hHD), e]; simp⟩) (fun m' hm' => ?_) hok' I.bare
      · by_cases hb : b = X.env.locals
        · obtain ⟨o', _, _, e', _⟩ := F'.ns
          exact ⟨o', by rw [hb]; exact e'⟩
        · exact ⟨o, keep b o hb e⟩
      · have e1 := hm'.eq_nsMap
        have e2 := hn.eq_nsMap
        rw [e1, ← e2]
        exact F'.ns
    refine assignInOrder_cons (thn (hg1.run pins _ σ (upd H D (.lst xs)) x w _ I1 rw' (q D hHD)) fun _ s2 ⟨σ2, H2, I2, q2⟩ => ?_)
    refine assignInOrder_cons (thn (hg2.run pins s2 σ2 H2 (.ref D) (.ref D) _ I2 rfl q2) fun _ s3 q3 => ?_)
    exact assignInOrder_nil q3
/-! ### match upon texts -/
inductive MC (X : Cx) : List MatchCase → (Str → TS) → Prop where
  | nil : MC X [] (fun _ => tNext)
  | str {z : Str} {k : Nat} {p1 p2 : Pos} {body : List Stmt} {rest : List MatchCase} {t : TS} {u : Str → TS} (hb : PSs X body t) (hr : MC X rest u) : MC X (⟨.MatchValue (.Constant (.str z) k p1) p2, none, body⟩ :: rest) (fun y => if y = z then t else u y)
  | any {p : Pos} {body : List Stmt} {t : TS} (hb : PSs X body t) : MC X [⟨.MatchAs none none p, none, body⟩] (fun _ => t)
def tMatch (te : TE) (u : Str → TS) : TS := fun D σ H => te σ H fun x H1 => ∃ z, x = .str z ∧ u z D σ H1
theorem mc_run {cs : List MatchCase} {u : Str → TS} (m : MC X cs u) : ∀ (first : Bool) (pins : List (Addr × Obj)) (s : Shared) (σ : L2.St) (H : Hp) (D : Ends) (y : Str) (t : Tok), Inv X pins σ H s → u y D σ H →
    wpAny (model X.prog X.w) X.A (matchCases cs X.env (.str y t) first) (SP X pins D) X.xe s := by
  induction m with
  | nil =>
    intro first pins s σ H D y t I q
    exact wpAny_matchCases_nil ⟨σ, H, I, q⟩
  | @any p body t hb =>
    intro first pins s σ H D y tk I q
    refine wpAny_matchCases_cons (wpAny_matchPattern_Capture ?_)
    exact wpAny_assignInOrder_none (hb.run pins s σ H D I q)
  | @str z k p1 p2 body rest t u hb hr ih =>
    intro first pins s σ H D y tk I q
    refine wpAny_matchCases_cons (wpAny_matchPattern_Value ?_)
    refine Calls.Constant_str ?_
    refine eq_str ?_
    refine wpAny_truthy_bool ?_
    have q' : (if y = z then t else u y) D σ H := q
    by_cases e : y = z
    · rw [if_pos e] at q'
      have e' : (y == z) = true := by rw [e]; exact beq_self_eq_true z
      rw [e', if_pos rfl]
      exact wpAny_assignInOrder_none (hb.run pins _ σ H D (I.tok _) q')
    · rw [if_neg e] at q'
      have e' : (y == z) = false := beq_eq_false_iff_ne.mpr e
      rw [e', if_neg Bool.false_ne_true]
      exact ih false pins _ σ H D y tk (I.tok _) q'
theorem ps_match {e : Expr} {te : TE} {cs : List MatchCase} {u : Str → TS} {pos : Pos} (he : PE X e te) (m : MC X cs u) : PS X (.Match e cs pos) (tMatch te u) := by
  refine ⟨fun pins s σ H D I h => ?_⟩
  refine wpAny_Match (thn (he.run pins s σ H _ I h) fun v s1 ⟨x, H1, I1, r1, z, ex, q⟩ => ?_)
  subst ex
  obtain ⟨t, rfl⟩ := r1
  exact mc_run m true pins s1 σ H1 D z t I1 q
end
end BH
end
section
set_option Elab.async false
set_option linter.all false
set_option maxRecDepth 100000
set_option maxHeartbeats 4000000
namespace BH
open PySem PySem.Spec PyProof.Rows L2 BM
section
variable {X : Cx} {pins : List (Addr × Obj)} {σ : L2.St} {H : Hp} {s : Shared}
/-! ### d.get(k) of a dict that the module's top has written -/
def tGetK (K : PySem.W.Frag) (d : Addr) (td ty : TE) : TE := fun σ H Q => td σ H fun x H1 => x = .ref d ∧ ty σ H1 fun y H2 => ∃ (z : Str) (r : Option Value) (v : V), y = .str z ∧ PySem.W.nsIn K d z = some r ∧ L2.RelV v (r.getD .none) ∧ Q v H2
theorem pe_getK {o e : Expr} {apos cpos : Pos} {td ty : TE} {d : Addr} {es : Array DictEntry} {n : Nat} (D : KDict X.K X.w d es n) (ho : PE X o td) (he : PE X e ty) (m : M1 X o "get" apos e cpos := by exact ⟨rfl, rfl, rfl, rfl⟩) :
    PE X (.Call (.Attribute o "get" apos) [e] [] cpos) (tGetK X.K d td ty) := by
  refine ⟨fun pins s σ H Q I h => ?_⟩
  refine wpAny_Call_method m.base m.few m.line PySem.F.plainAttrs_dict PySem.F.slot_dict_get PySem.F.type_dict_get (thn (ho.run pins s σ H _ I h) fun u s1 ⟨x, H1, I1, rx, ex, q1⟩ => ?_)
  subst ex
  obtain rfl : u = Value.ref d := rx
  have at1 := I1.kIn _ _ D.at_
  refine ⟨⟨_, at1, rfl⟩, fun b q => ?_, ?_⟩
  · cases q
    exact ⟨_, at1, rfl⟩
  · rw [m.trees]
    refine Calls.callWith_builtin rfl (Calls.evalArgs_plain (Calls.spliced_cons (thn (he.run pins s1 σ H1 _ I1 q1) fun iv s2 hq => Calls.spliced_nil ?_)))
    obtain ⟨y, H2, I2, ry, z, r, v, ey, en, rv, q2⟩ := hq
    subst ey
    obtain ⟨t, rfl⟩ := ry
    refine call_meetsIn PySem.F.slot_dict_get ⟨_, I2.kIn _ _ D.at_, rfl⟩ PySem.F.entry_dict_get (PySem.F.args_dict_get_2 _ _) (meets_dict_get (PySem.strKind X.prog X.w) d (PySem.strKind_is X.prog X.w z t) D.low) ⟨_, PySem.W.mapOf_K (prog := X.prog) I2.kIn D.at_ D.lit, ?_⟩
    rw [PySem.W.find_K D.at_ en]
    exact ⟨v, H2, I2.tok _, rv, q2⟩
/-! ### enumerate(a list, 1) -/
def Ite1 (K : PySem.W.Frag) (a : Addr) : It :=
  ⟨fun i H => ∃ (xs : List V) (x : V), SqL K H a xs ∧ xs[i]? = some x, fun i H v H' => ∃ T x, v = .ref T ∧ H T = none ∧ H' = upd H T (.tup [.int (1 + (i : Nat)), x]) ∧ ∀ xs, SqL K H a xs → xs[i]? = some x, fun i H => ∃ xs : List V, SqL K H a xs ∧ xs.length = i⟩
theorem turn_enum1 {P : Program} {w : World} {K : PySem.W.Frag} {elts : List Expr} {kk : Nat} {tpos : Pos} (a e it : Addr) :
    Turn P w K (.Tuple elts kk tpos) (Ite1 K a) [e, it] e (fun i h => (∃ old, IsEnum h e it (1 + ((i : Nat) : Int)) old) ∧ h.IsListIter it a i ∧ e ≠ it) where
  mem := by simp
  obj := fun i h st b hb => by
    obtain ⟨⟨old, he⟩, ⟨o, ho, hc, hd⟩, _⟩ := st
    rcases (show b = e ∨ b = it by simpa using hb) with rfl | rfl
    · exact ⟨_, he, fun v q => nomatch q⟩
    · exact ⟨o, ho, fun v q => by rw [hd] at q; cases q⟩
  keep := fun i h h' st k => let ⟨⟨old, he⟩, hi, hne⟩ := st; ⟨⟨old, k e (by simp) _ he⟩, hi.at fun o q => k it (by simp) o q, hne⟩
  item := by
    intro X hP hw hK hc i pins s σ H E I hf st hg
    subst hP hw hK
    obtain ⟨⟨old, he⟩, hit, hne⟩ := st
    obtain ⟨xs, x, hq, hx⟩ := hg
    obtain ⟨its, rv, p, hz⟩ := I.list hq
    obtain ⟨u, hu, ru⟩ := rv.get hx
    have hel : e < s.heap.objs.size := Heap.lt_size he
    have hil : it < s.heap.objs.size := by obtain ⟨_, q, _⟩ := hit; exact Heap.lt_size q
    have hli : a ≠ it := by
      intro z
      obtain ⟨o1, g1, c1, _⟩ := p.isList
      obtain ⟨o2, g2, c2, _⟩ := hit
      rw [z, g2] at g1
      cases g1
      rw [c2] at c1
      exact absurd c1 (by decide)
    have hea : e ≠ a := by
      intro z
      obtain ⟨o1, g1, c1, _⟩ := p.isList
      rw [← z, show s.heap.get? e = some _ from he] at g1
      cases g1
      have c2 : Value.type "enumerate" = Value.type "list" := c1
      injection c2 with q
      exact absurd q (by decide)
    have hi : i < its.toArray.size := by
      have := (List.getElem?_eq_some_iff.mp hu).1
      simpa using this
    refine wpAny_pyNext_enum_itemC (Draws.list (show X.A.in1.handled = none from I.ok.hd hc) it a hli its.toArray) he ⟨hit, p.isList⟩ hi hne (by simp [hne, hea]) fun y h' tk hy ho hst hT hsz hk => ?_
    have ey : y = u := by
      have h1 : its[i]? = some y := by simpa using hy
      rw [hu] at h1
      exact (Option.some.inj h1).symm
    subst ey
    refine ⟨_, rfl, wpAny_letOwnedTupleGo_enum (s := { s with heap := h', toks := tk + 1 }) ho fun h'' he' sb => ?_⟩
    have hT2 : h''.get? s.heap.objs.size = some { cls := .type "tuple", data := .seq #[.int (1 + (i : Int)) tk, y] } := (sb.2 _ (Nat.ne_of_gt hel)).trans hT
    have new : ObjOk X.prog X.w (upd H s.heap.objs.size (.tup [.int (1 + (i : Nat)), x])) h'' s.heap.objs.size (.tup [.int (1 + (i : Nat)), x]) :=
      ⟨by show 2 ≤ sizeLine; decide, [.int (1 + (i : Int)) tk, y], .cons ⟨_, rfl⟩ (.cons ru .nil), ⟨_, hT2, rfl, _, rfl⟩⟩
    have I1 : L2.Inv X pins σ (upd H s.heap.objs.size (.tup [.int (1 + (i : Nat)), x])) { s with heap := h'', toks := tk + 1 } :=
      I.turnedNew (ch := [e, it]) (fun b ob hb q => (sb.2 b (fun z => hb (by simp [z]))).trans (hk b ob (fun z => hb (by simp [z])) (fun z => hb (by simp [z])) q)) hf (Nat.le_refl _) new
    refine ⟨.ref s.heap.objs.size, _, I1, rfl, ⟨_, x, rfl, I.hok.fresh (Nat.le_refl _), rfl, fun ys hy => by rw [I.list_inj hy hq]; exact hx⟩, ⟨⟨y, ?_⟩, hst.1.at fun o q => (sb.2 it (Ne.symm hne)).trans q, hne⟩, fun b hb => ?_⟩
    · have e1 : 1 + ((i + 1 : Nat) : Int) = 1 + (i : Int) + 1 := by omega
      rw [e1]; exact he'
    · have hb' : b < s.heap.objs.size := by
        rcases (show b = e ∨ b = it by simpa using hb) with z | z
        · rw [z]; exact hel
        · rw [z]; exact hil
      rw [upd_ne (Nat.ne_of_lt hb')]
      exact (hf b hb).1
  done := by
    intro X hP hw hK hc i pins s σ H E I hf st hg
    subst hP hw hK
    obtain ⟨⟨old, he⟩, hit, hne⟩ := st
    obtain ⟨xs, hq, hx⟩ := hg
    obtain ⟨its, rv, p, hz⟩ := I.list hq
    obtain ⟨f0, f1, f2, f3, f4, f5⟩ := hf it (by simp)
    have hl := rv.length
    have hli : a ≠ it := by
      intro z
      obtain ⟨o1, g1, c1, _⟩ := p.isList
      obtain ⟨o2, g2, c2, _⟩ := hit
      rw [z, g2] at g1
      cases g1
      rw [c2] at c1
      exact absurd c1 (by decide)
    exact wpAny_pyNext_enum_endD (Draws.list (show X.A.in1.handled = none from I.ok.hd hc) it a hli its.toArray) he ⟨by rw [List.size_toArray, ← hl, hx]; exact hit, p.isList⟩ fun h' eb => ⟨rfl, I.turned (t' := s.toks) (fun b o hb q => eb b o hb q) f0 f1 f3 f4 f5⟩
  self := fun A i s Q E st h => let ⟨⟨_, he⟩, _⟩ := st; wpAny_pyIter_enum he h
def iEnum1 (K : PySem.W.Frag) (te : TE) : TI := fun σ H R => te σ H fun x H1 => ∃ a xs, x = .ref a ∧ SqL K H1 a xs ∧ R (Ite1 K a) H1
theorem pi_enum1 {e : Expr} {te : TE} {k1 : Nat} {p1 p pos tpos : Pos} {elts : List Expr} {kk : Nat} (hg : Gl X "enumerate") (hm : X.mg "enumerate" = none) (he : PE X e te)
    (hs : starEach [e, .Constant (.int 1) k1 p1] X.env = (false, eval e X.env) :: starEach [.Constant (.int 1) k1 p1] X.env := by rfl) :
    PI X (.Tuple elts kk tpos) (.Call (.Name "enumerate" p) [e, .Constant (.int 1) k1 p1] [] pos) (iEnum1 X.K te) := by
  refine ⟨fun pins s σ H R I h => ?_⟩
  have ha : PA X [e, .Constant (.int 1) k1 p1] (tCons te (tCons (tC (.int 1)) tNil)) := pa_cons he (pa_cons pe_int pa_nil rfl) hs
  have h' : (tCons te (tCons (tC (.int 1)) tNil)) σ H fun vs H1 => ∃ a xs, vs = [.ref a, .int 1] ∧ SqL X.K H1 a xs ∧ R (Ite1 X.K a) H1 := by
    have z : te σ H fun x H1 => ∃ a xs, x = .ref a ∧ SqL X.K H1 a xs ∧ R (Ite1 X.K a) H1 := h
    have e1 : (fun (x : V) H1 => ∃ a xs, x = .ref a ∧ SqL X.K H1 a xs ∧ R (Ite1 X.K a) H1) = fun x H1 => ∃ a xs, [x, V.int 1] = [.ref a, .int 1] ∧ SqL X.K H1 a xs ∧ R (Ite1 X.K a) H1 := by
      funext x H1
      apply propext
      constructor
      · rintro ⟨a, xs, rfl, q⟩; exact ⟨a, xs, rfl, q⟩
      · rintro ⟨a, xs, q1, q⟩; exact ⟨a, xs, (List.cons.inj q1).1, q⟩
    rw [e1] at z
    exact z
  refine Call_ (ld_blt I hg hm boot_enumerate (PyProof.Rows.callWith_type1 (thn (ha.run pos pins s σ H _ I h') fun us s1 ⟨vs, H1, I1, r1, q1⟩ => ?_) hs rfl))
  obtain ⟨a, xs, ex, hq, q⟩ := q1
  subst ex
  obtain ⟨u1, u2, rfl, ra, rb⟩ := vals2 r1
  obtain rfl : u1 = Value.ref a := ra
  obtain ⟨tk, rfl⟩ := rb
  obtain ⟨its, rv, p', hz⟩ := I1.list hq
  refine enum_begins (begins_list a its.toArray) p'.isList (by decide) (by decide) fun h' he hit hsz hk => wpAny_pyIter_enum he ?_
  have I2 : L2.Inv X pins σ H1 { s1 with heap := h' } := I1.kept (t' := s1.toks) hk
  refine ⟨s1.heap.objs.size + 1, [s1.heap.objs.size + 1, s1.heap.objs.size], _, _, H1, rfl, I2, turn_enum1 a (s1.heap.objs.size + 1) s1.heap.objs.size, ⟨⟨.none, he⟩, ⟨_, hit, rfl, rfl⟩, Nat.succ_ne_self _⟩, fun b hb => ?_, q⟩
  have hle : s1.heap.objs.size ≤ b := by
    rcases (show b = s1.heap.objs.size + 1 ∨ b = s1.heap.objs.size by simpa using hb) with z | z
    · rw [z]; exact Nat.le_add_right _ _
    · rw [z]; exact Nat.le_refl _
  exact I1.fpOk hle (I1.hok.fresh hle)
end
/-! ### walks -/
def YE1 (xs : List V) : Nat → Hp → V → Hp → Prop := fun i H v H' => ∃ T x, v = .ref T ∧ H T = none ∧ H' = upd H T (.tup [.int (1 + (i : Nat)), x]) ∧ xs[i]? = some x
theorem walk_enum1 {K : PySem.W.Frag} {a : Addr} (xs : List V) : Walk (Ite1 K a) xs.length (fun H => SqL K H a xs) (YE1 xs) where
  goes := fun i H hi h => ⟨xs, xs[i], h, by simp [hi]⟩
  stops := fun H h => ⟨xs, h, rfl⟩
  yields := fun i H x H' hi h y => by
    obtain ⟨T, z, e, n, eH, f⟩ := y
    exact ⟨T, z, e, n, eH, f xs h⟩
def YE0 (xs : List V) : Nat → Hp → V → Hp → Prop := fun i H v H' => ∃ T x, v = .ref T ∧ H T = none ∧ H' = upd H T (.tup [.int (i : Nat), x]) ∧ xs[i]? = some x
theorem walk_enum0 {K : PySem.W.Frag} {a : Addr} (xs : List V) : Walk (Ite K a) xs.length (fun H => SqL K H a xs) (YE0 xs) where
  goes := fun i H hi h => ⟨xs, xs[i], h, by simp [hi]⟩
  stops := fun H h => ⟨xs, h, Nat.le_refl _⟩
  yields := fun i H x H' hi h y => by
    obtain ⟨T, z, e, n, eH, f⟩ := y
    exact ⟨T, z, e, n, eH, f xs h⟩
theorem walk_list {K : PySem.W.Frag} {a : Addr} (xs : List V) : Walk (Itl K a) xs.length (fun H => SqL K H a xs) (YAt xs) where
  goes := fun i H hi h => ⟨xs, xs[i], h, by simp [hi]⟩
  stops := fun H h => ⟨xs, h, Nat.le_refl _⟩
  yields := fun i H x H' hi h y => ⟨y.1, y.2 xs h⟩
theorem walk_tup {K : PySem.W.Frag} {a : Addr} (xs : List V) : Walk (Itt K a) xs.length (fun H => SqT K H a xs) (YAt xs) where
  goes := fun i H hi h => ⟨xs, xs[i], h, by simp [hi]⟩
  stops := fun H h => ⟨xs, h, Nat.le_refl _⟩
  yields := fun i H x H' hi h y => ⟨y.1, y.2 xs h⟩
theorem walk_rng {lo : Int} (n : Nat) : Walk (Itr lo n) n (fun _ => True) (YFn fun i => .int (lo + i)) where
  goes := fun i H hi h => hi
  stops := fun H h => Nat.le_refl _
  yields := fun i H x H' hi h y => y
theorem walk_rngC {lo c : Int} (n : Nat) : Walk (Itc lo c n) n (fun _ => True) (YFn fun i => .int (lo + i * c)) where
  goes := fun i H hi h => hi
  stops := fun H h => Nat.le_refl _
  yields := fun i H x H' hi h y => y
theorem walk_str (x : Str) : Walk (Its x) x.cps.size (fun _ => True) (fun i H v H' => H' = H ∧ ∃ c, x.cps[i]? = some c ∧ v = .str ⟨#[c]⟩) where
  goes := fun i H hi h => hi
  stops := fun H h => Nat.le_refl _
  yields := fun i H v H' hi h y => y
theorem walk_zip {K : PySem.W.Frag} {a b : Addr} (xs ys : List V) (hl : xs.length = ys.length) : Walk (Itz K a b) xs.length (fun H => SqL K H a xs ∧ SqL K H b ys) (YPair (fun i => xs[i]?) (fun i => ys[i]?)) where
  goes := fun i H hi h => ⟨xs, ys, xs[i], ys[i]'(hl ▸ hi), h.1, h.2, by simp [hi], by simp [hl ▸ hi]⟩
  stops := fun H h => ⟨xs, ys, h.1, h.2, .inl (Nat.le_refl _)⟩
  yields := fun i H v H' hi h y => by
    obtain ⟨T, x, z, e, n, eH, f, g⟩ := y
    exact ⟨T, x, z, e, n, eH, f xs h.1, g ys h.2⟩
/-! ### what a value is, for isinstance -/
section
variable {K : PySem.W.Frag} {H : Hp} {a : Addr} {xs : List V}
theorem tyL (h : SqL K H a xs) : TyX K H (.ref a) (.type "list") := by
  rcases h with (h | ⟨o, h⟩) | ⟨o, its, n, h, c, _⟩
  · exact .base (.lst h)
  · exact .base (.frz h)
  · exact .kList h c
theorem tyT (h : SqT K H a xs) : TyX K H (.ref a) (.type "tuple") := by
  rcases h with (h | ⟨o, h⟩) | ⟨o, its, n, h, c, _⟩
  · exact .base (.tup h)
  · exact .fTuple h
  · exact .kTuple h c
end
end BH
end
section
set_option Elab.async false
set_option linter.all false
set_option maxRecDepth 100000
set_option maxHeartbeats 4000000
namespace BH
open PySem PySem.Spec PyProof.Rows L2 BM
/-! ### rules whose reading names the written part by itself -/
def rLenS (K : PySem.W.Frag) : List V → Hp → VK → Prop := fun xs H Q => ∃ p ys, xs = [.ref p] ∧ (SqL K H p ys ∨ SqT K H p ys) ∧ Q (.int ys.length) H
def rListOf (K : PySem.W.Frag) : List V → Hp → VK → Prop := fun xs H Q => ∃ p ys, xs = [.ref p] ∧ (SqL K H p ys ∨ SqT K H p ys) ∧ ∀ l, H l = none → Q (.ref l) (upd H l (.lst ys))
section
variable {X : Cx} {K : PySem.W.Frag}
theorem xL (h : X.K = K) : IxR X (rIxL K) := by subst h; exact ix_list
theorem xT (h : X.K = K) : IxR X (rIxT K) := by subst h; exact ix_tup
theorem cIsi (h : X.K = K) : CallR X (.builtin "isinstance") (rIsi K) := by subst h; exact call_isi
theorem cLen (h : X.K = K) : CallR X (.builtin "len") (rLenS K) := by subst h; exact call_len_seq
theorem cLst (h : X.K = K) : CallR X (.type "list") (rListOf K) := by subst h; exact call_list_of
theorem slL (h : X.K = K) : SlR X (rSlL K) := by subst h; exact sl_list
theorem oIn (h : X.K = K) : OpR X (compareOp .In) (rIn K false) := by subst h; exact op_in_seq
theorem oNotIn (h : X.K = K) : OpR X (compareOp .NotIn) (rIn K true) := by subst h; exact op_notIn_seq
theorem pF {e : Expr} {f : Str} {pos : Pos} {ta : TE} (h : X.K = K) (he : PE X e ta) (hb : attributeBase e f X.env (eval e X.env) = eval e X.env := by rfl) : PE X (.Attribute e f pos) (tFld K ta f) := by subst h; exact pe_fld he hb
theorem piL {tg l : Expr} {tl : TE} (h : X.K = K) (hl : PE X l tl) : PI X tg l (iList K tl) := by subst h; exact pi_list hl
theorem piT {tg l : Expr} {tl : TE} (h : X.K = K) (hl : PE X l tl) : PI X tg l (iTup K tl) := by subst h; exact pi_tup hl
theorem pRevL {e : Expr} {te : TE} {k : Nat} {p1 p2 p3 pos : Pos} (h : X.K = K) (he : PE X e te) : PE X (.Subscript e (.Slice none none (some (.UnaryOp .USub (.Constant (.int 1) k p1) p2)) p3) pos) (tRevL K te) := by subst h; exact pe_revL he
end
section
variable {X : Cx} {K : PySem.W.Frag} {x C m : Str} {k j : Nat} {ps : List Str} {sp : Sp} {e o : Expr} {es : List Expr} {t : TA} {to : TE} {p pos apos : Pos}
theorem pmK {pl : Sem Bool} (hK : X.K = K) (h : HasM X.prog X.w X.K X.mg X.base C m k ps sp) (hr : Room j X.A) (ho : PE X o to) (ha : PA X (e :: es) t) (hk : k ≤ j := by decide)
    (hst : starEach (e :: es) X.env = (false, eval e X.env) :: starEach es X.env := by rfl) (hpl : (backTo pos (starEach es X.env)).any (·.1) = false := by rfl)
    (ht : eval (.Call (.Attribute o m apos) (e :: es) [] pos) X.env = (do
      let ov ← eval o X.env
      standAt apos.atName
      let (f, first) ← holding [ov] (getMethod ov m pl)
      callWith pos f first (backTo pos (starEach (e :: es) X.env)) (backToKw pos (keywordEach [] X.env))) := by rfl) :
    PE X (.Call (.Attribute o m apos) (e :: es) [] pos) (tCalM (He.ga K C) m sp to t) := by subst hK; exact pm h hr ho ha hk hst hpl ht
theorem pm0K {pl : Sem Bool} (hK : X.K = K) (h : HasM X.prog X.w X.K X.mg X.base C m k ps sp) (hr : Room j X.A) (ho : PE X o to) (hk : k ≤ j := by decide)
    (ht : eval (.Call (.Attribute o m apos) [] [] pos) X.env = (do
      let ov ← eval o X.env
      standAt apos.atName
      let (f, first) ← holding [ov] (getMethod ov m pl)
      callWith pos f first (backTo pos (starEach [] X.env)) (backToKw pos (keywordEach [] X.env))) := by rfl) :
    PE X (.Call (.Attribute o m apos) [] [] pos) (tCalM (He.ga K C) m sp to tNil) := by subst hK; exact pm0 h hr ho hk ht
end
end BH
end
section
set_option Elab.async false
set_option linter.all false
set_option maxRecDepth 100000
set_option maxHeartbeats 4000000
namespace BH
open PySem PySem.Spec PyProof.Rows L2 BM
section
variable {P : Program} {w : World} {K : PySem.W.Frag} {mg : Str → Option Value} {base : Heap}
theorem ip_mul {X : Cx} : PIp X .Mult (rI CMul fun i j => .int (i * j)) := iop_mul
/-- a def of the top keeps its promise -/
theorem Has.of {x : Str} {st : Stmt} {N ps : List Str} {k : Nat} {sp : Sp} (F : ∃ fd, Fun K x x st (He.ga K x) fd) (g : mg x = some (.ref (He.ga K x))) (S : FnScope N ps (defScope st))
    (hb : ∀ (kV doc pm : Value) (an : Option Addr) (cdv ct : Value) (us : List Value), us.length = ps.length → bindArgs (PySem.W.fnOf x x (defArgs st) (defBody st) (defScope st) .none kV doc pm an cdv ct) ⟨us, []⟩ = pure (ps.zip us))
    (len : ∀ vs H Q E, sp vs H Q E → vs.length = ps.length)
    (body : ∀ (f : Addr) (cdv : Value) (A : Around) (outer : List Env) (s : Shared) (H : Hp) (vs : List V) (Q : VK) (E : XK), Room k (A.deeper (envOfC x (defScope st) s.heap.objs.size f cdv)) → sp vs H Q E →
      ∃ t, PSs (cxOf CX0 P w K mg base N x (defScope st) f cdv A outer s H E).nox (defBody st) t ∧ t { nx := fun _ H' => Q .non H', rt := Q } (start N vs) H) : Has P w K mg base x (k + 1) ps sp := by
  obtain ⟨fd, F⟩ := F
  exact ⟨⟨fd, F.ok S len (body _), F.binds hb⟩, g, F.kp⟩
theorem HasM.of {C m qual : Str} {st : Stmt} {N ps : List Str} {k : Nat} {sp : Sp} (F : ∃ fd, Fun K m qual st (He.ma K (He.ga K C) m) fd) (me : Meth K (He.ga K C) m (He.ma K (He.ga K C) m)) (cl : Cls K (He.ga K C)) (S : FnScope N ps (defScope st))
    (hb : ∀ (kV doc pm : Value) (an : Option Addr) (cdv ct : Value) (us : List Value), us.length = ps.length → bindArgs (PySem.W.fnOf m qual (defArgs st) (defBody st) (defScope st) .none kV doc pm an cdv ct) ⟨us, []⟩ = pure (ps.zip us))
    (len : ∀ vs H Q E, sp vs H Q E → vs.length = ps.length)
    (body : ∀ (f : Addr) (cdv : Value) (A : Around) (outer : List Env) (s : Shared) (H : Hp) (vs : List V) (Q : VK) (E : XK), Room k (A.deeper (envOfC qual (defScope st) s.heap.objs.size f cdv)) → sp vs H Q E →
      ∃ t, PSs (cxOf CX0 P w K mg base N qual (defScope st) f cdv A outer s H E).nox (defBody st) t ∧ t { nx := fun _ H' => Q .non H', rt := Q } (start N vs) H) : HasM P w K mg base C m (k + 1) ps sp := by
  obtain ⟨fd, F⟩ := F
  exact ⟨⟨fd, F.ok S len (body _), F.binds hb⟩, me, cl⟩
theorem HasI.of {C qual : Str} {st : Stmt} {N ps : List Str} {k : Nat} {sp : Sp} (F : ∃ fd, Fun K "__init__" qual st (He.ma K (He.ga K C) "__init__") fd) (mk : Mk K (He.ga K C) (He.ma K (He.ga K C) "__init__")) (g : mg C = some (.ref (He.ga K C))) (S : FnScope N ps (defScope st))
    (hb : ∀ (kV doc pm : Value) (an : Option Addr) (cdv ct : Value) (us : List Value), us.length = ps.length → bindArgs (PySem.W.fnOf "__init__" qual (defArgs st) (defBody st) (defScope st) .none kV doc pm an cdv ct) ⟨us, []⟩ = pure (ps.zip us))
    (len : ∀ vs H Q E, sp vs H Q E → vs.length = ps.length)
    (body : ∀ (f : Addr) (cdv : Value) (A : Around) (outer : List Env) (s : Shared) (H : Hp) (vs : List V) (Q : VK) (E : XK), Room k (A.deeper (envOfC qual (defScope st) s.heap.objs.size f cdv)) → sp vs H Q E →
      ∃ t, PSs (cxOf CX0 P w K mg base N qual (defScope st) f cdv A outer s H E).nox (defBody st) t ∧ t { nx := fun _ H' => Q .non H', rt := Q } (start N vs) H) : HasI P w K mg base C (k + 1) ps sp := by
  obtain ⟨fd, F⟩ := F
  exact ⟨⟨fd, F.ok S len (body _), F.binds hb⟩, mk, g⟩
theorem HasP.of {C m qual : Str} {st : Stmt} {N : List Str} {k : Nat} {sp : Sp} (F : ∃ fd, Fun K m qual st ((Wh.p C m).ad K) fd) (pr : PropOf K (He.ga K C) m (He.ma K (He.ga K C) m) ((Wh.p C m).ad K)) (cl : Cls K (He.ga K C)) (S : FnScope N ["self"] (defScope st))
    (hb : ∀ (kV doc pm : Value) (an : Option Addr) (cdv ct : Value) (us : List Value), us.length = 1 → bindArgs (PySem.W.fnOf m qual (defArgs st) (defBody st) (defScope st) .none kV doc pm an cdv ct) ⟨us, []⟩ = pure ((["self"] : List Str).zip us))
    (len : ∀ vs H Q E, sp vs H Q E → vs.length = 1)
    (body : ∀ (f : Addr) (cdv : Value) (A : Around) (outer : List Env) (s : Shared) (H : Hp) (vs : List V) (Q : VK) (E : XK), Room k (A.deeper (envOfC qual (defScope st) s.heap.objs.size f cdv)) → sp vs H Q E →
      ∃ t, PSs (cxOf CX0 P w K mg base N qual (defScope st) f cdv A outer s H E).nox (defBody st) t ∧ t { nx := fun _ H' => Q .non H', rt := Q } (start N vs) H) : HasP P w K mg base C m (k + 1) sp := by
  obtain ⟨fd, F⟩ := F
  exact ⟨⟨fd, F.ok S len (body _), F.binds hb⟩, pr, cl⟩
/-- the answer is a value that holds no object -/
theorem Pu.val {B H : Hp} {R : Hp → V → Prop} {Q : VK} {v : V} (k : ∀ B' H' v, Ext B H B' H' → R B' v → Q v H') (hB : Same B H) (h : R B v) : Q v H := k B H v (Ext.refl hB) h

/-! ### values.py -/
def sp_is_integer : Sp := Pu fun B vs R => ∃ i : Int, vs = [.int i] ∧ R = fun _ v => v = .bl true
theorem c_is_integer (T : Txt w K mg) : Has P w K mg base "is_integer" 1 ["value"] sp_is_integer := by
  refine Has.of T.f_is_integer T.g_is_integer sc_is_integer (fun _ _ _ _ _ _ us hl => match us, hl with | [_], _ => rfl) (fun vs H Q E h => ?_) (fun f cdv A outer s H vs Q E hr h => ?_)
  · obtain ⟨B, R, hB, ⟨i, rfl, _⟩, _⟩ := h; rfl
  · obtain ⟨B, R, hB, ⟨i, rfl, rfl⟩, k⟩ := h
    refine ⟨_, (pss_one (ps_ret (pe_and (pe_callB (cIsi (K := K) rfl) (by rfl) T.b_isinstance (by decide +kernel) (pa_cons (pv 0) (pa_cons (pe_bltn (v := .ty "int") (u := .type "int") (by rfl) T.b_int (by decide +kernel) rfl) pa_nil))) (pe_one (pe_not (pe_callB (cIsi (K := K) rfl) (by rfl) T.b_isinstance (by decide +kernel) (pa_cons (pv 0) (pa_cons (pe_bltn (v := .ty "bool") (u := .type "bool") (by rfl) T.b_bool (by decide +kernel) rfl) pa_nil)))))))), ?_⟩
    refine ⟨_, rfl, _, _, _, _, true, rfl, .ty _, .base (.int i), kit_ty (by decide +kernel), true, rfl, ?_⟩
    refine iteT ?_
    refine ⟨_, rfl, _, _, _, _, false, rfl, .ty _, .base (.int i), kit_ty (by decide +kernel), false, rfl, ?_⟩
    exact Pu.val k hB rfl
def sp_is_at_least : Sp := Pu fun B vs R => ∃ i j : Int, vs = [.int i, .int j] ∧ R = fun _ v => v = .bl (decide (j ≤ i))
theorem c_is_at_least (T : Txt w K mg) : Has P w K mg base "is_at_least" 2 ["value", "least"] sp_is_at_least := by
  refine Has.of T.f_is_at_least T.g_is_at_least sc_is_at_least (fun _ _ _ _ _ _ us hl => match us, hl with | [_, _], _ => rfl) (fun vs H Q E h => ?_) (fun f cdv A outer s H vs Q E hr h => ?_)
  · obtain ⟨B, R, hB, ⟨i, j, rfl, _⟩, _⟩ := h; rfl
  · obtain ⟨B, R, hB, ⟨i, j, rfl, rfl⟩, k⟩ := h
    refine ⟨_, (pss_one (ps_ret (pe_and (pc (c_is_integer T) hr (pa_cons (pv 0) pa_nil)) (pe_one (pe_cmpR op_ge (pv 0) (pv 1) (nomark _)))))), ?_⟩
    refine ⟨_, rfl, B, _, hB, ⟨i, rfl, rfl⟩, fun B1 H1 v e1 hv => ?_⟩
    subst hv
    refine ⟨true, rfl, ?_⟩
    refine iteT ?_
    refine ⟨_, rfl, _, rfl, _, _, rfl, rfl, ?_⟩
    exact k _ _ _ e1 rfl
end
end BH
end
section
set_option Elab.async false
set_option linter.all false
set_option maxRecDepth 100000
set_option maxHeartbeats 4000000
namespace BH
open PySem PySem.Spec PyProof.Rows L2 BM
theorem iteB {c : Bool} {A B : Prop} (hc : c = true) (h : A) : if c = true then A else B := by rw [if_pos hc]; exact h
theorem iteBF {c : Bool} {A B : Prop} (hc : c = false) (h : B) : if c = true then A else B := by rw [hc, if_neg Bool.false_ne_true]; exact h
section
variable {P : Program} {w : World} {K : PySem.W.Frag} {mg : Str → Option Value} {base : Heap}
def sp_is_rail : Sp := Pu fun B vs R => ∃ (v : V) (r : Rail) (K : PySem.W.Frag), vs = [v] ∧ RL K B v r ∧ 2 ≤ r.1 ∧ R = fun _ v => v = .bl true
theorem ways_in (b : Bool) : inV (.str (wayS b)) [.str "back", .str "through"] = true := by cases b <;> decide +kernel
def sp_is_railK (K : PySem.W.Frag) : Sp := Pu fun B vs R => ∃ (v : V) (r : Rail), vs = [v] ∧ RL K B v r ∧ 2 ≤ r.1 ∧ R = fun _ v => v = .bl true
theorem c_is_rail (T : Txt w K mg) : Has P w K mg base "is_rail" 3 ["value"] (sp_is_railK K) := by
  refine Has.of T.f_is_rail T.g_is_rail sc_is_rail (fun _ _ _ _ _ _ us hl => match us, hl with | [_], _ => rfl) (fun vs H Q E h => ?_) (fun f cdv A outer s H vs Q E hr h => ?_)
  · obtain ⟨B, R, hB, ⟨v, r, rfl, _⟩, _⟩ := h; rfl
  · obtain ⟨B, R, hB, ⟨v, r, rfl, ⟨a, rfl, ha⟩, h2, rfl⟩, k⟩ := h
    refine ⟨_, (pss_one (ps_ret (pe_and (pe_callB (cIsi (K := K) rfl) (by rfl) T.b_isinstance (by decide +kernel) (pa_cons (pv 0) (pa_cons (pe_bltn (v := .ty "tuple") (u := .type "tuple") (by rfl) T.b_tuple (by decide +kernel) rfl) pa_nil))) (pe_and (pe_cmpR op_eq (pe_callB (cLen (K := K) rfl) (by rfl) T.b_len (by decide +kernel) (pa_cons (pv 0) pa_nil)) pe_int (nomark _)) (pe_and (pc (c_is_at_least T) hr (pa_cons (pe_ix (xT (K := K) rfl) (pv 0) pe_int (fun _ _ => rfl)) (pa_cons pe_int pa_nil))) (pe_one (pe_cmpR (oIn (K := K) rfl) (pe_ix (xT (K := K) rfl) (pv 0) pe_int (fun _ _ => rfl)) (pe_glob (v := .ref (He.ga K "WAYS")) rfl T.g_WAYS rfl) rfl))))))), ?_⟩
    have ha1 := hB.tup ha
    refine ⟨_, rfl, _, _, _, _, true, rfl, .ty _, tyT ha1, kit_ty (by decide +kernel), true, rfl, iteT ?_⟩
    refine ⟨_, rfl, a, _, rfl, .inr ha1, rfl, _, rfl, iteB rfl ?_⟩
    refine ⟨_, rfl, a, _, 0, _, rfl, rfl, ha1, atI_nat (j := 0) rfl, B, _, hB, ⟨(r.1 : Int), 2, rfl, rfl⟩, fun B1 H1 v e1 hv => ?_⟩
    subst hv
    refine ⟨_, rfl, iteB (decide_eq_true (by omega)) ?_⟩
    refine ⟨_, rfl, a, _, 1, _, rfl, rfl, e1.h.tup ha1, atI_nat (j := 1) rfl, _, _, rfl, .inr (T.ways _), rfl, rfl, ?_⟩
    refine k _ _ _ e1 ?_
    show V.bl (inV (.str (wayS r.2)) [.str "back", .str "through"]) = V.bl true
    rw [ways_in]
/-- None of the faults -/
def RNo (K : PySem.W.Frag) (B : Hp) (v : V) : Prop := ∃ a, v = .ref a ∧ SqT K B a []
def sp_clock_fault (K : PySem.W.Frag) : Sp := Pu fun B vs R => ∃ (v : V) (c : Clk), vs = [v] ∧ CK K B v c ∧ c.Ok ∧ R = RNo K
theorem need_sum : ∀ rs : List Rail, ((rs.map fun r => ((r.1 : Nat) : Int) - 1).sum) = (need rs : Int) - 1 → True := fun _ _ => trivial
theorem sum_need : ∀ {rs : List Rail}, two rs → (rs.map fun r => ((r.1 : Nat) : Int) - 1).sum + 1 = (need rs : Int)
  | [], _ => rfl
  | (b, w) :: rs, h => by
    have h1 := sum_need (rs := rs) fun r hr => h r (List.mem_cons_of_mem _ hr)
    have h2 : 2 ≤ b := h (b, w) List.mem_cons_self
    have h3 : need ((b, w) :: rs) = (b - 1) + need rs := rfl
    rw [List.map_cons, List.sum_cons, h3]
    show ((b : Nat) : Int) - 1 + (rs.map fun r => ((r.1 : Nat) : Int) - 1).sum + 1 = _
    omega
theorem small_len {rs : List Rail} (h : rs.length ≤ 3) : rs.length ≤ 1000000 := Nat.le_trans h (by decide)
theorem c_clock_fault (T : Txt w K mg) : Has P w K mg base "clock_fault" 4 ["value"] (sp_clock_fault K) := by
  refine Has.of T.f_clock_fault T.g_clock_fault sc_clock_fault (fun _ _ _ _ _ _ us hl => match us, hl with | [_], _ => rfl) (fun vs H Q E h => ?_) (fun f cdv A outer s H vs Q E hr h => ?_)
  · obtain ⟨B, R, hB, ⟨v, c, rfl, _⟩, _⟩ := h; rfl
  · obtain ⟨B, R, hB, ⟨v, c, rfl, ⟨a, rv, rfl, ha, ⟨b, rvs, rfl, hb, hp⟩⟩, ok, rfl⟩, k⟩ := h
    refine ⟨_, (pss_cons (ps_if (PW.pt (pw_or (pt_not (pt_val (pe_callB (cIsi (K := K) rfl) (by rfl) T.b_isinstance (by decide +kernel) (pa_cons (pv 0) (pa_cons (pe_bltn (v := .ty "tuple") (u := .type "tuple") (by rfl) T.b_tuple (by decide +kernel) rfl) pa_nil))))) (pw_or1 (pt_cmpR op_ne (pe_callB (cLen (K := K) rfl) (by rfl) T.b_len (by decide +kernel) (pa_cons (pv 0) pa_nil)) pe_int (nomark _))))) (pss_one (ps_ret (pe_tup (pa_cons pe_non pa_nil)))) pss_nil)
      (pss_cons (ps_asg (pv 0) (pg_tup rfl (pgs_cons (pg_name (i := 1) sc_clock_fault.nd rfl (.inl rfl)) (pgs_cons (pg_name (i := 2) sc_clock_fault.nd rfl (.inl rfl)) pgs_nil))))
      (pss_cons (ps_if (PW.pt (pw_or (pt_not (pt_val (pc (c_is_at_least T) hr (pa_cons (pv 1) (pa_cons pe_int pa_nil))))) (pw_or1 (pt_cmpR op_gt (pv 1) (pe_glob (v := .int 100) rfl T.mostBalls.choose_spec ⟨_, rfl⟩) (nomark _))))) (pss_one (ps_ret (pe_tup (pa_cons pe_int pa_nil)))) pss_nil)
      (pss_cons (ps_if (PW.pt (pw_or (pt_not (pt_val (pe_callB (cIsi (K := K) rfl) (by rfl) T.b_isinstance (by decide +kernel) (pa_cons (pv 2) (pa_cons (pe_bltn (v := .ty "list") (u := .type "list") (by rfl) T.b_list (by decide +kernel) rfl) pa_nil))))) (pw_or (pt_cmpR (op_eqE hr.units0) (pv 2) (pe_lst pa_nil) (nomark _)) (pw_or1 (pt_not (pt_val (pe_callB (cr_all rfl) (by rfl) T.b_all (by decide +kernel) (pa_cons (pe_lc (own := [("rail", 3)]) (g := (gName 3)) rfl sc_clock_fault.nd (piL (K := K) rfl (pv 2)) (blkOk_by (by kernel_rfl)) (fun _ _ _ _ _ => (pg_name (i := 3) sc_clock_fault.nd rfl (.inl rfl))) (fun _ _ _ _ _ => pts_nil) (fun _ _ _ _ _ => (pc (c_is_rail T) hr (pa_cons (pv 3) pa_nil)))) pa_nil)))))))) (pss_one (ps_ret (pe_tup (pa_cons pe_int pa_nil)))) pss_nil)
      (pss_one (ps_ret (pe_ifExp (pt_cmpR op_lt (pe_callB (cr_sum rfl) (by rfl) T.b_sum (by decide +kernel) (pa_cons (pe_lc (own := [("bound", 4), ("way", 5)]) (g := (gTup K 2 (gCons (gName 4) (gCons (gName 5) gNil)))) rfl sc_clock_fault.nd (piL (K := K) rfl (pv 2)) (blkOk_by (by kernel_rfl)) (fun _ _ _ _ _ => (pg_tup rfl (pgs_cons (pg_name (i := 4) sc_clock_fault.nd rfl (.inl rfl)) (pgs_cons (pg_name (i := 5) sc_clock_fault.nd rfl (.inl rfl)) pgs_nil)))) (fun _ _ _ _ _ => pts_nil) (fun _ _ _ _ _ => (pe_op op_sub (pv 4) pe_int))) pa_nil)) (pv 1) (nomark _)) (pe_tup pa_nil) (pe_tup (pa_cons pe_int pa_nil))))))))), ?_⟩
    have ha1 := hB.tup ha
    have hb1 := hB.seq hb
    have hlen : rvs.length = c.rs.length := Paired.length hp
    -- not a tuple of two
    refine ⟨_, rfl, _, _, _, _, true, rfl, .ty _, tyT ha1, kit_ty (by decide +kernel), true, rfl, iteF ?_⟩
    refine ⟨_, rfl, a, _, rfl, .inr ha1, rfl, _, rfl, iteBF (by rfl) ?_⟩
    -- balls, rails = value
    refine ⟨_, rfl, a, _, rfl, ha1, rfl, _, _, rfl, _, _, rfl, rfl, ?_⟩
    -- the balls
    refine ⟨_, rfl, B, _, hB, ⟨(c.n : Int), 2, rfl, rfl⟩, fun B1 H1 v e1 hv => ?_⟩
    subst hv
    have n2 := ok.n2
    have n100 := ok.n100
    refine ⟨_, rfl, iteBF (by rw [decide_eq_true (by omega)]; rfl) ?_⟩
    refine ⟨_, rfl, _, _, rfl, rfl, _, rfl, iteBF (decide_eq_false (by omega)) ?_⟩
    -- the rails
    have hb2 := e1.h.seq hb1
    refine ⟨_, rfl, _, _, _, _, true, rfl, .ty _, tyL hb2, kit_ty (by decide +kernel), true, rfl, iteF ?_⟩
    refine ⟨_, rfl, by show 0 ≤ sizeLine; decide, fun p np => ?_⟩
    have e2 : Ext B1 H1 B1 (upd H1 p (.lst [])) := Ext.tmp e1.w _ np
    have ne : rvs.isEmpty = false := by
      cases rvs with
      | nil => exact absurd (List.length_eq_zero_iff.mp hlen.symm) ok.ne
      | cons _ _ => rfl
    refine ⟨b, p, rvs, rfl, rfl, .inl ⟨e2.h.seq hb2, SqL.of upd_same⟩, _, rfl, iteBF (by rw [ne]; rfl) ?_⟩
    have E2 := e1.trans e2
    refine ⟨_, rfl, b, rfl, ⟨_, E2.bh.seq hb⟩, fun D hD => lc_new (walk_list rvs) (fun _ _ y => y = .bl true) E2.w (fun H' s => (E2.b.trans s).seq hb) (by rw [hlen]; exact small_len ok.l3) hD (fun _ _ _ _ _ h => h) ?_ ?_⟩
    · intro i x B3 H3 H3' N hi e3 hy hN
      obtain ⟨rfl, hx⟩ := hy
      obtain ⟨r, hr1, hr2⟩ := pat hp hx
      refine ⟨rfl, ?_⟩
      refine ⟨_, rfl, B3, _, e3.w, ⟨x, r, rfl, hr2.mono (E2.b.trans e3.b), ok.two r (List.mem_of_getElem? hr1), rfl⟩, fun B4 H4 v e4 hv => ?_⟩
      exact hN _ _ _ e4 hv
    · intro B3 H3 ys e3 hD3 hl hys
      have ey : ys = (List.replicate ys.length true).map V.bl := by
        apply List.ext_getElem?
        intro i
        rw [List.getElem?_map, List.getElem?_replicate]
        by_cases hi : i < ys.length
        · rw [if_pos hi, List.getElem?_eq_getElem hi]
          exact congrArg some (hys i _ (List.getElem?_eq_getElem hi))
        · rw [if_neg hi, List.getElem?_eq_none (by omega)]
          rfl
      refine ⟨D, List.replicate ys.length true, rfl, by rw [← ey]; exact e3.w.seq (SqL.of hD3), ?_⟩
      have E3 := E2.trans e3
      refine ⟨_, rfl, iteBF (by simp) ?_⟩
      -- the sum
      refine ⟨_, rfl, b, rfl, ⟨_, E3.bh.seq hb⟩, fun D2 hD2 => lc_new (walk_list rvs) (fun i _ y => ∀ r, c.rs[i]? = some r → y = .int ((r.1 : Nat) - 1 : Int)) E3.w (fun H' s => (E3.b.trans s).seq hb) (by rw [hlen]; exact small_len ok.l3) hD2 (fun _ _ _ _ _ h => h) ?_ ?_⟩
      · intro i x B4 H4 H4' N hi e4 hy hN
        obtain ⟨rfl, hx⟩ := hy
        obtain ⟨r, hr1, q, rfl, hq⟩ := pat hp hx
        refine ⟨q, _, rfl, (E3.b.trans (e4.b.trans e4.w)).tup hq, rfl, _, _, rfl, _, _, rfl, rfl, ?_⟩
        refine ⟨rfl, ?_⟩
        refine ⟨_, rfl, _, _, rfl, rfl, ?_⟩
        refine hN _ _ _ (Ext.refl e4.w) fun r' hr' => ?_
        rw [hr1] at hr'
        cases hr'
        rfl
      · intro B4 H4 zs e4 hD4 hl4 hzs
        have ez : zs = (c.rs.map fun r => ((r.1 : Nat) : Int) - 1).map V.int := by
          apply List.ext_getElem?
          intro i
          rw [List.getElem?_map, List.getElem?_map]
          by_cases hi : i < zs.length
          · have hc : i < c.rs.length := by rw [← hlen, ← hl4]; exact hi
            rw [List.getElem?_eq_getElem hi, List.getElem?_eq_getElem hc]
            exact congrArg some (hzs i _ (List.getElem?_eq_getElem hi) _ (List.getElem?_eq_getElem hc))
          · rw [List.getElem?_eq_none (by omega), List.getElem?_eq_none (by rw [← hlen, ← hl4]; omega)]
            rfl
        refine ⟨D2, c.rs.map fun r => ((r.1 : Nat) : Int) - 1, rfl, by rw [← ez]; exact e4.w.seq (SqL.of hD4), ?_⟩
        have hs := sum_need ok.two
        have hn := ok.need
        refine ⟨_, rfl, _, _, rfl, rfl, _, rfl, iteB (decide_eq_true (by omega)) ?_⟩
        refine ⟨by show 0 ≤ sizeLine; decide, fun p4 np4 => ?_⟩
        have E5 := (E3.trans e4).trans (Ext.new e4.w (.tup []) np4)
        exact k _ _ _ E5 ⟨p4, rfl, SqT.of upd_same⟩
end
end BH
end
section
set_option Elab.async false
set_option linter.all false
set_option maxRecDepth 100000
set_option maxHeartbeats 4000000
namespace BH
open PySem PySem.Spec PyProof.Rows L2 BM
/-! ### balls that were seen, as a dict -/
def seenK (l : List Nat) : List (Key × V) := l.map fun b : Nat => ((Sum.inl (b : Int) : Key), V.bl true)
theorem seen_not {l : List Nat} {b : Nat} (h : b ∉ l) : valV (seenK l) (Sum.inl (b : Int) : Key) = none := by
  unfold valV seenK
  rw [Option.map_eq_none_iff, List.find?_eq_none]
  intro x hx
  obtain ⟨c, hc, rfl⟩ := List.mem_map.mp hx
  simp only [decide_eq_true_eq]
  intro e
  have e1 := Sum.inl.inj e
  have e2 : c = b := by omega
  exact h (e2 ▸ hc)
theorem seen_put {l : List Nat} {b : Nat} (h : b ∉ l) : putK (seenK l) (Sum.inl (b : Int) : Key) (V.bl true) = seenK (l ++ [b]) := by
  rw [putK_new _ (seen_not h)]
  unfold seenK
  rw [List.map_append]
  rfl
theorem seen_len (l : List Nat) : (seenK l).length = l.length := by unfold seenK; rw [List.length_map]
/-- rows of a sight -/
def rowsOf (s : Sg Nat) : List (List Nat) := s.1 :: s.2
theorem rowsOf_flat (s : Sg Nat) : (rowsOf s).flatten = flat s := rfl
theorem take_flat_succ {rows : List (List Nat)} {i : Nat} {r : List Nat} (h : rows[i]? = some r) : (rows.take (i + 1)).flatten = (rows.take i).flatten ++ r := by
  rw [List.take_add_one, h, List.flatten_append]
  simp
theorem take_succ_at {l : List Nat} {j b : Nat} (h : l[j]? = some b) : l.take (j + 1) = l.take j ++ [b] := by
  rw [List.take_add_one, h]
  rfl
/-- a ball that comes is new -/
theorem fresh_ball {rows : List (List Nat)} (nd : rows.flatten.Nodup) {i j b : Nat} {r : List Nat} (h : rows[i]? = some r) (hb : r[j]? = some b) : b ∉ (rows.take i).flatten ++ r.take j := by
  intro hm
  have e1 : rows.flatten = ((rows.take i).flatten ++ r.take j) ++ (b :: (r.drop (j + 1) ++ (rows.drop (i + 1)).flatten)) := by
    have h1 : rows = rows.take i ++ r :: rows.drop (i + 1) := by
      obtain ⟨hi, ei⟩ := List.getElem?_eq_some_iff.mp h
      have := List.drop_eq_getElem_cons hi
      rw [ei] at this
      rw [← this, List.take_append_drop]
    have h2 : r = r.take j ++ b :: r.drop (j + 1) := by
      obtain ⟨hj, ej⟩ := List.getElem?_eq_some_iff.mp hb
      have := List.drop_eq_getElem_cons hj
      rw [ej] at this
      rw [← this, List.take_append_drop]
    have h3 : rows.flatten = (rows.take i).flatten ++ (r ++ (rows.drop (i + 1)).flatten) := by
      have := congrArg List.flatten h1
      rw [List.flatten_append, List.flatten_cons] at this
      exact this
    rw [h3]
    have h4 : r ++ (rows.drop (i + 1)).flatten = r.take j ++ (b :: (r.drop (j + 1) ++ (rows.drop (i + 1)).flatten)) := by
      have := congrArg (· ++ (rows.drop (i + 1)).flatten) h2
      simpa using this
    rw [h4, List.append_assoc]
  rw [e1, List.nodup_append] at nd
  exact nd.2.2 b hm b List.mem_cons_self rfl
section
variable {P : Program} {w : World} {K : PySem.W.Frag} {mg : Str → Option Value} {base : Heap}
def sp_is_ball (K : PySem.W.Frag) : Sp := Pu fun B vs R => ∃ (v : V) (c : Clk) (i : Int), vs = [v, .int i] ∧ CK K B v c ∧ R = fun _ v => v = .bl (decide (0 ≤ i ∧ i < c.n))
theorem c_is_ball (T : Txt w K mg) : Has P w K mg base "is_ball" 3 ["clock", "value"] (sp_is_ball K) := by
  refine Has.of T.f_is_ball T.g_is_ball sc_is_ball (fun _ _ _ _ _ _ us hl => match us, hl with | [_, _], _ => rfl) (fun vs H Q E h => ?_) (fun f cdv A outer s H vs Q E hr h => ?_)
  · obtain ⟨B, R, hB, ⟨v, c, i, rfl, _⟩, _⟩ := h; rfl
  · obtain ⟨B, R, hB, ⟨v, c, i, rfl, ⟨a, rv, rfl, ha, hrv⟩, rfl⟩, k⟩ := h
    refine ⟨_, (pss_one (ps_ret (pe_and (pc (c_is_at_least T) hr (pa_cons (pv 1) (pa_cons pe_int pa_nil))) (pe_one (pe_cmpR op_lt (pv 1) (pe_ix (xT (K := K) rfl) (pv 0) pe_int (fun _ _ => rfl)) (nomark _)))))), ?_⟩
    refine ⟨_, rfl, B, _, hB, ⟨i, 0, rfl, rfl⟩, fun B1 H1 v e1 hv => ?_⟩
    subst hv
    refine ⟨_, rfl, ?_⟩
    by_cases h0 : 0 ≤ i
    · refine iteB (decide_eq_true h0) ?_
      refine ⟨_, rfl, _, rfl, a, _, 0, _, rfl, rfl, e1.bh.tup ha, atI_nat (j := 0) rfl, _, _, rfl, rfl, ?_⟩
      refine k _ _ _ e1 (congrArg V.bl ?_)
      by_cases h1 : i < (c.n : Int) <;> simp [h0, h1]
    · refine iteBF (decide_eq_false h0) ?_
      refine k _ _ _ e1 (congrArg V.bl ?_)
      simp [h0]
def sp_sight_fault (K : PySem.W.Frag) : Sp := Pu fun B vs R => ∃ (cv sv : V) (c : Clk) (s : Sg Nat), vs = [cv, sv] ∧ CK K B cv c ∧ SG K B sv s ∧ c.Ok ∧ VS c s ∧ R = RNo K
theorem c_sight_fault (T : Txt w K mg) : Has P w K mg base "sight_fault" 4 ["clock", "value"] (sp_sight_fault K) := by
  refine Has.of T.f_sight_fault T.g_sight_fault sc_sight_fault (fun _ _ _ _ _ _ us hl => match us, hl with | [_, _], _ => rfl) (fun vs H Q E h => ?_) (fun f cdv A outer s0 H vs Q E hr h => ?_)
  · obtain ⟨B, R, hB, ⟨v, c, i, s, rfl, _⟩, _⟩ := h; rfl
  · obtain ⟨B, R, hB, ⟨cv, sv, c, s, rfl, hck, ⟨x, rvs, rfl, hx, hp⟩, ok, vs, rfl⟩, k⟩ := h
    obtain ⟨a, rv, rfl, ha, ⟨b, rls, rfl, hb, hpr⟩⟩ := id hck
    have hu := hu_of hr
    have hlr : rls.length = c.rs.length := Paired.length hpr
    have hlx : rvs.length = s.2.length + 1 := Paired.length hp
    have hvl := vs.len
    have nd : (rowsOf s).flatten.Nodup := by
      rw [rowsOf_flat]
      exact vs.perm.nodup_iff.mpr List.nodup_range
    have hfl : (flat s).length = c.n := by rw [vs.perm.length_eq, List.length_range]
    refine ⟨_, (pss_cons (ps_asg (pv 0) (pg_tup rfl (pgs_cons (pg_name (i := 2) sc_sight_fault.nd rfl (.inl rfl)) (pgs_cons (pg_name (i := 3) sc_sight_fault.nd rfl (.inl rfl)) pgs_nil))))
      (pss_cons (ps_if (PW.pt (pw_or (pt_not (pt_val (pe_callB (cIsi (K := K) rfl) (by rfl) T.b_isinstance (by decide +kernel) (pa_cons (pv 1) (pa_cons (pe_bltn (v := .ty "list") (u := .type "list") (by rfl) T.b_list (by decide +kernel) rfl) pa_nil))))) (pw_or (pt_cmpR op_ne (pe_callB (cLen (K := K) rfl) (by rfl) T.b_len (by decide +kernel) (pa_cons (pv 1) pa_nil)) (pe_op op_add (pe_callB (cLen (K := K) rfl) (by rfl) T.b_len (by decide +kernel) (pa_cons (pv 3) pa_nil)) pe_int) (nomark _)) (pw_or1 (pt_not (pt_val (pe_callB (cr_all rfl) (by rfl) T.b_all (by decide +kernel) (pa_cons (pe_lc (own := [("row", 6)]) (g := (gName 6)) rfl sc_sight_fault.nd (piL (K := K) rfl (pv 1)) (blkOk_by (by kernel_rfl)) (fun _ _ _ _ _ => (pg_name (i := 6) sc_sight_fault.nd rfl (.inl rfl))) (fun _ _ _ _ _ => pts_nil) (fun _ _ _ _ _ => (pe_callB (cIsi (K := K) rfl) (by rfl) T.b_isinstance (by decide +kernel) (pa_cons (pv 6) (pa_cons (pe_bltn (v := .ty "list") (u := .type "list") (by rfl) T.b_list (by decide +kernel) rfl) pa_nil))))) pa_nil)))))))) (pss_one (ps_ret (pe_tup (pa_cons pe_non pa_nil)))) pss_nil)
      (pss_cons (ps_set (i := 4) sc_sight_fault.nd rfl (.inl rfl) pe_dnewK)
      (pss_cons (ps_for PassesOwn.never rfl (pi_enum rfl T.b_enumerate (pa_cons (pv 1) pa_nil)) (pg_tup rfl (pgs_cons (pg_name (i := 5) sc_sight_fault.nd rfl (.inl rfl)) (pgs_cons (pg_name (i := 6) sc_sight_fault.nd rfl (.inl rfl)) pgs_nil)))
      (pss_cons (ps_for PassesOwn.never rfl (piL (K := K) rfl (pv 6)) (pg_name (i := 7) sc_sight_fault.nd rfl (.inl rfl))
      (pss_cons (ps_if (PW.pt (pw_or (pt_not (pt_val (pc (c_is_ball T) hr (pa_cons (pv 0) (pa_cons (pv 7) pa_nil))))) (pw_or1 (pt_cmp (pc_din hu (pv 7) (pv 4)))))) (pss_one (ps_ret (pe_tup (pa_cons (pv 5) pa_nil)))) pss_nil)
      (pss_one (ps_dput hu (pv 4) (pv 7) pe_bl rfl))))
      (pss_one (ps_if (PW.pt (pw_and (pt_cmpR op_gt (pv 5) pe_int (nomark _)) (pw_and1 (pt_cmpR op_ge (pe_callB (cLen (K := K) rfl) (by rfl) T.b_len (by decide +kernel) (pa_cons (pv 6) pa_nil)) (pe_ix (xT (K := K) rfl) (pe_ix (xL (K := K) rfl) (pv 3) (pe_op op_sub (pv 5) pe_int) (fun _ _ => rfl)) pe_int (fun _ _ => rfl)) (nomark _))))) (pss_one (ps_ret (pe_tup (pa_cons (pv 5) pa_nil)))) pss_nil))))
      (pss_one (ps_ret (pe_ifExp (pt_cmpR op_eq (pe_callB call_lenD (by rfl) T.b_len (by decide +kernel) (pa_cons (pv 4) pa_nil)) (pv 2) (nomark _)) (pe_tup pa_nil) (pe_tup (pa_cons pe_int pa_nil))))))))), ?_⟩
    -- balls, rails = clock
    refine ⟨_, rfl, a, _, rfl, hB.tup ha, rfl, _, _, rfl, _, _, rfl, rfl, ?_⟩
    refine ⟨_, rfl, _, _, _, _, true, rfl, .ty _, tyL (hB.seq hx), kit_ty (by decide +kernel), true, rfl, iteF ?_⟩
    refine ⟨_, rfl, x, rvs, rfl, .inl (hB.seq hx), _, rfl, b, rls, rfl, .inl (hB.seq hb), _, _, rfl, rfl, rfl, _, rfl, iteBF ?_ ?_⟩
    · rw [hlx, hlr, hvl]
      simp
    refine ⟨_, rfl, x, rfl, ⟨_, hB.seq hx⟩, fun D hD => lc_new (walk_list rvs) (fun _ _ y => y = .bl true) hB (fun H' s => s.seq hx) (by rw [hlx, hvl]; have := ok.l3; omega) hD (fun _ _ _ _ _ h => h) ?_ ?_⟩
    · intro i y B3 H3 H3' N hi e3 hy hN
      obtain ⟨rfl, hyx⟩ := hy
      obtain ⟨r, hr1, q, rfl, hq⟩ := pat hp hyx
      refine ⟨rfl, ?_⟩
      refine ⟨_, rfl, _, _, _, _, true, rfl, .ty _, tyL (e3.bh.seq hq), kit_ty (by decide +kernel), ?_⟩
      exact hN _ _ _ (Ext.refl e3.w) rfl
    intro B1 H1 ys e1 hD1 hl hys
    have ey : ys = (List.replicate ys.length true).map V.bl := by
      apply List.ext_getElem?
      intro i
      rw [List.getElem?_map, List.getElem?_replicate]
      by_cases hi : i < ys.length
      · rw [if_pos hi, List.getElem?_eq_getElem hi]
        exact congrArg some (hys i _ (List.getElem?_eq_getElem hi))
      · rw [if_neg hi, List.getElem?_eq_none (by omega)]
        rfl
    refine ⟨D, List.replicate ys.length true, rfl, by rw [← ey]; exact e1.w.seq (SqL.of hD1), ?_⟩
    refine ⟨_, rfl, iteBF (by simp) ?_⟩
    -- seen = {}
    intro d nd1
    have e2 : Ext B H B1 (upd H1 d (.dK [])) := e1.trans (Ext.tmp e1.w _ nd1)
    have m2 : Mine H B1 (upd H1 d (.dK [])) d (.dK []) := Mine.new e1 nd1
    -- for index, row in enumerate(value)
    refine ⟨_, rfl, x, rvs, rfl, e2.bh.seq hx, for_it (walk_enum0 rvs) (fun i σ' H' => ∃ B' v5 v6 v7, σ' = [some (.ref a), some (.ref x), some (.int (c.n : Int)), some (.ref b), some (.ref d), v5, v6, v7] ∧ Ext B H B' H' ∧ Mine H B' H' d (.dK (seenK ((rowsOf s).take i).flatten)))
      ⟨B1, none, none, none, rfl, e2, m2⟩ (fun i σ' H' _ ⟨B', _, _, _, _, e, _⟩ => e.bh.seq hx) ?_ ?_⟩
    · rintro i y σ' H2 H2' hi ⟨B2, v5, v6, v7, rfl, e3, m3⟩ ⟨Tp, z, rfl, nT, rfl, hz⟩
      obtain ⟨row, hrow, q, rfl, hq⟩ := pat hp hz
      have hrow : (rowsOf s)[i]? = some row := hrow
      have e4 : Ext B2 H2 B2 (upd H2 Tp (.tup [.int (i : Nat), .ref q])) := Ext.tmp e3.w _ nT
      have m4 := m3.ext e4
      have E4 := e3.trans e4
      refine ⟨Tp, _, rfl, SqT.of upd_same, rfl, _, _, rfl, _, _, rfl, rfl, ?_⟩
      -- for ball in row
      refine ⟨_, rfl, q, rfl, ⟨_, E4.bh.seq hq⟩, for_it (walk_list _) (fun j σ' H' => ∃ B' v7, σ' = [some (.ref a), some (.ref x), some (.int (c.n : Int)), some (.ref b), some (.ref d), some (.int (i : Nat)), some (.ref q), v7] ∧ Ext B H B' H' ∧ Mine H B' H' d (.dK (seenK (((rowsOf s).take i).flatten ++ row.take j))))
        ⟨B2, v7, rfl, E4, by simpa using m4⟩ (fun j σ' H' _ ⟨B', _, _, e, _⟩ => e.bh.seq hq) ?_ ?_⟩
      · rintro j y σ' H5 H5' hj ⟨B5, v7, rfl, e5, m5⟩ ⟨rfl, hy⟩
        rw [List.getElem?_map] at hy
        obtain ⟨bl, hbl, rfl⟩ := Option.map_eq_some_iff.mp hy
        have hfresh := fresh_ball nd hrow hbl
        have hlt : bl < c.n := by
          have : bl ∈ flat s := List.mem_flatten.mpr ⟨row, List.mem_of_getElem? hrow, List.mem_of_getElem? hbl⟩
          exact List.mem_range.mp (vs.perm.mem_iff.mp this)
        -- is_ball
        refine ⟨_, rfl, _, rfl, B5, _, e5.w, ⟨_, c, _, rfl, hck.mono e5.b, rfl⟩, fun B6 H6 v e6 hv => ?_⟩
        subst hv
        have m6 := m5.ext e6
        have E6 := e5.trans e6
        refine ⟨_, rfl, ?_⟩
        refine iteBF (by simp [hlt]) ?_
        refine ⟨_, rfl, _, rfl, d, _, rfl, DGet.k (k := Sum.inl (bl : Int)) m6.h, _, rfl, ?_⟩
        rw [seen_not hfresh]
        refine iteF ?_
        have hlen : (seenK (((rowsOf s).take i).flatten ++ row.take j)).length < sizeLine := by
          rw [seen_len]
          have h1 : (((rowsOf s).take i).flatten ++ row.take j).length ≤ (flat s).length := by
            have hsub : List.Sublist (((rowsOf s).take i).flatten ++ row.take j) (flat s) := by
              have h1 : (rowsOf s).take (i + 1) ++ (rowsOf s).drop (i + 1) = rowsOf s := List.take_append_drop _ _
              have h2 : flat s = ((rowsOf s).take (i + 1)).flatten ++ ((rowsOf s).drop (i + 1)).flatten := by
                rw [← List.flatten_append, h1, rowsOf_flat]
              rw [h2, take_flat_succ hrow]
              exact List.Sublist.trans (List.Sublist.append_left (List.take_sublist _ _) _) (List.sublist_append_left _ _)
            exact hsub.length_le
          rw [hfl] at h1
          exact Nat.lt_of_le_of_lt h1 (Nat.lt_of_le_of_lt ok.n100 (by decide))
        refine ⟨_, rfl, _, rfl, d, _, rfl, DPut.k (k := Sum.inl (bl : Int)) m6.h hlen, ?_⟩
        rw [seen_put hfresh, List.append_assoc, ← take_succ_at hbl]
        exact ⟨B6, _, rfl, m6.set E6 _, m6.put _⟩
      · rintro σ' H5 ⟨B5, v7, rfl, e5, m5⟩
        rw [List.length_map, List.take_length] at m5
        rw [← take_flat_succ hrow] at m5
        -- index > 0 and ..
        refine ⟨_, rfl, _, _, rfl, rfl, _, rfl, ?_⟩
        by_cases hi0 : (0 : Int) < (i : Int)
        · refine iteB (decide_eq_true hi0) ?_
          have hi' : i - 1 < c.rs.length := by rw [hlx] at hi; omega
          obtain ⟨rl, hrl⟩ : ∃ rl, c.rs[i - 1]? = some rl := ⟨_, List.getElem?_eq_getElem hi'⟩
          obtain ⟨rlv, hrlv, q2, rfl, hq2⟩ := pat2 hpr hrl
          have hlt : row.length < rl.1 := by
            have hf := vs.fits
            have hc : (cnts s)[i - 1]? = some row.length := by
              unfold cnts
              have : (rowsOf s)[i]? = s.2[i - 1]? := by
                unfold rowsOf
                cases i with
                | zero => simp at hi0
                | succ i => rfl
              rw [List.getElem?_map, ← this, hrow]
              rfl
            have gen : ∀ {rs : List Rail} {cs : List Nat} {j : Nat} {r : Rail} {n : Nat}, BM.fits rs cs → rs[j]? = some r → cs[j]? = some n → n < r.1 := by
              intro rs
              induction rs with
              | nil => intro cs j r n _ h; simp at h
              | cons r0 rs ih =>
                intro cs j r n h h1 h2
                cases cs with
                | nil => exact h.elim
                | cons c0 cs =>
                  cases j with
                  | zero => simp at h1 h2; subst h1 h2; exact h.1
                  | succ j => exact ih h.2 (by simpa using h1) (by simpa using h2)
            exact gen hf hrl hc
          refine ⟨_, rfl, q, _, rfl, .inl (e5.bh.seq hq), _, rfl, _, rfl, _, _, rfl, rfl, b, rls, _, _, rfl, rfl, e5.bh.seq hb, at_of (j := i - 1) (by omega) hrlv, q2, _, 0, _, rfl, rfl, e5.bh.tup hq2, atI_nat (j := 0) rfl, _, _, rfl, rfl, _, rfl, iteBF (decide_eq_false ?_) ?_⟩
          · rw [List.length_map]
            omega
          · exact ⟨B5, _, _, _, rfl, e5, m5⟩
        · refine iteBF (decide_eq_false hi0) ?_
          refine iteF ?_
          exact ⟨B5, _, _, _, rfl, e5, m5⟩
    · rintro σ' H2 ⟨B2, v5, v6, v7, rfl, e3, m3⟩
      have et : ((rowsOf s).take rvs.length).flatten = flat s := by
        rw [List.take_of_length_le (by rw [hlx]; exact Nat.le_refl _), rowsOf_flat]
      rw [et] at m3
      refine ⟨_, rfl, d, _, rfl, m3.h, _, rfl, rfl, _, rfl, iteB ?_ ?_⟩
      · rw [seen_len, hfl]
        exact decide_eq_true rfl
      · refine ⟨by show 0 ≤ sizeLine; decide, fun p4 np4 => ?_⟩
        exact k _ _ _ (e3.trans (Ext.new e3.w (.tup []) np4)) ⟨p4, rfl, SqT.of upd_same⟩
end
end BH
end
section
set_option Elab.async false
set_option linter.all false
set_option maxRecDepth 100000
set_option maxHeartbeats 4000000
namespace BH
open PySem PySem.Spec PyProof.Rows L2 BM
theorem cut1 (xs : List V) : cutV xs (some 1) none = xs.drop 1 := by
  unfold cutV
  rw [show HT.sIx xs.length 0 (some 1) = min 1 xs.length from HT.sIx_nat xs.length 0 1, HT.sIx_none]
  cases xs with
  | nil => rfl
  | cons x r =>
    rw [show min 1 (x :: r).length = 1 by
      rw [List.length_cons]
      omega]
    show (List.take ((x :: r).length - 1) r) = r
    rw [List.length_cons, Nat.add_sub_cancel]
    exact List.take_length
theorem take_snoc {α : Type} {l : List α} {i : Nat} {x : α} (h : l[i]? = some x) : l.take (i + 1) = l.take i ++ [x] := by
  rw [List.take_add_one, h]
  rfl
theorem prod_take {rs : List Rail} {i : Nat} {r : Rail} (h : rs[i]? = some r) : prod (rs.take (i + 1)) = prod (rs.take i) * r.1 := by
  rw [take_snoc h, prod_append]
  obtain ⟨b, w⟩ := r
  simp [prod]
theorem prod_take_le {rs : List Rail} (h2 : two rs) (i : Nat) : prod (rs.take i) ≤ prod rs := by
  have e : prod rs = prod (rs.take i) * prod (rs.drop i) := by rw [← prod_append, List.take_append_drop]
  rw [e]
  exact Nat.le_mul_of_pos_right _ (prod_pos _ fun r hr => h2 r (List.mem_of_mem_drop hr))
theorem digs_get : ∀ {rs : List Rail} {i t : Nat} {r : Rail}, rs[i]? = some r → (digs rs t)[i]? = some (t / prod (rs.take i) % r.1)
  | [], _, _, _, h => by simp at h
  | (b, w) :: rs, 0, t, r, h => by
    have e : (b, w) = r := by simpa using h
    subst e
    simp [digs, prod]
  | (b, w) :: rs, i + 1, t, r, h => by
    have ih := digs_get (rs := rs) (i := i) (t := t / b) (r := r) (by simpa using h)
    show (digs rs (t / b))[i]? = some (t / (b * prod (rs.take i)) % r.1)
    rw [ih, Nat.div_div_eq_div_mul]
theorem val_take {rs : List Rail} {cs : List Nat} {i : Nat} {r : Rail} {c : Nat} (h : rs[i]? = some r) (hc : cs[i]? = some c) : val (rs.take (i + 1)) (cs.take (i + 1)) = val (rs.take i) (cs.take i) + prod (rs.take i) * c := by
  obtain ⟨b, w⟩ := r
  have h1 := (List.getElem?_eq_some_iff.mp h).1
  have h2 := (List.getElem?_eq_some_iff.mp hc).1
  rw [take_snoc h, take_snoc hc]
  exact val_append _ _ _ _ _ (by simp; omega)
theorem drop1_cons {v : V} {vs : List V} : (v :: vs).drop 1 = vs := rfl
section
variable {P : Program} {w : World} {K : PySem.W.Frag} {mg : Str → Option Value} {base : Heap}
def sp_require_clock (K : PySem.W.Frag) : Sp := Pu fun B vs R => ∃ (v : V) (c : Clk), vs = [v] ∧ CK K B v c ∧ c.Ok ∧ R = fun _ v => v = .non
theorem c_require_clock (T : Txt w K mg) : Has P w K mg base "require_clock" 5 ["clock"] (sp_require_clock K) := by
  refine Has.of T.f_require_clock T.g_require_clock sc_require_clock (fun _ _ _ _ _ _ us hl => match us, hl with | [_], _ => rfl) (fun vs H Q E h => ?_) (fun f cdv A outer s H vs Q E hr h => ?_)
  · obtain ⟨B, R, hB, ⟨v, c, rfl, _⟩, _⟩ := h; rfl
  · obtain ⟨B, R, hB, ⟨v, c, rfl, hc, ok, rfl⟩, k⟩ := h
    refine ⟨_, (pss_cons (ps_set (i := 1) sc_require_clock.nd rfl (.inl rfl) (pc (c_clock_fault T) hr (pa_cons (pv 0) pa_nil)))
      (pss_one (ps_if (pt_cmpR (op_neE hr.units0) (pv 1) (pe_tup pa_nil) (nomark _)) (pss_one ps_never) pss_nil))), ?_⟩
    refine ⟨_, rfl, B, _, hB, ⟨v, c, rfl, hc, ok, rfl⟩, fun B1 H1 v e1 hv => ?_⟩
    obtain ⟨a, rfl, ha⟩ := hv
    refine ⟨_, rfl, by show 0 ≤ sizeLine; decide, fun p np => ⟨a, p, [], rfl, rfl, .inr ⟨(Same.new np).tup (e1.w.tup ha), SqT.of upd_same⟩, _, rfl, iteBF rfl ?_⟩⟩
    exact k _ _ _ (e1.trans (Ext.tmp e1.w _ np)) rfl
def sp_require_sight (K : PySem.W.Frag) : Sp := Pu fun B vs R => ∃ (cv sv : V) (c : Clk) (s : Sg Nat), vs = [cv, sv] ∧ CK K B cv c ∧ SG K B sv s ∧ c.Ok ∧ VS c s ∧ R = fun _ v => v = .non
theorem c_require_sight (T : Txt w K mg) : Has P w K mg base "require_sight" 5 ["clock", "sight"] (sp_require_sight K) := by
  refine Has.of T.f_require_sight T.g_require_sight sc_require_sight (fun _ _ _ _ _ _ us hl => match us, hl with | [_, _], _ => rfl) (fun vs H Q E h => ?_) (fun f cdv A outer s H vs Q E hr h => ?_)
  · obtain ⟨B, R, hB, ⟨cv, sv, c, s, rfl, _⟩, _⟩ := h; rfl
  · obtain ⟨B, R, hB, ⟨cv, sv, c, s, rfl, hc, hs, ok, vs, rfl⟩, k⟩ := h
    refine ⟨_, (pss_cons (ps_set (i := 2) sc_require_sight.nd rfl (.inl rfl) (pc (c_sight_fault T) hr (pa_cons (pv 0) (pa_cons (pv 1) pa_nil))))
      (pss_one (ps_if (pt_cmpR (op_neE hr.units0) (pv 2) (pe_tup pa_nil) (nomark _)) (pss_one ps_never) pss_nil))), ?_⟩
    refine ⟨_, rfl, _, rfl, B, _, hB, ⟨cv, sv, c, s, rfl, hc, hs, ok, vs, rfl⟩, fun B1 H1 v e1 hv => ?_⟩
    obtain ⟨a, rfl, ha⟩ := hv
    refine ⟨_, rfl, by show 0 ≤ sizeLine; decide, fun p np => ⟨a, p, [], rfl, rfl, .inr ⟨(Same.new np).tup (e1.w.tup ha), SqT.of upd_same⟩, _, rfl, iteBF rfl ?_⟩⟩
    exact k _ _ _ (e1.trans (Ext.tmp e1.w _ np)) rfl
def sp_require_ball (K : PySem.W.Frag) : Sp := Pu fun B vs R => ∃ (v : V) (c : Clk) (i : Nat), vs = [v, .int (i : Int)] ∧ CK K B v c ∧ i < c.n ∧ R = fun _ v => v = .non
theorem c_require_ball (T : Txt w K mg) : Has P w K mg base "require_ball" 4 ["clock", "ball"] (sp_require_ball K) := by
  refine Has.of T.f_require_ball T.g_require_ball sc_require_ball (fun _ _ _ _ _ _ us hl => match us, hl with | [_, _], _ => rfl) (fun vs H Q E h => ?_) (fun f cdv A outer s H vs Q E hr h => ?_)
  · obtain ⟨B, R, hB, ⟨v, c, i, rfl, _⟩, _⟩ := h; rfl
  · obtain ⟨B, R, hB, ⟨v, c, i, rfl, hc, hi, rfl⟩, k⟩ := h
    refine ⟨_, (pss_one (ps_if (pt_not (pt_val (pc (c_is_ball T) hr (pa_cons (pv 0) (pa_cons (pv 1) pa_nil))))) (pss_one ps_never) pss_nil)), ?_⟩
    refine ⟨_, rfl, _, rfl, B, _, hB, ⟨v, c, (i : Int), rfl, hc, rfl⟩, fun B1 H1 v e1 hv => ?_⟩
    subst hv
    refine ⟨_, rfl, iteBF (by simp [hi]) ?_⟩
    exact k _ _ _ e1 rfl
def sp_require_tick : Sp := Pu fun B vs R => ∃ i : Int, vs = [.int i] ∧ R = fun _ v => v = .non
theorem c_require_tick (T : Txt w K mg) : Has P w K mg base "require_tick" 2 ["tick"] sp_require_tick := by
  refine Has.of T.f_require_tick T.g_require_tick sc_require_tick (fun _ _ _ _ _ _ us hl => match us, hl with | [_], _ => rfl) (fun vs H Q E h => ?_) (fun f cdv A outer s H vs Q E hr h => ?_)
  · obtain ⟨B, R, hB, ⟨i, rfl, _⟩, _⟩ := h; rfl
  · obtain ⟨B, R, hB, ⟨i, rfl, rfl⟩, k⟩ := h
    refine ⟨_, (pss_one (ps_if (pt_not (pt_val (pc (c_is_integer T) hr (pa_cons (pv 0) pa_nil)))) (pss_one ps_never) pss_nil)), ?_⟩
    refine ⟨_, rfl, B, _, hB, ⟨i, rfl, rfl⟩, fun B1 H1 v e1 hv => ?_⟩
    subst hv
    refine ⟨_, rfl, iteBF rfl ?_⟩
    exact k _ _ _ e1 rfl
def sp_require_at_least : Sp := Pu fun B vs R => ∃ i j : Int, vs = [.int i, .int j] ∧ j ≤ i ∧ R = fun _ v => v = .non
theorem c_require_at_least (T : Txt w K mg) : Has P w K mg base "require_at_least" 3 ["value", "least"] sp_require_at_least := by
  refine Has.of T.f_require_at_least T.g_require_at_least sc_require_at_least (fun _ _ _ _ _ _ us hl => match us, hl with | [_, _], _ => rfl) (fun vs H Q E h => ?_) (fun f cdv A outer s H vs Q E hr h => ?_)
  · obtain ⟨B, R, hB, ⟨i, j, rfl, _⟩, _⟩ := h; rfl
  · obtain ⟨B, R, hB, ⟨i, j, rfl, hij, rfl⟩, k⟩ := h
    refine ⟨_, (pss_one (ps_if (pt_not (pt_val (pc (c_is_at_least T) hr (pa_cons (pv 0) (pa_cons (pv 1) pa_nil))))) (pss_one ps_never) pss_nil)), ?_⟩
    refine ⟨_, rfl, _, rfl, B, _, hB, ⟨i, j, rfl, rfl⟩, fun B1 H1 v e1 hv => ?_⟩
    subst hv
    refine ⟨_, rfl, iteBF (by simp [hij]) ?_⟩
    exact k _ _ _ e1 rfl
def sp_turn_of (K : PySem.W.Frag) : Sp := Pu fun B vs R => ∃ (v : V) (c : Clk), vs = [v] ∧ CK K B v c ∧ c.Ok ∧ R = fun _ v => v = .int (prod c.rs : Nat)
theorem c_turn_of (T : Txt w K mg) : Has P w K mg base "turn_of" 1 ["clock"] (sp_turn_of K) := by
  refine Has.of T.f_turn_of T.g_turn_of sc_turn_of (fun _ _ _ _ _ _ us hl => match us, hl with | [_], _ => rfl) (fun vs H Q E h => ?_) (fun f cdv A outer s H vs Q E hr h => ?_)
  · obtain ⟨B, R, hB, ⟨v, c, rfl, _⟩, _⟩ := h; rfl
  · obtain ⟨B, R, hB, ⟨v, c, rfl, ⟨a, rv, rfl, ha, ⟨b, rls, rfl, hb, hp⟩⟩, ok, rfl⟩, k⟩ := h
    have hlr : rls.length = c.rs.length := Paired.length hp
    refine ⟨_, (pss_cons (ps_set (i := 1) sc_turn_of.nd rfl (.inl rfl) pe_int)
      (pss_cons (ps_for PassesOwn.never rfl (piL (K := K) rfl (pe_ix (xT (K := K) rfl) (pv 0) pe_int (fun _ _ => rfl))) (pg_tup rfl (pgs_cons (pg_name (i := 2) sc_turn_of.nd rfl (.inl rfl)) (pgs_cons (pg_name (i := 3) sc_turn_of.nd rfl (.inl rfl)) pgs_nil)))
      (pss_one (ps_aug (i := 1) sc_turn_of.nd rfl (.inl rfl) (pv 2) ip_mul)))
      (pss_one (ps_ret (pv 1))))), ?_⟩
    refine ⟨_, rfl, a, _, 1, _, rfl, rfl, hB.tup ha, atI_nat (j := 1) rfl, b, rfl, ⟨_, hB.seq hb⟩, for_it (walk_list rls) (fun i σ' H' => H' = H ∧ ∃ v2 v3, σ' = [some (.ref a), some (.int (prod (c.rs.take i) : Nat)), v2, v3])
      ⟨rfl, none, none, rfl⟩ (fun i σ' H' _ ⟨e, _⟩ => by rw [e]; exact hB.seq hb) ?_ ?_⟩
    · rintro i x σ' H1 H1' hi ⟨rfl, v2, v3, rfl⟩ ⟨rfl, hx⟩
      obtain ⟨r, hr1, q, rfl, hq⟩ := pat hp hx
      refine ⟨q, _, rfl, hB.tup hq, rfl, _, _, rfl, _, _, rfl, rfl, ?_⟩
      have h1 := prod_take_le ok.two i
      have h2 := prod_1728 ok
      refine ⟨_, rfl, _, rfl, _, _, rfl, rfl, .inl ⟨by omega, by omega⟩, ?_⟩
      refine ⟨rfl, some (.int (r.1 : Int)), some (.str (wayS r.2)), ?_⟩
      rw [prod_take hr1]
      simp only [Int.natCast_mul]
      rfl
    · rintro σ' H1 ⟨rfl, v2, v3, rfl⟩
      rw [List.take_of_length_le (by rw [hlr]; exact Nat.le_refl _)]
      exact ⟨_, rfl, Pu.val k hB rfl⟩
def sp_digits_of (K : PySem.W.Frag) : Sp := Pu fun B vs R => ∃ (v : V) (c : Clk) (t : Nat), vs = [v, .int (t : Int)] ∧ CK K B v c ∧ c.Ok ∧ R = fun B' v => LN K B' v (digs c.rs t)
theorem c_digits_of (T : Txt w K mg) : Has P w K mg base "digits_of" 1 ["clock", "rest"] (sp_digits_of K) := by
  refine Has.of T.f_digits_of T.g_digits_of sc_digits_of (fun _ _ _ _ _ _ us hl => match us, hl with | [_, _], _ => rfl) (fun vs H Q E h => ?_) (fun f cdv A outer s H vs Q E hr h => ?_)
  · obtain ⟨B, R, hB, ⟨v, c, t, rfl, _⟩, _⟩ := h; rfl
  · obtain ⟨B, R, hB, ⟨v, c, t, rfl, ⟨a, rv, rfl, ha, ⟨b, rls, rfl, hb, hp⟩⟩, ok, rfl⟩, k⟩ := h
    have hlr : rls.length = c.rs.length := Paired.length hp
    refine ⟨_, (pss_cons (ps_set (i := 2) sc_digits_of.nd rfl (.inl rfl) (pe_lst pa_nil))
      (pss_cons (ps_for PassesOwn.never rfl (piL (K := K) rfl (pe_ix (xT (K := K) rfl) (pv 0) pe_int (fun _ _ => rfl))) (pg_tup rfl (pgs_cons (pg_name (i := 3) sc_digits_of.nd rfl (.inl rfl)) (pgs_cons (pg_name (i := 4) sc_digits_of.nd rfl (.inl rfl)) pgs_nil)))
      (pss_cons (ps_asg (pe_callB call_divmod (by rfl) T.b_divmod (by decide +kernel) (pa_cons (pv 1) (pa_cons (pv 3) pa_nil))) (pg_tup rfl (pgs_cons (pg_name (i := 1) sc_digits_of.nd rfl (.inl rfl)) (pgs_cons (pg_name (i := 5) sc_digits_of.nd rfl (.inl rfl)) pgs_nil))))
      (pss_one (ps_expr (pe_bm PySem.F.plainAttrs_list PySem.F.slot_list_append PySem.F.type_list_append mt_append (pv 2) (pa_cons (pv 5) pa_nil))))))
      (pss_one (ps_ret (pv 2))))), ?_⟩
    refine ⟨by show 0 ≤ sizeLine; decide, fun l nl => ?_⟩
    have e1 : Ext B H B (upd H l (.lst [])) := Ext.tmp hB _ nl
    have m1 : Mine H B (upd H l (.lst [])) l (.lst []) := Mine.new (Ext.refl hB) nl
    refine ⟨_, rfl, a, _, 1, _, rfl, rfl, e1.bh.tup ha, atI_nat (j := 1) rfl, b, rfl, ⟨_, e1.bh.seq hb⟩, for_it (walk_list rls) (fun i σ' H' => ∃ B' v3 v4 v5, σ' = [some (.ref a), some (.int ((t / prod (c.rs.take i) : Nat) : Int)), some (.ref l), v3, v4, v5] ∧ Ext B H B' H' ∧ Mine H B' H' l (.lst (((digs c.rs t).take i).map fun n : Nat => V.int (n : Int))))
      ⟨B, none, none, none, by simp [prod]; rfl, e1, m1⟩ (fun i σ' H' _ ⟨B', _, _, _, _, e, _⟩ => e.bh.seq hb) ?_ ?_⟩
    · rintro i x σ' H2 H2' hi ⟨B2, v3, v4, v5, rfl, e2, m2⟩ ⟨rfl, hx⟩
      obtain ⟨r, hr1, q, rfl, hq⟩ := pat hp hx
      have hr2 := ok.two r (List.mem_of_getElem? hr1)
      have hr12 := ok.b12 r (List.mem_of_getElem? hr1)
      refine ⟨q, _, rfl, e2.bh.tup hq, rfl, _, _, rfl, _, _, rfl, rfl, ?_⟩
      refine ⟨_, rfl, _, rfl, _, _, rfl, ⟨by omega, by omega⟩, fun p np => ?_⟩
      refine ⟨p, _, rfl, SqT.of upd_same, rfl, _, _, rfl, _, _, rfl, rfl, ?_⟩
      have e3 := Ext.tmp e2.w (.tup [.int ((t / prod (c.rs.take i) : Nat) / (r.1 : Int)), .int ((t / prod (c.rs.take i) : Nat) % (r.1 : Int))]) np
      have m3 := m2.ext e3
      refine ⟨_, rfl, .inl ⟨rfl, _, SqL.of m3.h⟩, _, rfl, l, _, _, rfl, rfl, m3.h, ?_, ?_⟩
      · rw [List.length_map, List.length_take, digs_len]
        exact small1000 (by have := ok.l3; omega)
      refine ⟨B2, some (.int (r.1 : Int)), some (.str (wayS r.2)), some (.int ((t / prod (c.rs.take i) : Nat) % (r.1 : Int))), ?_, m3.set (e2.trans e3) _, ?_⟩
      · rw [prod_take hr1, ← Nat.div_div_eq_div_mul]
        simp only [Int.natCast_ediv]
        rfl
      · have hd := digs_get (t := t) hr1
        rw [take_snoc hd, List.map_append]
        have := m3.put (.lst (((digs c.rs t).take i).map (fun n : Nat => V.int (n : Int)) ++ [.int ((t / prod (c.rs.take i) : Nat) % (r.1 : Int))]))
        simpa [Int.natCast_emod] using this
    · rintro σ' H2 ⟨B2, v3, v4, v5, rfl, e2, m2⟩
      rw [List.take_of_length_le (by rw [hlr, digs_len]; exact Nat.le_refl _)] at m2
      exact ⟨_, rfl, k _ _ _ (m2.frz e2) ⟨l, rfl, SqL.of upd_same⟩⟩
def sp_ticks_past (K : PySem.W.Frag) : Sp := Pu fun B vs R => ∃ (cv sv : V) (c : Clk) (s : Sg Nat), vs = [cv, sv] ∧ CK K B cv c ∧ SG K B sv s ∧ c.Ok ∧ VS c s ∧ R = fun _ v => v = .int (val c.rs (cnts s) : Nat)
theorem c_ticks_past (T : Txt w K mg) : Has P w K mg base "ticks_past" 1 ["clock", "sight"] (sp_ticks_past K) := by
  refine Has.of T.f_ticks_past T.g_ticks_past sc_ticks_past (fun _ _ _ _ _ _ us hl => match us, hl with | [_, _], _ => rfl) (fun vs H Q E h => ?_) (fun f cdv A outer s0 H vs Q E hr h => ?_)
  · obtain ⟨B, R, hB, ⟨cv, sv, c, s, rfl, _⟩, _⟩ := h; rfl
  · obtain ⟨B, R, hB, ⟨cv, sv, c, s, rfl, ⟨a, rv, rfl, ha, ⟨b, rls, rfl, hb, hp⟩⟩, ⟨x, rvs, rfl, hx, hps⟩, ok, vs, rfl⟩, k⟩ := h
    have hlr : rls.length = c.rs.length := Paired.length hp
    cases hps with
    | @cons q0 _ rvs _ hq0 hps =>
    have hls : rvs.length = s.2.length := Paired.length hps
    have hvl := vs.len
    refine ⟨_, (pss_cons (ps_asg (pe_tup (pa_cons pe_int (pa_cons pe_int pa_nil))) (pg_tup rfl (pgs_cons (pg_name (i := 2) sc_ticks_past.nd rfl (.inl rfl)) (pgs_cons (pg_name (i := 3) sc_ticks_past.nd rfl (.inl rfl)) pgs_nil))))
      (pss_cons (ps_for PassesOwn.never rfl (pi_zip rfl T.b_zip (pa_cons (pe_ix (xT (K := K) rfl) (pv 0) pe_int (fun _ _ => rfl)) (pa_cons (pe_slice (slL (K := K) rfl) (pv 1) (po_some pe_int) po_none) pa_nil))) (pg_tup rfl (pgs_cons (pg_tup rfl (pgs_cons (pg_name (i := 4) sc_ticks_past.nd rfl (.inl rfl)) (pgs_cons (pg_name (i := 5) sc_ticks_past.nd rfl (.inl rfl)) pgs_nil))) (pgs_cons (pg_name (i := 6) sc_ticks_past.nd rfl (.inl rfl)) pgs_nil)))
      (pss_cons (ps_aug (i := 2) sc_ticks_past.nd rfl (.inl rfl) (pe_op op_mul (pv 3) (pe_callB (cLen (K := K) rfl) (by rfl) T.b_len (by decide +kernel) (pa_cons (pv 6) pa_nil))) ip_add)
      (pss_one (ps_aug (i := 3) sc_ticks_past.nd rfl (.inl rfl) (pv 4) ip_mul))))
      (pss_one (ps_ret (pv 2))))), ?_⟩
    refine ⟨by show 2 ≤ sizeLine; decide, fun p0 np0 => ?_⟩
    have e0 : Ext B H B (upd H p0 (.tup [.int 0, .int 1])) := Ext.tmp hB _ np0
    refine ⟨p0, _, rfl, SqT.of upd_same, rfl, _, _, rfl, _, _, rfl, rfl, ?_⟩
    refine ⟨_, rfl, a, _, 1, _, rfl, rfl, e0.bh.tup ha, atI_nat (j := 1) rfl, _, rfl, 1, rfl, x, _, rfl, e0.bh.seq hx, fun d nd => ?_⟩
    have e1 := e0.trans (Ext.new e0.w (.lst (cutV (q0 :: rvs) (some 1) none)) nd)
    rw [cut1, drop1_cons] at e1 ⊢
    refine ⟨b, d, rls, rvs, rfl, e1.bh.seq hb, SqL.of upd_same, for_it (walk_zip rls rvs (by omega)) (fun i σ' H' => ∃ B' v4 v5 v6, σ' = [some (.ref a), some (.ref x), some (.int (val (c.rs.take i) ((cnts s).take i) : Nat)), some (.int (prod (c.rs.take i) : Nat)), v4, v5, v6] ∧ Ext B H B' H' ∧ B' d = some (.lst rvs))
      ⟨_, none, none, none, rfl, e1, upd_same⟩ (fun i σ' H' _ ⟨B', _, _, _, _, e, hd⟩ => ⟨e.bh.seq hb, e.w.seq (SqL.of hd)⟩) ?_ ?_⟩
    · rintro i y σ' H2 H2' hi ⟨B2, v4, v5, v6, rfl, e2, hd⟩ ⟨Tp, rl, row, rfl, nT, rfl, h1, h2⟩
      obtain ⟨r, hr1, q, rfl, hq⟩ := pat hp h1
      obtain ⟨rw1, hrw, q2, rfl, hq2⟩ := pat hps h2
      have e3 : Ext B2 H2 B2 (upd H2 Tp (.tup [.ref q, .ref q2])) := Ext.tmp e2.w _ nT
      have E3 := e2.trans e3
      refine ⟨Tp, _, rfl, SqT.of upd_same, rfl, _, _, rfl, q, _, rfl, E3.bh.tup hq, rfl, _, _, rfl, _, _, rfl, rfl, _, _, rfl, rfl, ?_⟩
      have h3 := prod_take_le ok.two i
      have h4 := prod_1728 ok
      refine ⟨_, rfl, _, rfl, _, rfl, q2, _, rfl, .inl (E3.bh.seq hq2), _, _, rfl, rfl, .inl ⟨by omega, by omega⟩, _, _, rfl, rfl, ?_⟩
      refine ⟨_, rfl, _, rfl, _, _, rfl, rfl, .inl ⟨by omega, by omega⟩, ?_⟩
      have hc : (cnts s)[i]? = some rw1.length := by
        unfold cnts
        rw [List.getElem?_map, hrw]
        rfl
      refine ⟨B2, some (.int (r.1 : Int)), some (.str (wayS r.2)), some (.ref q2), ?_, E3, hd⟩
      rw [val_take hr1 hc, prod_take hr1]
      simp only [Int.natCast_mul, Int.natCast_add, List.length_map]
      rfl
    · rintro σ' H2 ⟨B2, v4, v5, v6, rfl, e2, hd⟩
      rw [List.take_of_length_le (by rw [hlr]; exact Nat.le_refl _), List.take_of_length_le (by unfold cnts; rw [List.length_map, hvl, hlr]; exact Nat.le_refl _)]
      exact ⟨_, rfl, k _ _ _ e2 rfl⟩
end
end BH
end
section
set_option linter.all false
namespace BM
/-! ### common divisors and rests -/
/-- what a pass of the extended division keeps -/
structure Inv2 (a s : Nat) (one other : Nat) (f g : Int) : Prop where
  gcd : Nat.gcd one other = Nat.gcd a s
  pos : 0 < one ∨ 0 < other
  df : (s : Int) ∣ f * a - one
  dg : (s : Int) ∣ g * a - other
  bound : f.natAbs * other + g.natAbs * one ≤ s
theorem Inv2.start (n s : Nat) (hs : 0 < s) : Inv2 n s (n % s) s 1 0 := by
  refine ⟨?_, .inr hs, ?_, ?_, by simp⟩
  · rw [Nat.gcd_comm n s, Nat.gcd_rec s n]
  · rw [Int.one_mul]
    exact ⟨((n / s : Nat) : Int), by
      have h := Nat.div_add_mod n s
      have : (n : Int) = s * (n / s : Nat) + (n % s : Nat) := by rw [← Int.natCast_mul, ← Int.natCast_add, h]
      omega⟩
  · rw [Int.zero_mul]
    exact ⟨-1, by omega⟩
theorem Inv2.next {a s one other : Nat} {f g : Int} (h : Inv2 a s one other f g) (ho : 0 < other) : Inv2 a s other (one % other) g (f - (one / other : Nat) * g) := by
  have hd := Nat.div_add_mod one other
  refine ⟨?_, .inl ho, h.dg, ?_, ?_⟩
  · rw [← h.gcd, Nat.gcd_comm one other, Nat.gcd_rec other one, Nat.gcd_comm]
  · have e : (f - (one / other : Nat) * g) * a - (one % other : Nat) = (f * a - one) - (one / other : Nat) * (g * a - other) := by
      have hd' : (one : Int) = other * (one / other : Nat) + (one % other : Nat) := by rw [← Int.natCast_mul, ← Int.natCast_add, hd]
      rw [Int.sub_mul, Int.mul_sub, Int.mul_assoc, Int.mul_comm ((one / other : Nat) : Int) (other : Int)]
      omega
    rw [e]
    exact Int.dvd_sub h.df (Int.dvd_mul_of_dvd_right h.dg)
  · have h1 : (f - (one / other : Nat) * g).natAbs ≤ f.natAbs + one / other * g.natAbs := by
      have := Int.natAbs_sub_le f ((one / other : Nat) * g)
      rw [Int.natAbs_mul, Int.natAbs_natCast] at this
      exact this
    have h2 := Nat.mul_le_mul_right other h1
    have h3 : g.natAbs * one = g.natAbs * (other * (one / other)) + g.natAbs * (one % other) := by rw [← Nat.mul_add, hd]
    have h4 : (f.natAbs + one / other * g.natAbs) * other = f.natAbs * other + g.natAbs * (other * (one / other)) := by
      rw [Nat.add_mul, Nat.mul_comm (one / other) g.natAbs, Nat.mul_assoc, Nat.mul_comm (one / other) other]
    have hb := h.bound
    omega
theorem Inv2.le {a s one other : Nat} {f g : Int} (h : Inv2 a s one other f g) (ho : 0 < other) (h1 : 0 < one) : f.natAbs ≤ s ∧ g.natAbs ≤ s := by
  have hb := h.bound
  have h2 : f.natAbs ≤ f.natAbs * other := Nat.le_mul_of_pos_right _ ho
  have h3 : g.natAbs ≤ g.natAbs * one := Nat.le_mul_of_pos_right _ h1
  omega
theorem lcm_eq (s m : Nat) : s * (m / Nat.gcd s m) = Nat.lcm s m := by
  unfold Nat.lcm
  rw [Nat.mul_div_assoc _ (Nat.gcd_dvd_right s m)]
/-- what joined_two answers -/
structure JoinOk (r s g m : Nat) (o : Option (Int × Int)) : Prop where
  no : o = none → ¬ (Nat.gcd s m : Int) ∣ ((g : Int) - r)
  yes : ∀ x w, o = some (x, w) → w = ((Nat.lcm s m : Nat) : Int) ∧ 0 ≤ x ∧ x < w ∧ ((s : Int) ∣ (x - r)) ∧ ((m : Int) ∣ (x - g))
theorem join_end {r s g m : Nat} {t : Int} (hs : 0 < s) (hm : 0 < m) (hd : (m : Int) ∣ ((r : Int) + t * s - g)) :
    JoinOk r s g m (some (((r : Int) + t * s) % ((Nat.lcm s m : Nat) : Int), ((Nat.lcm s m : Nat) : Int))) := by
  constructor
  · intro h; cases h
  intro x w h
  have e := Option.some.inj h
  have e1 := (Prod.mk.inj e).1
  have e2 := (Prod.mk.inj e).2
  subst e1; subst e2
  have hw : 0 < Nat.lcm s m := Nat.lcm_pos hs hm
  have hw' : (0 : Int) < ((Nat.lcm s m : Nat) : Int) := by omega
  have hsw : (s : Int) ∣ ((Nat.lcm s m : Nat) : Int) := Int.natCast_dvd_natCast.mpr (Nat.dvd_lcm_left s m)
  have hmw : (m : Int) ∣ ((Nat.lcm s m : Nat) : Int) := Int.natCast_dvd_natCast.mpr (Nat.dvd_lcm_right s m)
  have key : ∀ (k y : Int), k ∣ ((Nat.lcm s m : Nat) : Int) → k ∣ ((r : Int) + t * s - y) → k ∣ ((r : Int) + t * s) % ((Nat.lcm s m : Nat) : Int) - y := by
    intro k y hk hy
    have h1 := Int.mul_ediv_add_emod ((r : Int) + t * s) ((Nat.lcm s m : Nat) : Int)
    have h2 : ((r : Int) + t * s) % ((Nat.lcm s m : Nat) : Int) - y = ((r : Int) + t * s - y) - ((Nat.lcm s m : Nat) : Int) * (((r : Int) + t * s) / ((Nat.lcm s m : Nat) : Int)) := by omega
    rw [h2]
    exact Int.dvd_sub hy (Int.dvd_mul_of_dvd_left hk)
  refine ⟨rfl, Int.emod_nonneg _ (by omega), Int.emod_lt_of_pos _ hw', key _ _ hsw ?_, key _ _ hmw hd⟩
  refine ⟨t, ?_⟩
  rw [Int.mul_comm (s : Int) t]
  omega
/-- the rest by the inverse -/
theorem join_times {r s g m : Nat} {v : Int} (hs : 0 < s) (hm : 0 < m) (hd : (Nat.gcd s m : Int) ∣ ((g : Int) - r))
    (hv : ((m / Nat.gcd s m : Nat) : Int) ∣ (v * (s / Nat.gcd s m : Nat) - 1)) :
    (m : Int) ∣ ((r : Int) + (((g : Int) - r) / (Nat.gcd s m : Nat) * v % (m / Nat.gcd s m : Nat)) * s - g) := by
  obtain ⟨k, hk⟩ := hd
  have hg0 : 0 < Nat.gcd s m := Nat.gcd_pos_of_pos_left m hs
  have hgz : ((Nat.gcd s m : Nat) : Int) ≠ 0 := by omega
  have hq : ((g : Int) - r) / (Nat.gcd s m : Nat) = k := by rw [hk]; exact Int.mul_ediv_cancel_left k hgz
  rw [hq]
  have hs2 : s = Nat.gcd s m * (s / Nat.gcd s m) := (Nat.mul_div_cancel' (Nat.gcd_dvd_left s m)).symm
  have hm2 : m = Nat.gcd s m * (m / Nat.gcd s m) := (Nat.mul_div_cancel' (Nat.gcd_dvd_right s m)).symm
  generalize hp : m / Nat.gcd s m = p at *
  generalize hz : s / Nat.gcd s m = z at *
  generalize Nat.gcd s m = d at *
  have h1 := Int.mul_ediv_add_emod (k * v) (p : Int)
  obtain ⟨u, hu⟩ := hv
  have hmI : (m : Int) = d * p := by rw [← Int.natCast_mul, ← hm2]
  have hsI : (s : Int) = d * z := by rw [← Int.natCast_mul, ← hs2]
  rw [hmI, hsI]
  refine ⟨k * u - k * v / p * z, ?_⟩
  generalize k * v % (p : Int) = e at *
  generalize k * v / (p : Int) = q at *
  -- e = k v - p q;   d (e z - k) = d p (k u - q z);   v z - 1 = p u
  have e1 : (r : Int) - g = -(d * k) := by omega
  have e2 : e = k * v - p * q := by omega
  have e3 : (r : Int) + e * (d * z) - g = e * (d * z) - d * k := by omega
  rw [e3, e2]
  have e4 : v * z = p * u + 1 := by omega
  have e5 : (k * v - p * q) * (d * z) - d * k = d * (k * (v * z) - k - p * q * z) := by
    simp only [Int.sub_mul, Int.mul_sub, Int.mul_assoc]
    have a1 : k * (v * (d * z)) = d * (k * (v * z)) := by ac_rfl
    have a2 : (p : Int) * (q * (d * z)) = d * (p * (q * z)) := by ac_rfl
    rw [a1, a2]
    omega
  rw [e5, e4]
  have e6 : k * (p * u + 1) - k - p * q * z = p * (k * u - q * z) := by
    rw [Int.mul_add, Int.mul_sub, Int.mul_one, Int.mul_left_comm k p u, Int.mul_assoc p q z]
    omega
  rw [e6, Int.mul_assoc]
theorem coprime_parts {s m : Nat} (hs : 0 < s) : Nat.gcd (s / Nat.gcd s m) (m / Nat.gcd s m) = 1 := by
  rw [Nat.gcd_div (Nat.gcd_dvd_left s m) (Nat.gcd_dvd_right s m)]
  exact Nat.div_self (Nat.gcd_pos_of_pos_left m hs)
theorem int_emod_zero_iff {a : Int} {d : Nat} : a % (d : Int) = 0 ↔ (d : Int) ∣ a := ⟨Int.dvd_of_emod_eq_zero, Int.emod_eq_zero_of_dvd⟩
end BM
end
section
set_option Elab.async false
set_option linter.all false
set_option maxRecDepth 100000
set_option maxHeartbeats 4000000
namespace BH
open PySem PySem.Spec PyProof.Rows L2 BM
section
variable {P : Program} {w : World} {K : PySem.W.Frag} {mg : Str → Option Value} {base : Heap}
def sp_common_divisor : Sp := Pu fun B vs R => ∃ a b : Nat, vs = [.int (a : Int), .int (b : Int)] ∧ R = fun _ v => v = .int (Nat.gcd a b : Nat)
theorem c_common_divisor (T : Txt w K mg) : Has P w K mg base "common_divisor" 1 ["one", "other"] sp_common_divisor := by
  refine Has.of T.f_common_divisor T.g_common_divisor sc_common_divisor (fun _ _ _ _ _ _ us hl => match us, hl with | [_, _], _ => rfl) (fun vs H Q E h => ?_) (fun f cdv A outer s H vs Q E hr h => ?_)
  · obtain ⟨B, R, hB, ⟨a, b, rfl, _⟩, _⟩ := h; rfl
  · obtain ⟨B, R, hB, ⟨a, b, rfl, rfl⟩, k⟩ := h
    refine ⟨_, (pss_cons (ps_while PassesOwn.never (pt_cmpR op_gt (pv 1) pe_int (nomark _)) (pss_one (ps_par (i := 0) (j := 1) rfl sc_common_divisor.nd rfl rfl (by decide) rfl rfl (pa_cons (pv 1) (pa_cons (pe_op op_mod (pv 0) (pv 1)) pa_nil)) (by rfl))))
      (pss_one (ps_ret (pv 0)))), ?_⟩
    refine ⟨fun m σ H' => H' = H ∧ ∃ x y : Nat, σ = [some (.int (x : Int)), some (.int (y : Int))] ∧ Nat.gcd x y = Nat.gcd a b ∧ y = m, ⟨b, rfl, a, b, rfl, rfl, rfl⟩, ?_⟩
    rintro m σ H1 ⟨rfl, x, y, rfl, hg, rfl⟩
    by_cases hy : 0 < y
    · refine ⟨_, rfl, _, _, rfl, rfl, _, rfl, iteB (by simp [hy]) ?_⟩
      refine ⟨fun σ' H' => H' = H1 ∧ σ' = [some (.int (y : Int)), some (.int ((x % y : Nat) : Int))], ?_, ?_⟩
      · rintro σ' H' ⟨rfl, rfl⟩
        refine ⟨x % y, Nat.mod_lt _ hy, rfl, y, x % y, rfl, ?_, rfl⟩
        rw [← hg, Nat.gcd_comm x y, Nat.gcd_rec y x, Nat.gcd_comm]
      · exact ⟨_, rfl, _, rfl, _, rfl, _, _, rfl, rfl, by omega, _, _, rfl, rfl, rfl⟩
    · refine ⟨_, rfl, _, _, rfl, rfl, _, rfl, iteBF (by simp; omega) ?_⟩
      have e : y = 0 := by omega
      subst e
      rw [Nat.gcd_zero_right] at hg
      subst hg
      exact ⟨_, rfl, Pu.val k hB rfl⟩
def sp_common_multiple : Sp := Pu fun B vs R => ∃ a b : Nat, vs = [.int (a : Int), .int (b : Int)] ∧ 0 < a ∧ a < 2 ^ 2000 ∧ b < 2 ^ 2000 ∧ R = fun _ v => v = .int (Nat.lcm a b : Nat)
theorem c_common_multiple (T : Txt w K mg) : Has P w K mg base "common_multiple" 2 ["one", "other"] sp_common_multiple := by
  refine Has.of T.f_common_multiple T.g_common_multiple sc_common_multiple (fun _ _ _ _ _ _ us hl => match us, hl with | [_, _], _ => rfl) (fun vs H Q E h => ?_) (fun f cdv A outer s H vs Q E hr h => ?_)
  · obtain ⟨B, R, hB, ⟨a, b, rfl, _⟩, _⟩ := h; rfl
  · obtain ⟨B, R, hB, ⟨a, b, rfl, ha, hla, hlb, rfl⟩, k⟩ := h
    refine ⟨_, (pss_one (ps_ret (pe_op op_mulX (pe_op op_fdivW (pv 0) (pc (c_common_divisor T) hr (pa_cons (pv 0) (pa_cons (pv 1) pa_nil)))) (pv 1)))), ?_⟩
    refine ⟨_, rfl, _, rfl, _, rfl, B, _, hB, ⟨a, b, rfl, rfl⟩, fun B1 H1 v e1 hv => ?_⟩
    subst hv
    have hg := Nat.gcd_pos_of_pos_left b ha
    have hg2 : Nat.gcd a b ≤ a := Nat.gcd_le_left b ha
    refine ⟨_, _, rfl, rfl, wide_div (b := 2000) (by omega) (by rw [Int.natAbs_natCast]; exact Nat.lt_of_le_of_lt hg2 hla) (by decide) (by decide), _, rfl, _, _, rfl, rfl, ?_, ?_⟩
    · refine mulx_ok (a := 2000) (b := 2000) ?_ (by rw [Int.natAbs_natCast]; exact hlb) (by decide)
      rw [← Int.natCast_ediv, Int.natAbs_natCast]
      exact Nat.lt_of_le_of_lt (Nat.div_le_self _ _) hla
    · refine k _ _ _ e1 ?_
      show V.int _ = V.int _
      rw [← Int.natCast_ediv, ← Int.natCast_mul]
      congr 2
      unfold Nat.lcm
      rw [Nat.mul_comm a b, Nat.mul_div_assoc _ (Nat.gcd_dvd_left a b), Nat.mul_comm]
def sp_inverse_of : Sp := Pu fun B vs R => ∃ a s : Nat, vs = [.int (a : Int), .int (s : Int)] ∧ 0 < s ∧ s < 2 ^ 2000 ∧ Nat.gcd a s = 1 ∧ R = fun _ v => ∃ x : Int, v = .int x ∧ 0 ≤ x ∧ x < s ∧ ((s : Int) ∣ (x * a - 1))
theorem c_inverse_of (T : Txt w K mg) : Has P w K mg base "inverse_of" 1 ["number", "step"] sp_inverse_of := by
  refine Has.of T.f_inverse_of T.g_inverse_of sc_inverse_of (fun _ _ _ _ _ _ us hl => match us, hl with | [_, _], _ => rfl) (fun vs H Q E h => ?_) (fun f cdv A outer s0 H vs Q E hr h => ?_)
  · obtain ⟨B, R, hB, ⟨a, s, rfl, _⟩, _⟩ := h; rfl
  · obtain ⟨B, R, hB, ⟨a, s, rfl, hs, hsl, hg1, rfl⟩, k⟩ := h
    refine ⟨_, (pss_cons (ps_asg (pe_tup (pa_cons (pe_op op_mod (pv 0) (pv 1)) (pa_cons (pv 1) (pa_cons pe_int (pa_cons pe_int pa_nil))))) (pg_tup rfl (pgs_cons (pg_name (i := 2) sc_inverse_of.nd rfl (.inl rfl)) (pgs_cons (pg_name (i := 3) sc_inverse_of.nd rfl (.inl rfl)) (pgs_cons (pg_name (i := 4) sc_inverse_of.nd rfl (.inl rfl)) (pgs_cons (pg_name (i := 5) sc_inverse_of.nd rfl (.inl rfl)) pgs_nil))))))
      (pss_cons (ps_while PassesOwn.never (pt_cmpR op_gt (pv 3) pe_int (nomark _)) (pss_cons (ps_set (i := 6) sc_inverse_of.nd rfl (.inl rfl) (pe_op op_fdivW (pv 2) (pv 3)))
      (pss_cons (ps_par (i := 2) (j := 3) rfl sc_inverse_of.nd rfl rfl (by decide) rfl rfl (pa_cons (pv 3) (pa_cons (pe_op op_sub (pv 2) (pe_op op_mulX (pv 6) (pv 3))) pa_nil)) (by rfl))
      (pss_one (ps_par (i := 4) (j := 5) rfl sc_inverse_of.nd rfl rfl (by decide) rfl rfl (pa_cons (pv 5) (pa_cons (pe_op op_sub (pv 4) (pe_op op_mulX (pv 6) (pv 5))) pa_nil)) (by rfl))))))
      (pss_one (ps_ret (pe_op op_mod (pv 4) (pv 1)))))), ?_⟩
    refine ⟨_, rfl, _, rfl, _, _, rfl, rfl, by omega, _, rfl, by show 4 ≤ sizeLine; decide, fun p np => ?_⟩
    have e1 := Ext.tmp hB (.tup [.int ((a : Int) % s), .int (s : Int), .int 1, .int 0]) np
    refine ⟨p, _, rfl, SqT.of upd_same, rfl, _, _, rfl, _, _, rfl, _, _, rfl, _, _, rfl, rfl, ?_⟩
    refine ⟨fun m σ H' => Ext B H B H' ∧ ∃ (x y : Nat) (f g : Int) (v6 : Option V), σ = [some (.int (a : Int)), some (.int (s : Int)), some (.int (x : Int)), some (.int (y : Int)), some (.int f), some (.int g), v6] ∧ Inv2 a s x y f g ∧ x ≤ s ∧ y ≤ s ∧ g.natAbs ≤ s ∧ y = m, ⟨s, e1, a % s, s, 1, 0, none, rfl, Inv2.start a s hs, Nat.le_of_lt (Nat.mod_lt _ hs), Nat.le_refl _, Nat.zero_le _, rfl⟩, ?_⟩
    rintro m σ H1 ⟨e2, x, y, f1, g1, v6, rfl, I, hxs, hys, hgs, rfl⟩
    by_cases hy : 0 < y
    · refine ⟨_, rfl, _, _, rfl, rfl, _, rfl, iteB (by simp [hy]) ?_⟩
      have hdx : x / y ≤ s := Nat.le_trans (Nat.div_le_self _ _) hxs
      have bt : ((x : Int) / (y : Int)).natAbs < 2 ^ 2000 := by
        rw [← Int.natCast_ediv, Int.natAbs_natCast]
        exact Nat.lt_of_le_of_lt hdx hsl
      refine ⟨fun σ' H' => H' = H1 ∧ ∃ v6, σ' = [some (.int (a : Int)), some (.int (s : Int)), some (.int (y : Int)), some (.int ((x % y : Nat) : Int)), some (.int g1), some (.int (f1 - (x / y : Nat) * g1)), v6], ?_, ?_⟩
      · rintro σ' H' ⟨rfl, v, rfl⟩
        have hgn : (f1 - (x / y : Nat) * g1).natAbs ≤ s := by
          have hb := (I.next hy).bound
          have h3 : (f1 - (x / y : Nat) * g1).natAbs ≤ (f1 - (x / y : Nat) * g1).natAbs * y := Nat.le_mul_of_pos_right _ hy
          omega
        exact ⟨x % y, Nat.mod_lt _ hy, e2, y, x % y, g1, _, v, rfl, I.next hy, hys, Nat.le_trans (Nat.le_of_lt (Nat.mod_lt _ hy)) hys, hgn, rfl⟩
      · refine ⟨_, rfl, _, rfl, _, _, rfl, rfl, wide_div (b := 2000) (by omega) (by rw [Int.natAbs_natCast]; exact Nat.lt_of_le_of_lt hys hsl) (by decide) (by decide), ?_⟩
        refine ⟨_, rfl, _, rfl, _, rfl, _, rfl, _, _, rfl, rfl, mulx_ok (a := 2000) (b := 2000) bt (by rw [Int.natAbs_natCast]; exact Nat.lt_of_le_of_lt hys hsl) (by decide), _, _, rfl, rfl, _, _, rfl, ?_⟩
        refine ⟨_, rfl, _, rfl, _, rfl, _, rfl, _, _, rfl, rfl, ?_, _, _, rfl, rfl, _, _, rfl, ?_⟩
        · exact mulx_ok (a := 2000) (b := 2000) bt (Nat.lt_of_le_of_lt hgs hsl) (by decide)
        · refine ⟨rfl, some (.int ((x / y : Nat) : Int)), ?_⟩
          have : (x : Int) - (x : Int) / (y : Int) * (y : Int) = ((x % y : Nat) : Int) := by
            have := Nat.div_add_mod x y
            have h2 : (x : Int) = (y : Int) * ((x / y : Nat) : Int) + ((x % y : Nat) : Int) := by rw [← Int.natCast_mul, ← Int.natCast_add, this]
            rw [← Int.natCast_ediv, Int.mul_comm]
            omega
          show [some (V.int (a : Int)), some (V.int (s : Int)), some (V.int (y : Int)), some (V.int ((x : Int) - x / y * y)), some (V.int g1), some (V.int (f1 - x / y * g1)), some (V.int ((x : Int) / y))] = _
          rw [this]
          rfl
    · refine ⟨_, rfl, _, _, rfl, rfl, _, rfl, iteBF (by simp; omega) ?_⟩
      have e : y = 0 := by omega
      subst e
      have hg := I.gcd
      rw [Nat.gcd_zero_right, hg1] at hg
      subst hg
      refine ⟨_, rfl, _, rfl, _, _, rfl, rfl, by omega, ?_⟩
      refine k _ _ _ e2 ⟨_, rfl, Int.emod_nonneg _ (by omega), Int.emod_lt_of_pos _ (by omega), ?_⟩
      have h1 := Int.mul_ediv_add_emod f1 (s : Int)
      have h2 := I.df
      have h3 : f1 % s * a - 1 = (f1 * a - 1) - s * (f1 / s * a) := by
        have : f1 % s = f1 - s * (f1 / s) := by omega
        rw [this, Int.sub_mul, Int.mul_assoc]
        omega
      rw [h3]
      exact Int.dvd_sub h2 (Int.dvd_mul_right _ _)
def sp_joined_two (K : PySem.W.Frag) : Sp := Pu fun B vs R => ∃ (v1 v2 : V) (r s g m : Nat), vs = [v1, v2] ∧ P2 K B v1 (r, s) ∧ P2 K B v2 (g, m) ∧ 0 < s ∧ s < 2 ^ 1000 ∧ 0 < m ∧ m < 2 ^ 1000 ∧ r < 2 ^ 1000 ∧ g < 2 ^ 1000 ∧ R = fun B' v => ∃ o, O2 K B' v o ∧ JoinOk r s g m o
theorem c_joined_two (T : Txt w K mg) : Has P w K mg base "joined_two" 2 ["one", "other"] (sp_joined_two K) := by
  refine Has.of T.f_joined_two T.g_joined_two sc_joined_two (fun _ _ _ _ _ _ us hl => match us, hl with | [_, _], _ => rfl) (fun vs H Q E h => ?_) (fun f cdv A outer s0 H vs Q E hr h => ?_)
  · obtain ⟨B, R, hB, ⟨v1, v2, r, s, g, m, rfl, _⟩, _⟩ := h; rfl
  · obtain ⟨B, R, hB, ⟨v1, v2, r, s, g, m, rfl, ⟨a1, rfl, h1⟩, ⟨a2, rfl, h2⟩, hs, hsl, hm, hml, hrl, hgl, rfl⟩, k⟩ := h
    have hu := hu_of hr
    have hg0 := Nat.gcd_pos_of_pos_left m hs
    have hgs : Nat.gcd s m ≤ s := Nat.gcd_le_left m hs
    have hlt : (2 : Nat) ^ 1000 ≤ 2 ^ 2000 := Nat.pow_le_pow_right (by decide) (by decide)
    refine ⟨_, (pss_cons (ps_asg (pe_tup (pa_cons (pv 0) (pa_cons (pv 1) pa_nil))) (pg_tup rfl (pgs_cons (pg_tup rfl (pgs_cons (pg_name (i := 2) sc_joined_two.nd rfl (.inl rfl)) (pgs_cons (pg_name (i := 3) sc_joined_two.nd rfl (.inl rfl)) pgs_nil))) (pgs_cons (pg_tup rfl (pgs_cons (pg_name (i := 4) sc_joined_two.nd rfl (.inl rfl)) (pgs_cons (pg_name (i := 5) sc_joined_two.nd rfl (.inl rfl)) pgs_nil))) pgs_nil))))
      (pss_cons (ps_set (i := 6) sc_joined_two.nd rfl (.inl rfl) (pc (c_common_divisor T) hr (pa_cons (pv 3) (pa_cons (pv 5) pa_nil))))
      (pss_cons (ps_if (pt_cmpR op_ne (pe_op op_mod (pe_op op_sub (pv 4) (pv 2)) (pv 6)) pe_int (nomark _)) (pss_one (ps_ret pe_non)) pss_nil)
      (pss_cons (ps_set (i := 7) sc_joined_two.nd rfl (.inl rfl) (pe_op op_fdivW (pv 5) (pv 6)))
      (pss_cons (ps_set (i := 8) sc_joined_two.nd rfl (.inl rfl) (pe_ifExp (pt_cmpR op_gt (pv 7) pe_int (nomark _)) (pe_op op_mod (pe_op op_mulX (pe_op op_fdivW (pe_op op_sub (pv 4) (pv 2)) (pv 6)) (pc (c_inverse_of T) hr (pa_cons (pe_op op_fdivW (pv 3) (pv 6)) (pa_cons (pv 7) pa_nil)))) (pv 7)) pe_int))
      (pss_cons (ps_set (i := 9) sc_joined_two.nd rfl (.inl rfl) (pe_op op_mulX (pv 3) (pv 7)))
      (pss_one (ps_ret (pe_tup (pa_cons (pe_op op_mod (pe_op op_add (pv 2) (pe_op op_mulX (pv 8) (pv 3))) (pv 9)) (pa_cons (pv 9) pa_nil))))))))))), ?_⟩
    refine ⟨_, rfl, _, rfl, by show 2 ≤ sizeLine; decide, fun p np => ?_⟩
    have e1 := Ext.tmp hB (.tup [.ref a1, .ref a2]) np
    refine ⟨p, _, rfl, SqT.of upd_same, rfl, _, _, rfl, ⟨a1, _, rfl, e1.bh.tup h1, rfl, _, _, rfl, _, _, rfl, rfl, _, _, rfl, a2, _, rfl, e1.bh.tup h2, rfl, _, _, rfl, _, _, rfl, rfl, rfl, ?_⟩⟩
    refine ⟨_, rfl, _, rfl, B, _, e1.w, ⟨s, m, rfl, rfl⟩, fun B1 H1 v e2 hv => ?_⟩
    subst hv
    have E2 := e1.trans e2
    refine ⟨_, rfl, _, rfl, _, _, rfl, rfl, _, rfl, _, _, rfl, rfl, by omega, ?_⟩
    by_cases hd : ((Nat.gcd s m : Nat) : Int) ∣ ((g : Int) - r)
    · have e0 : ((g : Int) - r) % ((Nat.gcd s m : Nat) : Int) = 0 := Int.emod_eq_zero_of_dvd hd
      refine ⟨rfl, _, rfl, iteBF (by
        show (!decide (V.int (((g : Int) - r) % ((Nat.gcd s m : Nat) : Int)) = V.int 0)) = false
        rw [e0]
        simp) ?_⟩
      have hgw : CDivW 0 ((Nat.gcd s m : Nat) : Int) := wide_div (b := 1000) (by omega) (by rw [Int.natAbs_natCast]; exact Nat.lt_of_le_of_lt hgs hsl) (by decide) (by decide)
      have hp0 : 0 < m / Nat.gcd s m := Nat.div_pos (Nat.le_of_dvd hm (Nat.gcd_dvd_right s m)) hg0
      have hpl : m / Nat.gcd s m < 2 ^ 1000 := Nat.lt_of_le_of_lt (Nat.div_le_self _ _) hml
      have hpl2 : m / Nat.gcd s m < 2 ^ 2000 := Nat.lt_of_lt_of_le hpl hlt
      refine ⟨_, rfl, _, rfl, _, _, rfl, rfl, hgw, ?_⟩
      by_cases h1 : 1 < m / Nat.gcd s m
      · refine ⟨_, rfl, _, _, rfl, rfl, _, rfl, iteB (decide_eq_true (by show (1 : Int) < ((m / Nat.gcd s m : Nat) : Int); omega)) ?_⟩
        refine ⟨_, rfl, _, rfl, _, _, rfl, rfl, _, rfl, _, _, rfl, rfl, hgw, ?_⟩
        refine ⟨_, rfl, _, rfl, _, _, rfl, rfl, hgw, _, rfl, B1, _, E2.w, ⟨s / Nat.gcd s m, m / Nat.gcd s m, rfl, hp0, hpl2, coprime_parts hs, rfl⟩, fun B2 H2 v e3 hv => ?_⟩
        obtain ⟨x, rfl, hx0, hxl, hxd⟩ := hv
        have hq : (((g : Int) - r) / ((Nat.gcd s m : Nat) : Int)).natAbs < 2 ^ 1001 := by
          have h2 : ((g : Int) - r).natAbs < 2 ^ 1001 := by
            have : (2 : Nat) ^ 1001 = 2 ^ 1000 + 2 ^ 1000 := by rw [Nat.pow_succ, Nat.mul_two]
            rw [this]
            omega
          exact Nat.lt_of_le_of_lt (Int.natAbs_ediv_le_natAbs _ _) h2
        refine ⟨_, _, rfl, rfl, mulx_ok (a := 1001) (b := 1000) hq (Nat.lt_of_le_of_lt (by omega) hpl) (by decide), ?_⟩
        refine ⟨_, rfl, _, _, rfl, rfl, (by show (0 : Int) < ((m / Nat.gcd s m : Nat) : Int); omega), ?_⟩
        refine ⟨_, rfl, _, rfl, _, _, rfl, rfl, mulx_ok (a := 1000) (b := 1000) (by rw [Int.natAbs_natCast]; exact hsl) (by rw [← Int.natCast_ediv, Int.natAbs_natCast]; exact hpl) (by decide), ?_⟩
        have hjt := join_times (v := x) hs hm hd hxd
        have htl : (((g : Int) - r) / ((Nat.gcd s m : Nat) : Int) * x % ((m / Nat.gcd s m : Nat) : Int)).natAbs < 2 ^ 1000 := by
          have h2 := Int.emod_nonneg (((g : Int) - r) / ((Nat.gcd s m : Nat) : Int) * x) (b := ((m / Nat.gcd s m : Nat) : Int)) (by omega)
          have h3 := Int.emod_lt_of_pos (((g : Int) - r) / ((Nat.gcd s m : Nat) : Int) * x) (b := ((m / Nat.gcd s m : Nat) : Int)) (by omega)
          exact Nat.lt_of_le_of_lt (by omega) hpl
        refine ⟨_, rfl, _, rfl, _, rfl, _, _, rfl, rfl, mulx_ok (a := 1000) (b := 1000) htl (by rw [Int.natAbs_natCast]; exact hsl) (by decide), _, _, rfl, rfl, _, rfl, _, _, rfl, rfl, ?_, ?_⟩
        · show (0 : Int) < (s : Int) * ((m / Nat.gcd s m : Nat) : Int)
          rw [← Int.natCast_mul]
          have := Nat.mul_pos hs hp0
          omega
        refine ⟨_, rfl, by show 2 ≤ sizeLine; decide, fun p np => ?_⟩
        refine k _ _ _ (E2.trans (e3.trans (Ext.new e3.w _ np))) ⟨some (_, _), ⟨p, rfl, SqT.of upd_same⟩, ?_⟩
        have hje := join_end hs hm hjt
        rw [← lcm_eq] at hje
        exact hje
      · refine ⟨_, rfl, _, _, rfl, rfl, _, rfl, iteBF (decide_eq_false (by show ¬ (1 : Int) < ((m / Nat.gcd s m : Nat) : Int); omega)) ?_⟩
        have hp1 : m / Nat.gcd s m = 1 := by omega
        refine ⟨_, rfl, _, rfl, _, _, rfl, rfl, mulx_ok (a := 1000) (b := 1000) (by rw [Int.natAbs_natCast]; exact hsl) (by rw [← Int.natCast_ediv, Int.natAbs_natCast]; exact hpl) (by decide), ?_⟩
        refine ⟨_, rfl, _, rfl, _, rfl, _, _, rfl, rfl, mulx_ok (a := 1) (b := 1000) (by decide) (by rw [Int.natAbs_natCast]; exact hsl) (by decide), _, _, rfl, rfl, _, rfl, _, _, rfl, rfl, ?_, ?_⟩
        · show (0 : Int) < (s : Int) * ((m / Nat.gcd s m : Nat) : Int)
          rw [← Int.natCast_mul]
          have := Nat.mul_pos hs hp0
          omega
        refine ⟨_, rfl, by show 2 ≤ sizeLine; decide, fun p np => ?_⟩
        refine k _ _ _ (E2.trans (Ext.new E2.w _ np)) ⟨some (_, _), ⟨p, rfl, SqT.of upd_same⟩, ?_⟩
        have hmd : (m : Int) ∣ ((r : Int) + 0 * s - g) := by
          have hmg : m = Nat.gcd s m := by
            have := Nat.div_add_mod m (Nat.gcd s m)
            have h0 := Nat.mod_eq_zero_of_dvd (Nat.gcd_dvd_right s m)
            rw [hp1, h0] at this
            omega
          obtain ⟨kk, hk⟩ := hd
          rw [← hmg] at hk
          exact ⟨-kk, by rw [Int.mul_neg]; omega⟩
        have hje := join_end hs hm hmd
        rw [← lcm_eq] at hje
        exact hje
    · refine ⟨rfl, _, rfl, iteB (by
        show (!decide (V.int (((g : Int) - r) % ((Nat.gcd s m : Nat) : Int)) = V.int 0)) = true
        simp only [Bool.not_eq_true', decide_eq_false_iff_not]
        intro h
        exact hd (Int.dvd_of_emod_eq_zero (V.int.inj h))) ?_⟩
      exact k _ _ _ E2 ⟨none, rfl, fun _ => hd, fun _ _ h => by cases h⟩
/-- rows of rests and steps -/
def Row2 (r : Nat × Nat) : Prop := r.1 < r.2 ∧ r.2 ≤ 100
structure RestsOk (rows : List (Nat × Nat)) (o : Option (Int × Int)) : Prop where
  some : ∀ x w, o = some (x, w) → 0 ≤ x ∧ x < w ∧ w ≤ 100 ^ rows.length ∧ ∀ r ∈ rows, ((r.2 : Int) ∣ (x - r.1)) ∧ ((r.2 : Int) ∣ w)
  lcm : ∀ x w, o = .some (x, w) → ∀ M : Nat, (∀ r ∈ rows, r.2 ∣ M) → w ∣ (M : Int)
  one : ∀ r, rows = [r] → o = .some ((r.1 : Int), (r.2 : Int))
def P2n (K : PySem.W.Frag) (B : Hp) (v : V) (x : Nat × Nat) : Prop := P2 K B v (x.1, x.2)
def sp_joined_rests (K : PySem.W.Frag) : Sp := Pu fun B vs R => ∃ (a : Addr) (ps : List V) (rows : List (Nat × Nat)), vs = [.ref a] ∧ SqL K B a ps ∧ Paired (P2n K B) ps rows ∧ rows.length ≤ 100 ∧ (∀ r ∈ rows, Row2 r) ∧ R = fun B' v => ∃ o, O2 K B' v o ∧ RestsOk rows o
theorem c_joined_rests (T : Txt w K mg) : Has P w K mg base "joined_rests" 3 ["rows"] (sp_joined_rests K) := by
  refine Has.of T.f_joined_rests T.g_joined_rests sc_joined_rests (fun _ _ _ _ _ _ us hl => match us, hl with | [_], _ => rfl) (fun vs H Q E h => ?_) (fun f cdv A outer s0 H vs Q E hr h => ?_)
  · obtain ⟨B, R, hB, ⟨a, ps, rows, rfl, _⟩, _⟩ := h; rfl
  · obtain ⟨B, R, hB, ⟨a, ps, rows, rfl, ha, hp, hl, hok, rfl⟩, k⟩ := h
    have hlp : ps.length = rows.length := Paired.length hp
    refine ⟨_, (pss_cons (ps_set (i := 1) sc_joined_rests.nd rfl (.inl rfl) (pe_tup (pa_cons pe_int (pa_cons pe_int pa_nil))))
      (pss_cons (ps_for PassesOwn.never rfl (piL (K := K) rfl (pv 0)) (pg_name (i := 2) sc_joined_rests.nd rfl (.inl rfl))
      (pss_cons (ps_set (i := 1) sc_joined_rests.nd rfl (.inl rfl) (pc (c_joined_two T) hr (pa_cons (pv 1) (pa_cons (pv 2) pa_nil))))
      (pss_one (ps_if (pt_cmpR op_isN (pv 1) pe_non (nomark _)) (pss_one (ps_ret pe_non)) pss_nil))))
      (pss_one (ps_ret (pv 1))))), ?_⟩
    refine ⟨by show 2 ≤ sizeLine; decide, fun p np => ?_⟩
    have e1 := Ext.new hB (.tup [.int 0, .int 1]) np
    refine ⟨_, rfl, a, rfl, ⟨_, e1.bh.seq ha⟩, for_it (walk_list ps) (fun i σ' H' => ∃ B' v v2 x m, σ' = [some (.ref a), some v, v2] ∧ Ext B H B' H' ∧ P2 K B' v ((x : Nat), (m : Nat)) ∧ x < m ∧ m ≤ 100 ^ i ∧ (∀ j r, j < i → rows[j]? = some r → ((r.2 : Int) ∣ ((x : Int) - r.1)) ∧ r.2 ∣ m) ∧ (i = 0 → x = 0 ∧ m = 1) ∧ (i = 1 → ∀ r, rows[0]? = some r → x = r.1 ∧ m = r.2) ∧ (∀ M : Nat, (∀ (j : Nat) (r : Nat × Nat), j < i → rows[j]? = some r → r.2 ∣ M) → m ∣ M))
      ⟨_, _, none, 0, 1, rfl, e1, ⟨p, rfl, SqT.of upd_same⟩, by omega, by omega, fun j r h => by omega, fun _ => ⟨rfl, rfl⟩, fun h => (by omega), fun M _ => Nat.one_dvd M⟩ (fun i σ' H' _ ⟨B', _, _, _, _, _, e, _⟩ => e.bh.seq ha) ?_ ?_⟩
    · rintro i y σ' H2 H2' hi ⟨B2, v, v2, x, m, rfl, e2, hv, hx, hm, hc, h0, h1, hlcm⟩ ⟨rfl, hy⟩
      obtain ⟨r, hr1, hr2⟩ := pat hp hy
      have hrk := hok r (List.mem_of_getElem? hr1)
      have hi' : i < rows.length := by omega
      have hm2 : m < 2 ^ 1000 := by
        refine Nat.lt_of_le_of_lt hm (Nat.lt_of_le_of_lt (Nat.pow_le_pow_right (by decide) (show i ≤ 100 by omega)) ?_)
        decide +kernel
      have hb : (100 : Nat) < 2 ^ 1000 := by decide +kernel
      refine ⟨_, rfl, _, rfl, B2, _, e2.w, ⟨_, _, x, m, r.1, r.2, rfl, hv, hr2.mono e2.b, by omega, hm2, ?_, ?_, Nat.lt_trans hx hm2, ?_, rfl⟩, fun B3 H3 v3 e3 hv3 => ?_⟩
      · have := hrk.1; omega
      · exact Nat.lt_of_le_of_lt hrk.2 hb
      · exact Nat.lt_trans hrk.1 (Nat.lt_of_le_of_lt hrk.2 hb)
      obtain ⟨o, ho, jo⟩ := hv3
      have E3 := e2.trans e3
      have hm0 : 0 < m := by omega
      cases o with
      | none =>
        have e : v3 = .non := ho
        subst e
        refine ⟨_, rfl, rfl, _, rfl, iteB (by simp) ?_⟩
        refine k _ _ _ E3 ⟨none, rfl, ?_, ?_, ?_⟩
        · intro x w h; cases h
        · intro x w h; cases h
        · intro q hq
          exfalso
          have hi0 : i = 0 := by rw [hq] at hi'; simpa using hi'
          obtain ⟨hx0, hm1⟩ := h0 hi0
          subst hx0; subst hm1
          refine jo.no rfl ?_
          rw [Nat.gcd_one_left]
          exact Int.one_dvd _
      | some o =>
        obtain ⟨x', w'⟩ := o
        obtain ⟨p3, rfl, hp3⟩ : P2 K B3 v3 (x', w') := ho
        refine ⟨_, rfl, rfl, _, rfl, iteBF (by simp) ?_⟩
        obtain ⟨hw, hx0, hxw, hd1, hd2⟩ := jo.yes x' w' rfl
        subst hw
        obtain ⟨X, rfl⟩ := Int.eq_ofNat_of_zero_le hx0
        refine ⟨B3, _, some _, X, Nat.lcm m r.2, rfl, E3, ⟨p3, rfl, hp3⟩, by omega, ?_, ?_, fun h => (by omega), ?_, fun M hM => Nat.lcm_dvd (hlcm M fun j q hj hq => hM j q (by omega) hq) (hM i r (by omega) hr1)⟩
        · refine Nat.le_trans (Nat.le_of_dvd (Nat.mul_pos hm0 (by have := hrk.1; omega)) (Nat.lcm_dvd_mul m r.2)) ?_
          rw [Nat.pow_succ]
          exact Nat.mul_le_mul hm hrk.2
        · intro j q hj hq
          by_cases hji : j = i
          · subst hji
            rw [hr1] at hq
            have := Option.some.inj hq
            subst this
            exact ⟨hd2, Nat.dvd_lcm_right _ _⟩
          · obtain ⟨c1, c2⟩ := hc j q (by omega) hq
            refine ⟨?_, Nat.dvd_trans c2 (Nat.dvd_lcm_left _ _)⟩
            have c3 : (q.2 : Int) ∣ ((X : Int) - x) := Int.dvd_trans (Int.natCast_dvd_natCast.mpr c2) hd1
            have := Int.dvd_add c3 c1
            have e : (X : Int) - x + (x - q.1) = X - q.1 := by omega
            rwa [e] at this
        · intro hi1 q hq
          have hi0 : i = 0 := by omega
          obtain ⟨hx0, hm1⟩ := h0 hi0
          subst hi0
          rw [hr1] at hq
          have := Option.some.inj hq
          subst this
          subst hm1
          have hl1 : Nat.lcm 1 r.2 = r.2 := Nat.lcm_one_left r.2
          rw [hl1] at hxw ⊢
          refine ⟨?_, rfl⟩
          obtain ⟨kk, hk⟩ := hd2
          have h1 := hrk.1
          have hk0 : kk = 0 := by
            have hlt : -(r.2 : Int) < r.2 * kk ∧ (r.2 : Int) * kk < r.2 := by omega
            by_cases hkp : 0 < kk
            · have : (r.2 : Int) * 1 ≤ r.2 * kk := Int.mul_le_mul_of_nonneg_left (by omega) (by omega)
              omega
            · by_cases hkn : kk < 0
              · have : (r.2 : Int) * kk ≤ r.2 * (-1) := Int.mul_le_mul_of_nonneg_left (by omega) (by omega)
                omega
              · omega
          subst hk0
          omega
    · rintro σ' H2 ⟨B2, v, v2, x, m, rfl, e2, hv, hx, hm, hc, h0, h1, hlcm⟩
      refine ⟨_, rfl, k _ _ _ e2 ⟨some ((x : Int), (m : Int)), hv, ?_⟩⟩
      rw [hlp] at hm hc h0 h1 hlcm
      refine ⟨fun x' w' h => ?_, fun x' w' h M hM => ?_, fun r hr => ?_⟩
      · have e := Option.some.inj h
        have e1 := (Prod.mk.inj e).1
        have e2 := (Prod.mk.inj e).2
        subst e1; subst e2
        refine ⟨by omega, by omega, by exact_mod_cast hm, fun r hr => ?_⟩
        obtain ⟨j, hj⟩ := List.mem_iff_getElem?.mp hr
        have hjl := (List.getElem?_eq_some_iff.mp hj).1
        have := hc j r hjl hj
        exact ⟨this.1, Int.natCast_dvd_natCast.mpr this.2⟩
      · have e := Option.some.inj h
        have e2 := (Prod.mk.inj e).2
        subst e2
        exact Int.natCast_dvd_natCast.mpr (hlcm M fun j r hj hr => hM r (List.mem_of_getElem? hr))
      · subst hr
        have := h1 rfl r rfl
        rw [this.1, this.2]
end
end BH
end
section
set_option Elab.async false
set_option linter.all false
set_option maxRecDepth 100000
set_option maxHeartbeats 4000000
namespace BH
open PySem PySem.Spec PyProof.Rows L2 BM
/-! ### a def that changes one old thing: the one at d -/
def Wo (H : Hp) (d : Addr) : Hp := fun a => if a = d then none else H a
theorem Wo.at {H : Hp} {d : Addr} : Wo H d d = none := if_pos rfl
theorem Wo.other {H : Hp} {d a : Addr} (h : a ≠ d) : Wo H d a = H a := if_neg h
theorem Wo.sub {H : Hp} {d a : Addr} {o : HO} (h : Wo H d a = some o) : H a = some o := by
  by_cases e : a = d
  · subst e; rw [Wo.at] at h; cases h
  · rwa [Wo.other e] at h
theorem Wo.ne {H : Hp} {d a : Addr} (h : Wo H d a ≠ none) : H a ≠ none ∧ a ≠ d := by
  by_cases e : a = d
  · subst e; exact absurd Wo.at h
  · rw [Wo.other e] at h; exact ⟨h, e⟩
theorem Wo.same {H H' : Hp} {d : Addr} (s : Same H H') : Same (Wo H d) H' := fun b x q => s b x (Wo.sub q)
theorem Wo.sameB {B H : Hp} {d : Addr} (s : Same B H) (hb : B d = none) : Same B (Wo H d) := fun b x q => by
  rw [Wo.other (ne_of_none q hb)]
  exact s b x q
theorem Ext.wo {B H B1 H1 : Hp} {d : Addr} (e : Ext B H B1 H1) : Ext B (Wo H d) B1 H1 := ⟨e.b, e.w, Wo.same e.h, fun a ha => e.n a (Wo.ne ha).1⟩
theorem Ext.transW {B H B1 H1 B2 H2 : Hp} {d : Addr} (hd : H d = none) (e : Ext B H B1 H1) (f : Ext B1 (Wo H1 d) B2 H2) : Ext B H B2 H2 :=
  ⟨e.b.trans f.b, f.w, fun b x q => f.h b x (by rw [Wo.other (ne_of_none q hd)]; exact e.h b x q), fun a ha => by
    have had : a ≠ d := fun z => ha (by rw [z]; exact hd)
    have h1 : Wo H1 d a ≠ none := fun z => by
      rw [Wo.other had] at z
      cases q : H a with
      | none => exact ha q
      | some o => rw [e.h a o q] at z; cases z
    rw [f.n a h1, e.n a ha]⟩
theorem Mine.wo {H0 B H B1 H1 : Hp} {p d : Addr} {o : HO} (m : Mine H0 B H p o) (n : p ≠ d) (e : Ext B (Wo H d) B1 H1) : Mine H0 B1 H1 p o := by
  have h1 : Wo H d p = some o := by rw [Wo.other n]; exact m.h
  exact ⟨m.z, by rw [e.n p (by rw [h1]; exact fun q => nomatch q)]; exact m.b, e.h _ _ h1⟩
theorem map_getD (q : List Nat) {i : Nat} (h : i < q.length) : (q.map fun n : Nat => V.int (n : Int))[i]? = some (V.int (q.getD i 0 : Nat)) := by
  rw [List.getElem?_map, List.getD_eq_getElem?_getD, List.getElem?_eq_getElem h]
  rfl
theorem ys_of {l : List Nat} {ys : List V} (hl : ys.length = l.length) (h : ∀ i y, ys[i]? = some y → y = V.int (l.getD i 0 : Nat)) : ys = l.map fun n : Nat => V.int (n : Int) := by
  apply List.ext_getElem?
  intro i
  by_cases hi : i < ys.length
  · rw [List.getElem?_eq_getElem hi, map_getD l (by omega)]
    exact congrArg some (h i _ (List.getElem?_eq_getElem hi))
  · rw [List.getElem?_eq_none (by omega), List.getElem?_eq_none (by simp; omega)]
theorem rgV_nat (n : Nat) : rgV 0 (n : Int) = (List.range n).map fun n : Nat => V.int (n : Int) := by
  unfold rgV
  rw [show ((n : Int) - 0).toNat = n by omega]
  apply List.map_congr_left
  intro i _
  rw [Int.zero_add]
/-! ### runs kept -/
/-- the row of a run of the first rails -/
def rrow (rs : List Rail) (r L : Nat) : List Nat := runL (rs.take r).reverse (List.range L)
theorem runL_at (rr : List Rail) (q : List Nat) : runL rr q = (runL rr (List.range q.length)).map (fun i => q.getD i 0) := by
  rw [← runL_map, by_places]
theorem rep_snoc {f : List Nat → List Nat} {g : Nat} {q1 : List Nat} : ∀ (i : Nat) (q : List Nat), (rep f i q).1.length = i → f (rep f i q).2 = g :: q1 → rep f (i + 1) q = ((rep f i q).1 ++ [g], q1)
  | 0, q, _, h => by
    have h' : f q = g :: q1 := h
    simp [rep, h']
  | i + 1, q, hl, h => by
    cases hq : f q with
    | nil =>
      have e : rep f (i + 1) q = ([], []) := by rw [rep, hq]
      rw [e] at hl
      simp at hl
    | cons a b =>
      have e : rep f (i + 1) q = (a :: (rep f i b).1, (rep f i b).2) := by rw [rep, hq]
      have e2 : rep f (i + 1 + 1) q = (a :: (rep f (i + 1) b).1, (rep f (i + 1) b).2) := by rw [rep, hq]
      rw [e] at hl h ⊢
      have ih := rep_snoc i b (by simpa using hl) h
      rw [e2, ih]
      rfl
/-- one more ball of a run of runs -/
theorem run_turnQ {rr : List Rail} (h2 : two rr) {q : List Nat} {i : Nat} (h : need rr + (i + 1) ≤ q.length + 1) :
    ∃ g rest, runL rr (List.range (rep (runL rr) i q).2.length) = g :: rest ∧ g < (rep (runL rr) i q).2.length ∧ (∀ x ∈ rest, x < (rep (runL rr) i q).2.length) ∧
      rep (runL rr) (i + 1) q = ((rep (runL rr) i q).1 ++ [(rep (runL rr) i q).2.getD g 0], rest.map fun j => (rep (runL rr) i q).2.getD j 0) ∧
      need rr ≤ (rep (runL rr) i q).2.length ∧ (rep (runL rr) i q).2.length ≤ q.length ∧ (rep (runL rr) i q).1.length = i ∧ rest.length + 1 = (rep (runL rr) i q).2.length := by
  have hl := rep_len (f := runL rr) (m := need rr) (fun l hl => runL_len rr h2 l hl) (need_pos rr) i q (by omega)
  have hn : need rr ≤ (rep (runL rr) i q).2.length := by omega
  have hp := runL_perm rr h2 (List.range (rep (runL rr) i q).2.length) (by rw [List.length_range]; exact hn)
  have hlen := hp.length_eq
  rw [List.length_range] at hlen
  cases hr : runL rr (List.range (rep (runL rr) i q).2.length) with
  | nil => rw [hr] at hlen; have := need_pos rr; simp at hlen; omega
  | cons g rest =>
    rw [hr] at hp hlen
    have hm : ∀ x ∈ g :: rest, x < (rep (runL rr) i q).2.length := fun x hx => List.mem_range.mp (hp.mem_iff.mp hx)
    refine ⟨g, rest, rfl, hm g List.mem_cons_self, fun x hx => hm x (List.mem_cons_of_mem _ hx), ?_, hn, by omega, hl.1, by simpa using hlen⟩
    refine rep_snoc i _ hl.1 ?_
    rw [runL_at, hr]
    rfl
theorem run_turn {rr : List Rail} (h2 : two rr) {L i : Nat} (h : need rr + (i + 1) ≤ L + 1) :
    ∃ g rest, runL rr (List.range (rep (runL rr) i (List.range L)).2.length) = g :: rest ∧ g < (rep (runL rr) i (List.range L)).2.length ∧ (∀ x ∈ rest, x < (rep (runL rr) i (List.range L)).2.length) ∧
      rep (runL rr) (i + 1) (List.range L) = ((rep (runL rr) i (List.range L)).1 ++ [(rep (runL rr) i (List.range L)).2.getD g 0], rest.map fun j => (rep (runL rr) i (List.range L)).2.getD j 0) ∧
      need rr ≤ (rep (runL rr) i (List.range L)).2.length ∧ (rep (runL rr) i (List.range L)).2.length ≤ L ∧ (rep (runL rr) i (List.range L)).1.length = i ∧ rest.length + 1 = (rep (runL rr) i (List.range L)).2.length := by
  have := run_turnQ h2 (q := List.range L) (i := i) (by rw [List.length_range]; exact h)
  rwa [List.length_range (n := L)] at this
theorem two_take {rs : List Rail} (h : two rs) (r : Nat) : two (rs.take r).reverse := two_reverse fun x hx => h x (List.mem_of_mem_take hx)
theorem need_take {rs : List Rail} {r b : Nat} {w : Bool} (h : rs[r]? = some (b, w)) (h2 : 2 ≤ b) : need (rs.take (r + 1)) + 1 = need (rs.take r).reverse + b := by
  rw [take_snoc h, need_append, need_reverse]
  show _ = _
  simp only [need]
  omega
theorem rrow_succ {rs : List Rail} {r b : Nat} {w : Bool} (h : rs[r]? = some (b, w)) (L : Nat) : rrow rs (r + 1) L = runL ((b, w) :: (rs.take r).reverse) (List.range L) := by
  unfold rrow
  rw [take_snoc h, List.reverse_append]
  rfl
/-- what is kept -/
structure Memo (K : PySem.W.Frag) (B : Hp) (n : Nat) (rs : List Rail) (kvs : List (List Key × V)) : Prop where
  nd : (kvs.map (·.1)).Nodup
  ok : ∀ p ∈ kvs, ∃ r L : Nat, p.1 = [Sum.inl (r : Int), Sum.inl (L : Int)] ∧ r ≤ rs.length ∧ L ≤ n ∧ LN K B p.2 (rrow rs r L)
theorem Memo.mono {K : PySem.W.Frag} {B B' : Hp} {n : Nat} {rs : List Rail} {kvs : List (List Key × V)} (m : Memo K B n rs kvs) (e : Same B B') : Memo K B' n rs kvs :=
  ⟨m.nd, fun p hp => by obtain ⟨r, L, h1, h2, h3, h4⟩ := m.ok p hp; exact ⟨r, L, h1, h2, h3, h4.mono e⟩⟩
theorem Memo.len {K : PySem.W.Frag} {B : Hp} {n : Nat} {rs : List Rail} {kvs : List (List Key × V)} (m : Memo K B n rs kvs) : kvs.length ≤ (rs.length + 1) * (n + 1) := by
  have hs : (kvs.map (·.1)) ⊆ (List.range (rs.length + 1)).flatMap (fun r : Nat => (List.range (n + 1)).map fun L : Nat => ([Sum.inl (r : Int), Sum.inl (L : Int)] : List Key)) := by
    intro k hk
    obtain ⟨p, hp, rfl⟩ := List.mem_map.mp hk
    obtain ⟨r, L, h1, h2, h3, _⟩ := m.ok p hp
    rw [List.mem_flatMap]
    exact ⟨r, List.mem_range.mpr (by omega), List.mem_map.mpr ⟨L, List.mem_range.mpr (by omega), h1.symm⟩⟩
  have := List.Nodup.length_le_of_subset m.nd hs
  rw [List.length_map] at this
  refine Nat.le_trans this ?_
  rw [List.length_flatMap]
  simp only [List.length_map, List.length_range]
  have : ∀ k m : Nat, ((List.range k).map fun _ => m).sum = k * m := by
    intro k m
    induction k with
    | zero => simp
    | succ k ih => rw [List.range_succ, List.map_append, List.sum_append, ih, Nat.succ_mul]; simp
  rw [this]
  exact Nat.le_refl _
theorem keys_put {kvs : List (List Key × V)} {k : List Key} {v : V} : (putK kvs k v).map (·.1) = if (valV kvs k).isSome then kvs.map (·.1) else kvs.map (·.1) ++ [k] := by
  unfold putK
  rw [valV_any]
  split
  · rw [List.map_map]
    apply List.map_congr_left
    intro p _
    show (if p.1 = k then (p.1, v) else p).1 = p.1
    split <;> rfl
  · simp
theorem Memo.put {K : PySem.W.Frag} {B : Hp} {n : Nat} {rs : List Rail} {kvs : List (List Key × V)} {r L : Nat} {v : V} (m : Memo K B n rs kvs) (hr : r ≤ rs.length) (hL : L ≤ n) (hv : LN K B v (rrow rs r L)) :
    Memo K B n rs (putK kvs [Sum.inl (r : Int), Sum.inl (L : Int)] v) := by
  refine ⟨?_, fun p hp => ?_⟩
  · cases h : valV kvs [Sum.inl (r : Int), Sum.inl (L : Int)] with
    | none => exact nd_putK v m.nd h
    | some x => rw [keys_put, h]; exact m.nd
  · unfold putK at hp
    split at hp
    · obtain ⟨q, hq, rfl⟩ := List.mem_map.mp hp
      split
      · rename_i e
        exact ⟨r, L, e, hr, hL, hv⟩
      · exact m.ok q hq
    · rw [List.mem_append] at hp
      rcases hp with hp | hp
      · exact m.ok p hp
      · have e : p = ([Sum.inl (r : Int), Sum.inl (L : Int)], v) := by simpa using hp
        subst e
        exact ⟨r, L, rfl, hr, hL, hv⟩
theorem Memo.get {K : PySem.W.Frag} {B : Hp} {n : Nat} {rs : List Rail} {kvs : List (List Key × V)} {r L : Nat} {v : V} (m : Memo K B n rs kvs) (h : valV kvs [Sum.inl (r : Int), Sum.inl (L : Int)] = some v) : LN K B v (rrow rs r L) := by
  unfold valV at h
  obtain ⟨p, hp, rfl⟩ := Option.map_eq_some_iff.mp h
  have h1 := List.mem_of_find?_eq_some hp
  have h2 : p.1 = [Sum.inl (r : Int), Sum.inl (L : Int)] := by simpa using List.find?_some hp
  obtain ⟨r', L', e, _, _, h4⟩ := m.ok p h1
  rw [h2] at e
  have er : r = r' := by have := Sum.inl.inj (List.cons.inj e).1; omega
  have eL : L = L' := by have := Sum.inl.inj (List.cons.inj (List.cons.inj e).2).1; omega
  subst er; subst eL
  exact h4
/-- the object at o with its dict at d -/
structure RS (K : PySem.W.Frag) (B H : Hp) (o d : Addr) (n : Nat) (rs : List Rail) (kvs : List (List Key × V)) : Prop where
  ins : ∃ dx b, B o = some (.ins (He.ga K "Runs") dx [("own_rails", .ref b), ("own_rows", .ref d)]) ∧ RLs K B (.ref b) rs
  bd : B d = none
  hd : H d = some (.dT kvs)
  ok : Memo K B n rs kvs
theorem RS.ext {K : PySem.W.Frag} {B H B1 H1 : Hp} {o d : Addr} {n : Nat} {rs : List Rail} {kvs : List (List Key × V)} (s : RS K B H o d n rs kvs) (e : Ext B H B1 H1) : RS K B1 H1 o d n rs kvs := by
  obtain ⟨⟨dx, b, h1, h2⟩, hb, hd, ok⟩ := s
  exact ⟨⟨dx, b, e.b _ _ h1, h2.mono e.b⟩, by rw [e.n d (by rw [hd]; exact fun q => nomatch q)]; exact hb, e.h _ _ hd, ok.mono e.b⟩
theorem RS.upd {K : PySem.W.Frag} {B H : Hp} {o d p : Addr} {n : Nat} {rs : List Rail} {kvs : List (List Key × V)} (s : RS K B H o d n rs kvs) {u : HO} (h : d ≠ p) : RS K B (upd H p u) o d n rs kvs :=
  ⟨s.ins, s.bd, by rw [upd_ne h]; exact s.hd, s.ok⟩
def sp_run (K : PySem.W.Frag) (r : Nat) : Sp := fun vs H Q _ => ∃ (B : Hp) (o d : Addr) (n : Nat) (rs : List Rail) (kvs : List (List Key × V)) (L : Nat), Same B H ∧ vs = [.ref o, .int (r : Int), .int (L : Int)] ∧ RS K B H o d n rs kvs ∧
  two rs ∧ (∀ x ∈ rs, x.1 ≤ 12) ∧ need (rs.take r) ≤ L ∧ L ≤ n ∧ n ≤ 100 ∧ r ≤ rs.length ∧ rs.length ≤ 3 ∧
  ∀ B' H' v kvs', Ext B (Wo H d) B' H' → RS K B' H' o d n rs kvs' → LN K B' v (rrow rs r L) → Q v H'
def sp_upto (K : PySem.W.Frag) (R : Nat) : Sp := fun vs H Q E => ∃ r, r < R ∧ sp_run K r vs H Q E
section
variable {P : Program} {w : World} {K : PySem.W.Frag} {mg : Str → Option Value} {base : Heap}
theorem c_Runs_found_row_any (T : Txt w K mg) (R k : Nat) (c_row : HasM P w K mg base "Runs" "row" k ["self", "rail", "length"] (sp_upto K R)) :
    HasM P w K mg base "Runs" "found_row" (k + 1) ["self", "rail", "length"] (sp_upto K (R + 1)) := by
  refine HasM.of T.f_Runs_found_row T.m_Runs_found_row T.c_Runs sc_Runs_found_row (fun _ _ _ _ _ _ us hl => match us, hl with | [_, _, _], _ => rfl) (fun vs H Q E h => ?_) (fun f cdv A outer s0 H vs Q E hr h => ?_)
  · obtain ⟨r, _, B, o, d, n, rs, kvs, L, hB, rfl, _⟩ := h; rfl
  · obtain ⟨r, hrR, B, o, d, n, rs, kvs, L, hB, rfl, S, h2, h12, hnL, hLn, hn, hrl, hl3, k⟩ := h
    obtain ⟨⟨dx, b, hins, ⟨b', rls, eb, hb, hpr⟩⟩, hbd, hhd, hmemo⟩ := id S
    obtain rfl := V.ref.inj eb
    refine ⟨_, (pss_cons (ps_set (i := 3) sc_Runs_found_row.nd rfl (.inr rfl) (pe_listRg rfl rfl T.b_list (prg_1 rfl T.b_range (pv 2))))
      (pss_cons (ps_if (pt_cmpR op_eq (pv 1) pe_int (nomark _)) (pss_one (ps_ret (pv 3))) pss_nil)
      (pss_cons (ps_asg (pe_ix (xL (K := K) rfl) (pF (K := K) rfl (pv 0)) (pe_op op_sub (pv 1) pe_int) (fun _ _ => rfl)) (pg_tup rfl (pgs_cons (pg_name (i := 4) sc_Runs_found_row.nd rfl (.inl rfl)) (pgs_cons (pg_name (i := 5) sc_Runs_found_row.nd rfl (.inl rfl)) pgs_nil))))
      (pss_cons (ps_set (i := 6) sc_Runs_found_row.nd rfl (.inl rfl) (pe_lst pa_nil))
      (pss_cons (ps_for PassesOwn.never rfl (pi_range1 rfl T.b_range (pa_cons (pv 4) pa_nil)) (pg_name (i := 7) sc_Runs_found_row.nd rfl (.inl rfl))
      (pss_cons (ps_set (i := 8) sc_Runs_found_row.nd rfl (.inl rfl) (pmK (hk := Nat.le_refl _) (K := K) rfl c_row hr (pv 0) (pa_cons (pe_op op_sub (pv 1) pe_int) (pa_cons (pe_callB (cLen (K := K) rfl) (by rfl) T.b_len (by decide +kernel) (pa_cons (pv 3) pa_nil)) pa_nil))))
      (pss_cons (ps_asg (pe_tup (pa_cons (pe_ix (xL (K := K) rfl) (pv 3) (pe_ix (xL (K := K) rfl) (pv 8) pe_int (fun _ _ => rfl)) (fun _ _ => rfl)) (pa_cons (pe_lc (own := [("place", 11)]) (g := (gName 11)) rfl sc_Runs_found_row.nd (piL (K := K) rfl (pe_slice (slL (K := K) rfl) (pv 8) (po_some pe_int) po_none)) (blkOk_by (by kernel_rfl)) (fun _ _ _ _ _ => (pg_name (i := 11) sc_Runs_found_row.nd rfl (.inl rfl))) (fun _ _ _ _ _ => pts_nil) (fun _ _ _ _ _ => (pe_ix (xL (K := K) rfl) (pv 3) (pv 11) (fun _ _ => rfl)))) pa_nil))) (pg_tup rfl (pgs_cons (pg_name (i := 9) sc_Runs_found_row.nd rfl (.inl rfl)) (pgs_cons (pg_name (i := 3) sc_Runs_found_row.nd rfl (.inr rfl)) pgs_nil))))
      (pss_one (ps_expr (pe_bm PySem.F.plainAttrs_list PySem.F.slot_list_append PySem.F.type_list_append mt_append (pv 6) (pa_cons (pv 9) pa_nil)))))))
      (pss_cons (ps_set (i := 9) sc_Runs_found_row.nd rfl (.inl rfl) (pe_bm0 PySem.F.plainAttrs_list PySem.F.slot_list_pop PySem.F.type_list_pop mt_pop (pv 6)))
      (pss_cons (ps_set (i := 10) sc_Runs_found_row.nd rfl (.inl rfl) (pe_ifExp (pt_cmpR op_eq (pv 5) pe_str (nomark _)) (pRevL (K := K) rfl (pv 6)) (pv 6)))
      (pss_one (ps_ret (pe_lst (pa_cons (pv 9) (StX.pa_star (pv 3) (StX.pa_star (pv 10) pa_nil))))))))))))), ?_⟩
    refine ⟨_, rfl, _, rfl, RgOk.of_le (by omega) (by omega) (by omega) (by omega), fun q nq => ?_⟩
    rw [rgV_nat]
    have e1 := Ext.new hB (.lst ((List.range L).map fun n : Nat => V.int (n : Int))) nq
    cases r with
    | zero =>
      refine ⟨_, rfl, rfl, _, rfl, iteB (by simp) ?_⟩
      exact ⟨_, rfl, k _ _ _ _ e1.wo (S.ext e1) ⟨q, rfl, SqL.of upd_same⟩⟩
    | succ r =>
      refine ⟨_, rfl, rfl, _, rfl, iteBF (by simp; omega) ?_⟩
      obtain ⟨⟨bd, wy⟩, hrail⟩ : ∃ rl, rs[r]? = some rl := ⟨_, List.getElem?_eq_getElem (by omega)⟩
      obtain ⟨rlv, hrlv, q2, rfl, hq2⟩ := pat2 hpr hrail
      have hbd2 : 2 ≤ bd := h2 _ (List.mem_of_getElem? hrail)
      have hbd12 : bd ≤ 12 := h12 _ (List.mem_of_getElem? hrail)
      have hnt := need_take hrail hbd2
      refine ⟨_, rfl, o, _, _, _, _, rfl, e1.bh _ _ hins, T.c_Runs, T.n_Runs_own_rails, rfl, _, rfl, _, _, rfl, rfl, b, _, _, _, rfl, rfl, e1.bh.seq hb, at_of (j := r) (by omega) hrlv, ?_⟩
      refine ⟨q2, _, rfl, e1.bh.tup hq2, rfl, _, _, rfl, _, _, rfl, rfl, ?_⟩
      -- lying = []
      refine ⟨by show 0 ≤ sizeLine; decide, fun l nl => ?_⟩
      have hdl : d ≠ l := by
        intro z; subst z
        rw [(S.ext e1).hd] at nl; cases nl
      have e2 : Ext B (Wo H d) (upd B q (.lst ((List.range L).map fun n : Nat => V.int (n : Int)))) (upd (upd H q (.lst ((List.range L).map fun n : Nat => V.int (n : Int)))) l (.lst [])) := e1.wo.trans (Ext.tmp e1.w _ nl)
      have m2 : Mine (Wo H d) (upd B q (.lst ((List.range L).map fun n : Nat => V.int (n : Int)))) (upd (upd H q (.lst ((List.range L).map fun n : Nat => V.int (n : Int)))) l (.lst [])) l (.lst []) := Mine.new e1.wo nl
      have S2 := (S.ext e1).upd (u := .lst []) hdl
      refine ⟨_, rfl, _, rfl, by omega, by omega, for_it (walk_rng bd) (fun i σ' H' => ∃ B' kvs' qv v7 v8 v9 v11, σ' = [some (.ref o), some (.int ((r + 1 : Nat) : Int)), some (.int (L : Int)), some qv, some (.int (bd : Int)), some (.str (wayS wy)), some (.ref l), v7, v8, v9, none, v11] ∧ Ext B (Wo H d) B' H' ∧ RS K B' H' o d n rs kvs' ∧ LN K B' qv (rep (runL (rs.take r).reverse) i (List.range L)).2 ∧ Mine (Wo H d) B' H' l (.lst ((rep (runL (rs.take r).reverse) i (List.range L)).1.map fun n : Nat => V.int (n : Int))))
        ⟨_, kvs, _, none, none, none, none, rfl, e2, S2, ⟨q, rfl, SqL.of upd_same⟩, m2⟩ (fun i σ' H' _ _ => trivial) ?_ ?_⟩
      · rintro i y σ' H3 H3' hi ⟨B3, kvs3, qv, v7, v8, v9, v11, rfl, e3, S3, ⟨q3, rfl, hq3⟩, m3⟩ ⟨rfl, rfl⟩
        obtain ⟨g, rest, hrun, hg, hrest, hrep, hn0, hmL, hl1, hrl1⟩ := run_turn (two_take h2 r) (L := L) (i := i) (by omega)
        generalize hqq : (rep (runL (rs.take r).reverse) i (List.range L)).2 = qq at *
        generalize hll : (rep (runL (rs.take r).reverse) i (List.range L)).1 = ll at *
        obtain ⟨dx3, b3, hins3, _⟩ := S3.ins
        refine ⟨_, rfl, o, _, _, rfl, e3.w _ _ hins3, rfl, _, rfl, _, _, rfl, rfl, _, rfl, q3, _, rfl, .inl (e3.w.seq hq3), ?_⟩
        refine ⟨r, by omega, B3, o, d, n, rs, kvs3, qq.length, e3.w, ?_, S3, h2, h12, ?_, by omega, hn, by omega, hl3, fun B4 H4 v kvs4 e4 S4 hv => ?_⟩
        · show [V.ref o, V.int (((r + 1 : Nat) : Int) - 1), V.int _] = _
          rw [List.length_map, show ((r + 1 : Nat) : Int) - 1 = (r : Int) by omega]
        · rw [← need_reverse]; exact hn0
        have E4 := Ext.transW Wo.at e3 e4
        have hld : l ≠ d := fun z => hdl z.symm
        have m4 := m3.wo hld e4
        obtain ⟨a4, rfl, ha4⟩ := hv
        have hrr : rrow rs r qq.length = g :: rest := hrun
        rw [hrr] at ha4
        -- given, queue = queue[row[0]], [queue[place] for place in row[1:]]
        refine ⟨_, rfl, _, rfl, a4, _, 0, _, rfl, rfl, e4.w.seq ha4, atI_nat (j := 0) rfl, q3, _, _, _, rfl, rfl, E4.w.seq (e4.b.seq hq3), atI_nat (map_getD qq hg), ?_⟩
        refine ⟨_, rfl, 1, rfl, a4, _, rfl, e4.w.seq ha4, fun d5 nd5 => ⟨d5, rfl, ⟨_, SqL.of upd_same⟩, fun D nD => ?_⟩⟩
        have e5 := Ext.new e4.w (.lst (cutV (((g :: rest).map fun n : Nat => V.int (n : Int))) (some 1) none)) nd5
        have E5 := E4.trans e5
        have m5 := m4.ext e5
        rw [cut1, List.map_cons, drop1_cons] at *
        refine lc_new (walk_list _) (fun i _ y => y = V.int ((rest.map fun j => qq.getD j 0).getD i 0 : Nat)) e5.w (fun H' s => s.seq (SqL.of upd_same)) (by rw [List.length_map]; omega) nD (fun _ _ _ _ _ h => h) ?_ ?_
        · intro j y B6 H6 H6' N hj e6 hy hN
          obtain ⟨rfl, hy⟩ := hy
          rw [List.getElem?_map] at hy
          obtain ⟨pl, hpl, rfl⟩ := Option.map_eq_some_iff.mp hy
          have hlt := hrest pl (List.mem_of_getElem? hpl)
          refine ⟨rfl, ?_⟩
          refine ⟨_, rfl, _, rfl, q3, _, _, _, rfl, rfl, e6.w.seq (e6.b.seq (e5.b.seq (e4.b.seq hq3))), atI_nat (map_getD qq hlt), ?_⟩
          refine hN _ _ _ (Ext.refl e6.w) ?_
          rw [List.getD_eq_getElem?_getD (l := rest.map _), List.getElem?_map, hpl]
          rfl
        intro B6 H6 ys e6 hD6 hl6 hys
        have hyl : ys.length = (rest.map fun j => qq.getD j 0).length := by rw [hl6, List.length_map, List.length_map]
        obtain rfl := ys_of hyl hys
        have E6 := E5.trans e6
        have m6 := m5.ext e6
        refine ⟨by show 2 ≤ sizeLine; decide, fun p6 np6 => ?_⟩
        have e7 := Ext.tmp e6.w (.tup [.int (qq.getD g 0 : Nat), .ref D]) np6
        have E7 := E6.trans e7
        have m7 := m6.ext e7
        refine ⟨p6, _, rfl, SqT.of upd_same, rfl, _, _, rfl, _, _, rfl, rfl, ?_⟩
        refine ⟨_, rfl, .inl ⟨rfl, _, SqL.of m7.h⟩, _, rfl, l, _, _, rfl, rfl, m7.h, ?_, ?_⟩
        · rw [List.length_map, hl1]
          exact small1000 (by omega)
        have S7 := ((S4.ext e5).ext e6).ext e7
        rw [hrep]
        refine ⟨B6, kvs4, .ref D, some (.int (0 + (i : Int))), some (.ref a4), some (.int (qq.getD g 0 : Nat)), v11, rfl, m7.set E7 _, S7.upd hdl, ⟨D, rfl, SqL.of hD6⟩, ?_⟩
        rw [List.map_append]
        exact m7.put _
      · rintro σ' H3 ⟨B3, kvs3, qv, v7, v8, v9, v11, rfl, e3, S3, ⟨q3, rfl, hq3⟩, m3⟩
        have hlen := rep_len (f := runL (rs.take r).reverse) (m := need (rs.take r).reverse) (fun l hl => runL_len _ (two_take h2 r) l hl) (need_pos _) bd (List.range L) (by rw [List.length_range]; omega)
        have hrow : rrow rs (r + 1) L = _ := rrow_succ hrail L
        unfold runL at hrow
        generalize hqq : (rep (runL (rs.take r).reverse) bd (List.range L)).2 = qq at *
        generalize hll : (rep (runL (rs.take r).reverse) bd (List.range L)).1 = ll at *
        rw [List.length_range] at hlen
        have hne : ll ≠ [] := fun z => by rw [z] at hlen; simp at hlen; omega
        rw [List.getLast?_eq_some_getLast hne] at hrow
        have hrow : rrow rs (r + 1) L = ll.getLast hne :: (qq ++ sent wy ll.dropLast) := hrow
        -- given = lying.pop()
        have hlast : (ll.map fun n : Nat => V.int (n : Int))[(ll.map fun n : Nat => V.int (n : Int)).length - 1]? = some (V.int (ll.getLast hne : Nat)) := by
          rw [List.length_map, List.getElem?_map, ← List.getLast?_eq_getElem?, List.getLast?_eq_some_getLast hne]
          rfl
        refine ⟨_, rfl, .inl ⟨rfl, _, SqL.of m3.h⟩, l, _, _, rfl, rfl, m3.h, hlast, ?_⟩
        have e4 := m3.set e3 (.lst (ll.map fun n : Nat => V.int (n : Int)).dropLast)
        have m4 := m3.put (.lst (ll.map fun n : Nat => V.int (n : Int)).dropLast)
        have S4 := S3.upd (u := .lst (ll.map fun n : Nat => V.int (n : Int)).dropLast) hdl
        -- back
        refine ⟨_, rfl, rfl, _, rfl, ?_⟩
        cases wy with
        | true =>
          refine iteB (by decide) ?_
          refine ⟨_, rfl, l, _, rfl, SqL.of m4.h, fun rv nrv => ?_⟩
          have e5 := Ext.tmp e4.w (.lst (ll.map fun n : Nat => V.int (n : Int)).dropLast.reverse) nrv
          have E5 := e4.trans e5
          refine ⟨_, rfl, _, rfl, q3, _, rfl, .inr (E5.w.seq hq3), _, rfl, rv, _, rfl, .inr (SqL.of upd_same), ?_, fun p5 np5 => ?_⟩
          · simp only [List.length_cons, List.length_append, List.length_map, List.length_dropLast, List.length_reverse, List.length_nil]
            exact small1000 (by omega)
          refine k _ _ _ _ (E5.trans (Ext.new E5.w _ np5)) ((S4.ext e5).ext (Ext.new E5.w _ np5)) ⟨p5, rfl, ?_⟩
          rw [hrow]
          refine SqL.of ?_
          rw [upd_same]
          simp [sent, List.map_dropLast]
        | false =>
          refine iteBF (by decide) ?_
          refine ⟨_, rfl, ?_⟩
          refine ⟨_, rfl, _, rfl, q3, _, rfl, .inr (e4.w.seq hq3), _, rfl, l, _, rfl, .inr (SqL.of m4.h), ?_, fun p5 np5 => ?_⟩
          · simp only [List.length_cons, List.length_append, List.length_map, List.length_dropLast, List.length_reverse, List.length_nil]
            exact small1000 (by omega)
          refine k _ _ _ _ (e4.trans (Ext.new e4.w _ np5)) (S4.ext (Ext.new e4.w _ np5)) ⟨p5, rfl, ?_⟩
          rw [hrow]
          refine SqL.of ?_
          rw [upd_same]
          simp [sent, List.map_dropLast]
theorem c_Runs_row_any (T : Txt w K mg) (R k : Nat) (c_found : HasM P w K mg base "Runs" "found_row" k ["self", "rail", "length"] (sp_upto K R)) :
    HasM P w K mg base "Runs" "row" (k + 1) ["self", "rail", "length"] (sp_upto K R) := by
  refine HasM.of T.f_Runs_row T.m_Runs_row T.c_Runs sc_Runs_row (fun _ _ _ _ _ _ us hl => match us, hl with | [_, _, _], _ => rfl) (fun vs H Q E h => ?_) (fun f cdv A outer s0 H vs Q E hr h => ?_)
  · obtain ⟨r, _, B, o, d, n, rs, kvs, L, hB, rfl, _⟩ := h; rfl
  · obtain ⟨r, hrR, B, o, d, n, rs, kvs, L, hB, rfl, S, h2, h12, hnL, hLn, hn, hrl, hl3, k⟩ := h
    have hu := hu_of hr
    obtain ⟨⟨dx, b, hins, hb⟩, hbd, hhd, hmemo⟩ := id S
    refine ⟨_, (pss_cons (ps_set (i := 3) sc_Runs_row.nd rfl (.inl rfl) (pe_tup (pa_cons (pv 1) (pa_cons (pv 2) pa_nil))))
      (pss_cons (ps_if (pt_cmp (pc_dnotin hu (pv 3) (pF (K := K) rfl (pv 0)))) (pss_one (ps_dput hu (pF (K := K) rfl (pv 0)) (pv 3) (pmK (hk := Nat.le_refl _) (K := K) rfl c_found hr (pv 0) (pa_cons (pv 1) (pa_cons (pv 2) pa_nil))) rfl)) pss_nil)
      (pss_one (ps_ret (pe_dget hu (pF (K := K) rfl (pv 0)) (pv 3) (fun _ _ => rfl)))))), ?_⟩
    refine ⟨_, rfl, _, rfl, by show 2 ≤ sizeLine; decide, fun p np => ?_⟩
    have e1 := Ext.new hB (.tup ([Sum.inl (r : Int), Sum.inl (L : Int)].map kV)) np
    have S1 := S.ext e1
    have hp1 : (upd B p (.tup ([Sum.inl (r : Int), Sum.inl (L : Int)].map kV))) p = some (.tup ([Sum.inl (r : Int), Sum.inl (L : Int)].map kV)) := upd_same
    obtain ⟨dx1, b1, hins1, hb1⟩ := S1.ins
    refine ⟨_, rfl, _, rfl, o, _, _, _, _, rfl, e1.w _ _ hins1, T.c_Runs, T.n_Runs_own_rows, rfl, d, _, rfl, DGet.t S1.hd (e1.w _ _ hp1), _, rfl, ?_⟩
    cases hv : valV kvs [Sum.inl (r : Int), Sum.inl (L : Int)] with
    | some v =>
      refine iteBF rfl ?_
      refine ⟨_, rfl, o, _, _, _, _, rfl, e1.w _ _ hins1, T.c_Runs, T.n_Runs_own_rows, rfl, _, rfl, d, v, rfl, ?_, ?_⟩
      · have := DGet.t S1.hd (e1.w _ _ hp1)
        rw [hv] at this
        exact this
      · exact k _ _ _ _ e1.wo S1 (S1.ok.get hv)
    | none =>
      refine iteB rfl ?_
      refine ⟨_, rfl, o, _, _, rfl, e1.w _ _ hins1, rfl, _, rfl, _, rfl, r, hrR, _, o, d, n, rs, kvs, L, e1.w, rfl, S1, h2, h12, hnL, hLn, hn, hrl, hl3, fun B2 H2 v kvs2 e2 S2 hv2 => ?_⟩
      have E2 := Ext.transW Wo.at e1.wo e2
      obtain ⟨dx2, b2, hins2, hb2⟩ := S2.ins
      have hlen : kvs2.length < sizeLine := by
        refine Nat.lt_of_le_of_lt S2.ok.len (Nat.lt_of_le_of_lt (Nat.mul_le_mul (show rs.length + 1 ≤ 4 by omega) (show n + 1 ≤ 101 by omega)) (by decide))
      refine ⟨_, rfl, o, _, _, _, _, rfl, e2.w _ _ hins2, T.c_Runs, T.n_Runs_own_rows, rfl, _, rfl, d, _, rfl, DPut.t S2.hd (e2.w _ _ (e2.b _ _ hp1)) hlen, ?_⟩
      have m2 : Mine (Wo H d) B2 H2 d (.dT kvs2) := ⟨Wo.at, S2.bd, S2.hd⟩
      have e3 := m2.set E2 (.dT (putK kvs2 [Sum.inl (r : Int), Sum.inl (L : Int)] v))
      have S3 : RS K B2 (upd H2 d (.dT (putK kvs2 [Sum.inl (r : Int), Sum.inl (L : Int)] v))) o d n rs (putK kvs2 [Sum.inl (r : Int), Sum.inl (L : Int)] v) := ⟨S2.ins, S2.bd, upd_same, S2.ok.put hrl hLn hv2⟩
      refine ⟨_, rfl, o, _, _, _, _, rfl, e3.w _ _ hins2, T.c_Runs, T.n_Runs_own_rows, rfl, _, rfl, d, v, rfl, ?_, ?_⟩
      · have := DGet.t S3.hd (e3.w _ _ (e2.b _ _ hp1))
        rw [valV_put, if_pos rfl] at this
        exact this
      · exact k _ _ _ _ e3 S3 hv2
theorem c_Runs_row_0 (T : Txt w K mg) : HasM P w K mg base "Runs" "row" 1 ["self", "rail", "length"] (sp_upto K 0) := by
  refine HasM.of T.f_Runs_row T.m_Runs_row T.c_Runs sc_Runs_row (fun _ _ _ _ _ _ us hl => match us, hl with | [_, _, _], _ => rfl) (fun vs H Q E h => ?_) (fun f cdv A outer s0 H vs Q E hr h => ?_)
  · obtain ⟨r, hr, _⟩ := h; omega
  · obtain ⟨r, hr, _⟩ := h; omega
theorem c_Runs_row (T : Txt w K mg) : HasM P w K mg base "Runs" "row" 9 ["self", "rail", "length"] (sp_upto K 4) :=
  c_Runs_row_any T 4 _ (c_Runs_found_row_any T 3 _ (c_Runs_row_any T 3 _ (c_Runs_found_row_any T 2 _ (c_Runs_row_any T 2 _ (c_Runs_found_row_any T 1 _ (c_Runs_row_any T 1 _ (c_Runs_found_row_any T 0 _ (c_Runs_row_0 T))))))))
/-- behind the call of a class -/
theorem Ext.made {B H B' H' : Hp} {x dx : Addr} {C : Addr} (s : Same B H) (nx : H x = none) (nd : H dx = none) (ne : dx ≠ x) (e : Ext B (Wo (upd (upd H dx (.own x)) x (.ins C dx [])) x) B' H') : Ext B H B' H' := by
  have key : ∀ a, H a ≠ none → Wo (upd (upd H dx (.own x)) x (.ins C dx [])) x a = H a := fun a ha => by
    have h1 : a ≠ x := fun z => ha (by rw [z]; exact nx)
    have h2 : a ≠ dx := fun z => ha (by rw [z]; exact nd)
    rw [Wo.other h1, upd_ne h1, upd_ne h2]
  exact ⟨e.b, e.w, fun b o q => e.h b o (by rw [key b (by rw [q]; exact fun z => nomatch z)]; exact q), fun a ha => e.n a (by rw [key a ha]; exact ha)⟩
theorem upd_none {H : Hp} {p d : Addr} {o : HO} (h : upd H p o d = none) : H d = none ∧ d ≠ p := by
  by_cases e : d = p
  · subst e; rw [upd_same] at h; cases h
  · rw [upd_ne e] at h; exact ⟨h, e⟩
theorem same_made {B H : Hp} {x dx C : Addr} (s : Same B H) (nx : H x = none) (nd : H dx = none) : Same B (upd (upd H dx (.own x)) x (.ins C dx [])) := fun b o q => by
  have q' := s b o q
  have h1 : b ≠ x := fun z => by rw [z, nx] at q'; cases q'
  have h2 : b ≠ dx := fun z => by rw [z, nd] at q'; cases q'
  rw [upd_ne h1, upd_ne h2]
  exact q'
def sp_Runs_init (K : PySem.W.Frag) : Sp := fun vs H Q _ => ∃ (B : Hp) (x dx : Addr) (c : Clk) (cv : V), Same B H ∧ B x = none ∧ H x = some (.ins (He.ga K "Runs") dx []) ∧ vs = [.ref x, cv] ∧ CK K B cv c ∧
  ∀ B' H' d, H d = none → Ext B (Wo H x) B' H' → RS K B' H' x d c.n c.rs [] → Q .non H'
theorem c_Runs_init (T : Txt w K mg) : HasI P w K mg base "Runs" 1 ["self", "clock"] (sp_Runs_init K) := by
  refine HasI.of T.f_Runs_init T.k_Runs T.g_Runs sc_Runs_init (fun _ _ _ _ _ _ us hl => match us, hl with | [_, _], _ => rfl) (fun vs H Q E h => ?_) (fun f cdv A outer s0 H vs Q E hr h => ?_)
  · obtain ⟨B, x, dx, c, cv, hB, hbx, hx, rfl, _⟩ := h; rfl
  · obtain ⟨B, x, dx, c, cv, hB, hbx, hx, rfl, ⟨a, rv, rfl, ha, hrv⟩, k⟩ := h
    obtain ⟨b, rls, rfl, hb, hp⟩ := id hrv
    refine ⟨_, (pss_cons (ps_fld (pv 0) (pe_ix (xT (K := K) rfl) (pv 1) pe_int (fun _ _ => rfl)) rfl)
      (pss_one (ps_fld (pv 0) pe_dnewT rfl))), ?_⟩
    have e0 : Ext B (Wo H x) B H := ⟨Same.refl _, hB, Wo.same (Same.refl _), fun _ _ => rfl⟩
    have m0 : Mine (Wo H x) B H x (.ins (He.ga K "Runs") dx []) := ⟨Wo.at, hbx, hx⟩
    refine ⟨_, rfl, a, _, 1, _, rfl, rfl, hB.tup ha, atI_nat (j := 1) rfl, _, rfl, x, _, _, _, rfl, hx, T.c_Runs, T.n_Runs_own_rails, by show 0 < 1000; decide, ?_⟩
    have e1 := m0.set e0 (.ins (He.ga K "Runs") dx [("own_rails", .ref b)])
    have m1 := m0.put (.ins (He.ga K "Runs") dx [("own_rails", .ref b)])
    intro d nd
    have hxd : x ≠ d := fun z => by rw [← z] at nd; rw [show (upd H x _) x = _ from upd_same] at nd; cases nd
    have e2 := e1.trans (Ext.tmp e1.w (.dT []) nd)
    have m2 := m1.ext (Ext.tmp e1.w (.dT []) nd)
    have md : Mine (Wo H x) B (upd (upd H x (.ins (He.ga K "Runs") dx [("own_rails", .ref b)])) d (.dT [])) d (.dT []) := Mine.new e1 nd
    refine ⟨_, rfl, x, _, _, _, rfl, m2.h, T.c_Runs, T.n_Runs_own_rows, by show 1 < 1000; decide, ?_⟩
    have e3 := m2.set e2 (.ins (He.ga K "Runs") dx [("own_rails", .ref b), ("own_rows", .ref d)])
    have m3 := m2.put (.ins (He.ga K "Runs") dx [("own_rails", .ref b), ("own_rows", .ref d)])
    have md3 := md.other (u := .ins (He.ga K "Runs") dx [("own_rails", .ref b), ("own_rows", .ref d)]) hxd.symm
    exact k _ _ d (by rw [upd_ne (Ne.symm hxd)] at nd; exact nd) (m3.frz e3) ⟨⟨dx, b, upd_same, hrv.mono (Same.new hbx)⟩, (md3.keep hxd.symm).b, md3.h, ⟨List.nodup_nil, fun p hp => by cases hp⟩⟩
end
end BH
end
section
set_option Elab.async false
set_option linter.all false
set_option maxRecDepth 100000
set_option maxHeartbeats 4000000
namespace BH
open PySem PySem.Spec PyProof.Rows L2 BM
theorem need_le_of {c : Clk} (ok : c.Ok) : need (c.rs.take c.rs.length) ≤ c.n := by rw [List.take_length]; exact ok.need
/-- one more rail of a sight by its counts -/
theorem fill_take {rs : List Rail} {cs : List Nat} {m b cnt : Nat} {w : Bool} (h : rs[m]? = some (b, w)) (hc : cs[m]? = some cnt) (q : List Nat) :
    fill (rs.take (m + 1)).reverse (cs.take (m + 1)).reverse q = ((fill (rs.take m).reverse (cs.take m).reverse (rep (runL (rs.take m).reverse) cnt q).2).1, (rep (runL (rs.take m).reverse) cnt q).1 :: (fill (rs.take m).reverse (cs.take m).reverse (rep (runL (rs.take m).reverse) cnt q).2).2) := by
  rw [take_snoc h, take_snoc hc, List.reverse_append, List.reverse_append]
  rfl
theorem fits_get : ∀ {rs : List Rail} {cs : List Nat} {j : Nat} {r : Rail} {n : Nat}, fits rs cs → rs[j]? = some r → cs[j]? = some n → n < r.1
  | [], _, _, _, _, _, h, _ => by simp at h
  | _ :: _, [], _, _, _, h, _, _ => h.elim
  | _ :: _, _ :: _, 0, _, _, h, h1, h2 => by simp at h1 h2; subst h1 h2; exact h.1
  | _ :: _, _ :: _, j + 1, _, _, h, h1, h2 => fits_get (j := j) h.2 (by simpa using h1) (by simpa using h2)
section
variable {P : Program} {w : World} {K : PySem.W.Frag} {mg : Str → Option Value} {base : Heap}
def sp_turn_row (K : PySem.W.Frag) : Sp := Pu fun B vs R => ∃ (v : V) (c : Clk), vs = [v] ∧ CK K B v c ∧ c.Ok ∧ R = fun B' v => LN K B' v (trow c)
theorem c_turn_row (T : Txt w K mg) : Has P w K mg base "turn_row" 10 ["clock"] (sp_turn_row K) := by
  refine Has.of T.f_turn_row T.g_turn_row sc_turn_row (fun _ _ _ _ _ _ us hl => match us, hl with | [_], _ => rfl) (fun vs H Q E h => ?_) (fun f cdv A outer s H vs Q E hr h => ?_)
  · obtain ⟨B, R, hB, ⟨v, c, rfl, _⟩, _⟩ := h; rfl
  · obtain ⟨B, R, hB, ⟨v, c, rfl, ⟨a, rv, rfl, ha, ⟨b, rls, rfl, hb, hp⟩⟩, ok, rfl⟩, k⟩ := h
    have hlr : rls.length = c.rs.length := Paired.length hp
    have hck : CK K B (.ref a) c := ⟨a, _, rfl, ha, ⟨b, rls, rfl, hb, hp⟩⟩
    refine ⟨_, (pss_cons (ps_set (i := 1) sc_turn_row.nd rfl (.inl rfl) (pmK (K := K) rfl (c_Runs_row T) hr (pk (c_Runs_init T) hr (pa_cons (pv 0) pa_nil)) (pa_cons (pe_callB (cLen (K := K) rfl) (by rfl) T.b_len (by decide +kernel) (pa_cons (pe_ix (xT (K := K) rfl) (pv 0) pe_int (fun _ _ => rfl)) pa_nil)) (pa_cons (pe_ix (xT (K := K) rfl) (pv 0) pe_int (fun _ _ => rfl)) pa_nil))))
      (pss_one (ps_ret (pe_lst (StX.pa_star (pe_slice (slL (K := K) rfl) (pv 1) (po_some pe_int) po_none) (pa_cons (pe_ix (xL (K := K) rfl) (pv 1) pe_int (fun _ _ => rfl)) pa_nil)))))), ?_⟩
    refine ⟨_, rfl, fun x dx nx ndx ne => ⟨B, x, dx, c, .ref a, same_made hB nx ndx, hB.free nx, upd_same, rfl, hck, fun B1 H1 d nd e1 S1 => ⟨rfl, ?_⟩⟩⟩
    have E1 := Ext.made hB nx ndx ne e1
    obtain ⟨dx1, b1, hins1, _⟩ := S1.ins
    refine ⟨x, _, _, rfl, E1.w _ _ hins1, rfl, _, rfl, a, _, 1, _, rfl, rfl, E1.bh.tup ha, atI_nat (j := 1) rfl, b, _, rfl, .inl (E1.bh.seq hb), _, rfl, a, _, 0, _, rfl, rfl, E1.bh.tup ha, atI_nat (j := 0) rfl, ?_⟩
    refine ⟨c.rs.length, by have := ok.l3; omega, B1, x, d, c.n, c.rs, [], c.n, E1.w, by rw [hlr], S1, ok.two, ok.b12, need_le_of ok, Nat.le_refl _, ok.n100, Nat.le_refl _, ok.l3, fun B2 H2 v kvs2 e2 S2 hv => ?_⟩
    have hdn : H d = none := (upd_none (upd_none nd).1).1
    have E2 := Ext.transW hdn E1 e2
    obtain ⟨a4, rfl, ha4⟩ := hv
    have hrow : rrow c.rs c.rs.length c.n = runL c.rs.reverse (List.range c.n) := by unfold rrow; rw [List.take_length]
    have hlen := runL_len c.rs.reverse (two_reverse ok.two) (List.range c.n) (by rw [need_reverse, List.length_range]; exact ok.need)
    rw [List.length_range] at hlen
    have hn2 := ok.n2
    have hn100 := ok.n100
    rw [hrow] at ha4
    cases hr2 : runL c.rs.reverse (List.range c.n) with
    | nil => rw [hr2] at hlen; simp at hlen; omega
    | cons g rest =>
      have htr : trow c = rest ++ [g] := by unfold trow turnL; rw [hr2]
      rw [hr2] at hlen ha4
      refine ⟨_, rfl, 1, rfl, a4, _, rfl, e2.w.seq ha4, fun d5 nd5 => ⟨d5, _, rfl, .inr (SqL.of upd_same), ?_⟩⟩
      have e5 := Ext.tmp e2.w (.lst (cutV (((g :: rest).map fun n : Nat => V.int (n : Int))) (some 1) none)) nd5
      rw [cut1, List.map_cons, drop1_cons] at *
      refine ⟨_, rfl, a4, _, 0, _, rfl, rfl, e5.w.seq ha4, atI_nat (j := 0) rfl, ?_, fun p6 np6 => ?_⟩
      · simp only [List.length_append, List.length_map, List.length_cons, List.length_nil] at hlen ⊢
        exact small1000 (by omega)
      · refine k _ _ _ ((E2.trans e5).trans (Ext.new e5.w _ np6)) ⟨p6, rfl, ?_⟩
        refine SqL.of ?_
        rw [upd_same, htr]
        simp
def sp_spots_at (K : PySem.W.Frag) : Sp := Pu fun B vs R => ∃ (v cv : V) (c : Clk) (cs : List Nat), vs = [v, cv] ∧ CK K B v c ∧ LN K B cv cs ∧ c.Ok ∧ fits c.rs cs ∧ R = fun B' v => SG K B' v (spots c.rs cs (List.range c.n))
theorem c_spots_at (T : Txt w K mg) : Has P w K mg base "spots_at" 10 ["clock", "counts"] (sp_spots_at K) := by
  refine Has.of T.f_spots_at T.g_spots_at sc_spots_at (fun _ _ _ _ _ _ us hl => match us, hl with | [_, _], _ => rfl) (fun vs H Q E h => ?_) (fun f cdv A outer s H vs Q E hr h => ?_)
  · obtain ⟨B, R, hB, ⟨v, cv, c, cs, rfl, _⟩, _⟩ := h; rfl
  · obtain ⟨B, R, hB, ⟨v, cv, c, cs, rfl, ⟨a, rv, rfl, ha, ⟨b, rls, rfl, hb, hp⟩⟩, ⟨ac, rfl, hac⟩, ok, hf, rfl⟩, k⟩ := h
    have hlr : rls.length = c.rs.length := Paired.length hp
    have hck : CK K B (.ref a) c := ⟨a, _, rfl, ha, ⟨b, rls, rfl, hb, hp⟩⟩
    have hlc := fits_len hf
    have hn2 := ok.n2
    have hn100 := ok.n100
    have hl3 := ok.l3
    refine ⟨_, (pss_cons (ps_asg (pe_tup (pa_cons (pk (c_Runs_init T) hr (pa_cons (pv 0) pa_nil)) (pa_cons (pe_listRg rfl rfl T.b_list (prg_1 rfl T.b_range (pe_ix (xT (K := K) rfl) (pv 0) pe_int (fun _ _ => rfl)))) (pa_cons (pe_lst pa_nil) pa_nil)))) (pg_tup rfl (pgs_cons (pg_name (i := 2) sc_spots_at.nd rfl (.inl rfl)) (pgs_cons (pg_name (i := 3) sc_spots_at.nd rfl (.inr rfl)) (pgs_cons (pg_name (i := 4) sc_spots_at.nd rfl (.inl rfl)) pgs_nil)))))
      (pss_cons (ps_for PassesOwn.never rfl (pi_range3 rfl T.b_range (pa_cons (pe_callB (cLen (K := K) rfl) (by rfl) T.b_len (by decide +kernel) (pa_cons (pv 1) pa_nil)) (pa_cons pe_int (pa_cons (pe_un un_neg pe_int) pa_nil)))) (pg_name (i := 5) sc_spots_at.nd rfl (.inl rfl))
      (pss_cons (ps_set (i := 6) sc_spots_at.nd rfl (.inl rfl) (pe_lst pa_nil))
      (pss_cons (ps_for PassesOwn.never rfl (pi_range1 rfl T.b_range (pa_cons (pe_ix (xL (K := K) rfl) (pv 1) (pe_op op_sub (pv 5) pe_int) (fun _ _ => rfl)) pa_nil)) (pg_name (i := 7) sc_spots_at.nd rfl (.inl rfl))
      (pss_cons (ps_set (i := 8) sc_spots_at.nd rfl (.inl rfl) (pmK (K := K) rfl (c_Runs_row T) hr (pv 2) (pa_cons (pe_op op_sub (pv 5) pe_int) (pa_cons (pe_callB (cLen (K := K) rfl) (by rfl) T.b_len (by decide +kernel) (pa_cons (pv 3) pa_nil)) pa_nil))))
      (pss_cons (ps_expr (pe_bm PySem.F.plainAttrs_list PySem.F.slot_list_append PySem.F.type_list_append mt_append (pv 6) (pa_cons (pe_ix (xL (K := K) rfl) (pv 3) (pe_ix (xL (K := K) rfl) (pv 8) pe_int (fun _ _ => rfl)) (fun _ _ => rfl)) pa_nil)))
      (pss_one (ps_set (i := 3) sc_spots_at.nd rfl (.inr rfl) (pe_lc (own := [("place", 9)]) (g := (gName 9)) rfl sc_spots_at.nd (piL (K := K) rfl (pe_slice (slL (K := K) rfl) (pv 8) (po_some pe_int) po_none)) (blkOk_by (by kernel_rfl)) (fun _ _ _ _ _ => (pg_name (i := 9) sc_spots_at.nd rfl (.inl rfl))) (fun _ _ _ _ _ => pts_nil) (fun _ _ _ _ _ => (pe_ix (xL (K := K) rfl) (pv 3) (pv 9) (fun _ _ => rfl)))))))))
      (pss_one (ps_expr (pe_bm PySem.F.plainAttrs_list PySem.F.slot_list_append PySem.F.type_list_append mt_append (pv 4) (pa_cons (pv 6) pa_nil)))))))
      (pss_one (ps_ret (pe_lst (pa_cons (pv 3) (StX.pa_star (pRevL (K := K) rfl (pv 4)) pa_nil))))))), ?_⟩
    refine ⟨_, rfl, fun x dx nx ndx ne => ⟨B, x, dx, c, .ref a, same_made hB nx ndx, hB.free nx, upd_same, rfl, hck, fun B1 H1 d nd e1 S1 => ⟨rfl, ?_⟩⟩⟩
    have E1 := Ext.made hB nx ndx ne e1
    have hdn : H d = none := (upd_none (upd_none nd).1).1
    refine ⟨_, rfl, a, _, 0, _, rfl, rfl, E1.bh.tup ha, atI_nat (j := 0) rfl, _, rfl, RgOk.of_le (by omega) (by omega) (by omega) (by omega), fun q nq => ?_⟩
    rw [rgV_nat]
    have e2 := Ext.new E1.w (.lst ((List.range c.n).map fun n : Nat => V.int (n : Int))) nq
    have E2 := E1.trans e2
    have S2 := S1.ext e2
    refine ⟨by show 0 ≤ sizeLine; decide, fun l nl => ?_⟩
    have e3 := Ext.tmp e2.w (.lst []) nl
    have E3 := E2.trans e3
    have S3 := S2.ext e3
    have m3 := Mine.new (o := .lst []) E2 nl
    refine ⟨by show 3 ≤ sizeLine; decide, fun p np => ?_⟩
    have e4 := Ext.tmp e3.w (.tup [.ref x, .ref q, .ref l]) np
    have E4 := E3.trans e4
    have S4 := S3.ext e4
    have m4 := m3.ext e4
    have hdl : d ≠ l := fun z => by subst z; have := S4.hd; rw [m4.h] at this; cases this
    refine ⟨p, _, rfl, SqT.of upd_same, rfl, _, _, rfl, _, _, rfl, _, _, rfl, rfl, ?_⟩
    refine ⟨_, rfl, ac, _, rfl, .inl (E4.bh.seq hac), _, rfl, _, _, _, c.rs.length, rfl, ?_, for_it (walk_rngC c.rs.length) (fun i σ' H' => ∃ B' kvs' qv rvs q R v5 v6 v7 v8 v9, σ' = [some (.ref a), some (.ref ac), some (.ref x), some qv, some (.ref l), v5, v6, v7, v8, v9] ∧ Ext B H B' H' ∧ RS K B' H' x d c.n c.rs kvs' ∧ LN K B' qv q ∧ Mine H B' H' l (.lst rvs) ∧ Paired (LN K B') rvs R ∧ R.length = i ∧ q.length ≤ c.n ∧ need (c.rs.take (c.rs.length - i)) ≤ q.length ∧
        fill c.rs.reverse cs.reverse (List.range c.n) = ((fill (c.rs.take (c.rs.length - i)).reverse (cs.take (c.rs.length - i)).reverse q).1, R ++ (fill (c.rs.take (c.rs.length - i)).reverse (cs.take (c.rs.length - i)).reverse q).2))
      ⟨_, [], _, [], List.range c.n, [], none, none, none, none, none, rfl, E4, S4, ⟨q, rfl, SqL.of upd_same⟩, m4, .nil, rfl, by simp, ?_, ?_⟩ (fun i σ' H' _ _ => trivial) ?_ ?_⟩
    · have hz := RgC.neg (i := (c.rs.length : Int)) (j := 0) (by omega) (by omega) (by omega) (by omega)
      rw [show ((c.rs.length : Int) - 0).toNat = c.rs.length by omega] at hz
      show RgC (((cs.map fun n : Nat => V.int (n : Int)).length : Nat) : Int) 0 (-1) c.rs.length
      rw [List.length_map, hlc]
      exact hz
    · rw [Nat.sub_zero, List.length_range]; exact need_le_of ok
    · rw [Nat.sub_zero, List.take_length, show c.rs.length = cs.length from hlc.symm, List.take_length]
      rfl
    · rintro i y σ' H5 H5' hi ⟨B5, kvs5, qv, rvs, q5, R5, v5, v6, v7, v8, v9, rfl, e5, S5, hqv, m5, hR, hRi, hqn, hnq, hfill⟩ ⟨rfl, rfl⟩
      obtain ⟨m, hm⟩ : ∃ m, c.rs.length - i = m + 1 := ⟨c.rs.length - i - 1, by omega⟩
      rw [hm] at hnq hfill
      obtain ⟨⟨bd, wy⟩, hrail⟩ : ∃ rl, c.rs[m]? = some rl := ⟨_, List.getElem?_eq_getElem (by omega)⟩
      obtain ⟨cnt, hcnt⟩ : ∃ cnt, cs[m]? = some cnt := ⟨_, List.getElem?_eq_getElem (by omega)⟩
      have hbd2 : 2 ≤ bd := ok.two _ (List.mem_of_getElem? hrail)
      have hbd12 : bd ≤ 12 := ok.b12 _ (List.mem_of_getElem? hrail)
      have hcb : cnt < bd := fits_get hf hrail hcnt
      have hnt := need_take hrail hbd2
      have hnr : need (c.rs.take m).reverse = need (c.rs.take m) := need_reverse _
      rw [fill_take hrail hcnt] at hfill
      -- lying = []
      refine ⟨by show 0 ≤ sizeLine; decide, fun l2 nl2 => ?_⟩
      have e6 := Ext.tmp e5.w (.lst []) nl2
      have E6 := e5.trans e6
      have S6 := S5.ext e6
      have m6 := m5.ext e6
      have k6 := Mine.new (o := .lst []) e5 nl2
      have hdl2 : d ≠ l2 := fun z => by subst z; rw [S5.hd] at nl2; cases nl2
      have hll2 : l ≠ l2 := fun z => by subst z; rw [m5.h] at nl2; cases nl2
      have hidx : ((cs.map fun n : Nat => V.int (n : Int)).length : Int) + (i : Int) * (-1) - 1 = (m : Nat) := by
        rw [List.length_map, hlc]; omega
      refine ⟨_, rfl, _, rfl, _, _, rfl, rfl, ac, _, _, _, rfl, rfl, E6.bh.seq hac, at_of (j := m) hidx (by rw [List.getElem?_map, hcnt]; rfl), cnt, rfl, by omega, by omega, for_it (walk_rng cnt) (fun j σ' H' => ∃ B' kvs' qv v7 v8, σ' = [some (.ref a), some (.ref ac), some (.ref x), some qv, some (.ref l), some (.int (((cs.map fun n : Nat => V.int (n : Int)).length : Int) + (i : Int) * (-1))), some (.ref l2), v7, v8, v9] ∧ Ext B H B' H' ∧ RS K B' H' x d c.n c.rs kvs' ∧ LN K B' qv (rep (runL (c.rs.take m).reverse) j q5).2 ∧ Mine H B' H' l (.lst rvs) ∧ Mine H B' H' l2 (.lst ((rep (runL (c.rs.take m).reverse) j q5).1.map fun n : Nat => V.int (n : Int))) ∧ Same B5 B')
        ⟨B5, kvs5, qv, v7, v8, rfl, E6, S6, hqv, m6, k6, Same.refl _⟩ (fun i σ' H' _ _ => trivial) ?_ ?_⟩
      · rintro j y σ' H7 H7' hj ⟨B7, kvs7, qv7, v7, v8, rfl, e7, S7, ⟨q3, rfl, hq3⟩, m7, k7, hs7⟩ ⟨rfl, rfl⟩
        obtain ⟨g, rest, hrun, hg, hrest, hrep, hn0, hmL, hl1, hrl1⟩ := run_turnQ (two_take ok.two m) (q := q5) (i := j) (by omega)
        generalize hqq : (rep (runL (c.rs.take m).reverse) j q5).2 = qq at *
        generalize hll : (rep (runL (c.rs.take m).reverse) j q5).1 = ll at *
        obtain ⟨dx3, b3, hins3, _⟩ := S7.ins
        refine ⟨_, rfl, x, _, _, rfl, e7.w _ _ hins3, rfl, _, rfl, _, _, rfl, rfl, _, rfl, q3, _, rfl, .inl (e7.w.seq hq3), ?_⟩
        refine ⟨m, by omega, B7, x, d, c.n, c.rs, kvs7, qq.length, e7.w, ?_, S7, ok.two, ok.b12, ?_, by omega, hn100, by omega, hl3, fun B8 H8 v kvs8 e8 S8 hv => ?_⟩
        · show [V.ref x, V.int (((cs.map fun n : Nat => V.int (n : Int)).length : Int) + (i : Int) * (-1) - 1), V.int _] = _
          rw [hidx, List.length_map]
        · rw [← need_reverse]; exact hn0
        have E8 := Ext.transW hdn e7 e8
        have hld : l ≠ d := fun z => hdl z.symm
        have m8 := m7.wo hld e8
        have k8 := k7.wo (fun z => hdl2 z.symm) e8
        obtain ⟨a4, rfl, ha4⟩ := hv
        have hrr : rrow c.rs m qq.length = g :: rest := hrun
        rw [hrr] at ha4
        -- lying.append(queue[row[0]])
        refine ⟨_, rfl, .inl ⟨rfl, _, SqL.of k8.h⟩, _, rfl, _, rfl, a4, _, 0, _, rfl, rfl, e8.w.seq ha4, atI_nat (j := 0) rfl, q3, _, _, _, rfl, rfl, E8.w.seq (e8.b.seq hq3), atI_nat (map_getD qq hg), l2, _, _, rfl, rfl, k8.h, ?_, ?_⟩
        · rw [List.length_map, hl1]
          exact small1000 (by omega)
        have e9 := k8.set E8 (.lst (ll.map (fun n : Nat => V.int (n : Int)) ++ [.int (qq.getD g 0 : Nat)]))
        have k9 := k8.put (.lst (ll.map (fun n : Nat => V.int (n : Int)) ++ [.int (qq.getD g 0 : Nat)]))
        have m9 := m8.other (u := .lst (ll.map (fun n : Nat => V.int (n : Int)) ++ [.int (qq.getD g 0 : Nat)])) hll2
        have S9 := S8.upd (u := .lst (ll.map (fun n : Nat => V.int (n : Int)) ++ [.int (qq.getD g 0 : Nat)])) hdl2
        -- queue = [queue[place] for place in row[1:]]
        refine ⟨_, rfl, 1, rfl, a4, _, rfl, e9.w.seq ha4, fun d5 nd5 => ⟨d5, rfl, ⟨_, SqL.of upd_same⟩, fun D nD => ?_⟩⟩
        have e10 := Ext.new e9.w (.lst (cutV (((g :: rest).map fun n : Nat => V.int (n : Int))) (some 1) none)) nd5
        have E10 := e9.trans e10
        rw [cut1, List.map_cons, drop1_cons] at *
        refine lc_new (walk_list _) (fun i _ y => y = V.int ((rest.map fun j => qq.getD j 0).getD i 0 : Nat)) e10.w (fun H' s => s.seq (SqL.of upd_same)) (by rw [List.length_map]; omega) nD (fun _ _ _ _ _ h => h) ?_ ?_
        · intro j y B6 H6 H6' N hj e6 hy hN
          obtain ⟨rfl, hy⟩ := hy
          rw [List.getElem?_map] at hy
          obtain ⟨pl, hpl, rfl⟩ := Option.map_eq_some_iff.mp hy
          have hlt := hrest pl (List.mem_of_getElem? hpl)
          refine ⟨rfl, ?_⟩
          refine ⟨_, rfl, _, rfl, q3, _, _, _, rfl, rfl, e6.w.seq (e6.b.seq (e10.b.seq (e8.b.seq hq3))), atI_nat (map_getD qq hlt), ?_⟩
          refine hN _ _ _ (Ext.refl e6.w) ?_
          rw [List.getD_eq_getElem?_getD (l := rest.map _), List.getElem?_map, hpl]
          rfl
        intro B6 H6 ys e11 hD6 hl6 hys
        have hyl : ys.length = (rest.map fun j => qq.getD j 0).length := by rw [hl6, List.length_map, List.length_map]
        obtain rfl := ys_of hyl hys
        rw [hrep]
        refine ⟨B6, kvs8, .ref D, some (.int (0 + (j : Int))), some (.ref a4), rfl, E10.trans e11, (S9.ext e10).ext e11, ⟨D, rfl, SqL.of hD6⟩, (m9.ext e10).ext e11, ?_, ((hs7.trans e8.b).trans e10.b).trans e11.b⟩
        rw [List.map_append]
        exact (k9.ext e10).ext e11
      · rintro σ' H7 ⟨B7, kvs7, qv7, v7, v8, rfl, e7, S7, hq7, m7, k7, hs7⟩
        have hlen := rep_len (f := runL (c.rs.take m).reverse) (m := need (c.rs.take m).reverse) (fun l hl => runL_len _ (two_take ok.two m) l hl) (need_pos _) cnt q5 (by omega)
        have hRl : rvs.length = i := by rw [Paired.length hR, hRi]
        refine ⟨_, rfl, .inl ⟨rfl, _, SqL.of m7.h⟩, _, rfl, l, _, _, rfl, rfl, m7.h, small1000 (by omega), ?_⟩
        have e8 := (m7.set e7 (.lst (rvs ++ [.ref l2])))
        have k8 := k7.other (u := .lst (rvs ++ [.ref l2])) hll2.symm
        have m8 := (m7.put (.lst (rvs ++ [.ref l2]))).keep (q := l2) (u := .lst ((rep (runL (c.rs.take m).reverse) cnt q5).1.map fun n : Nat => V.int (n : Int))) hll2
        have e9 := k8.frz e8
        have hb9 : Same B7 (upd B7 l2 (.lst ((rep (runL (c.rs.take m).reverse) cnt q5).1.map fun n : Nat => V.int (n : Int)))) := Same.new k8.b
        have S8 := S7.upd (u := .lst (rvs ++ [.ref l2])) hdl
        refine ⟨_, kvs7, qv7, rvs ++ [.ref l2], (rep (runL (c.rs.take m).reverse) cnt q5).2, R5 ++ [(rep (runL (c.rs.take m).reverse) cnt q5).1], _, _, _, _, _, rfl, e9, ⟨?_, ?_, S8.hd, S8.ok.mono hb9⟩, hq7.mono hb9, m8, ?_, by rw [List.length_append, hRi]; rfl, by omega, ?_, ?_⟩
        · obtain ⟨dx, b, h1, h2⟩ := S8.ins
          exact ⟨dx, b, hb9 _ _ h1, h2.mono hb9⟩
        · rw [upd_ne hdl2]; exact S8.bd
        · refine paired_app (Paired.mapP hR fun _ _ h => (h.mono hs7).mono hb9) (.cons ⟨l2, rfl, SqL.of upd_same⟩ .nil)
        · rw [show c.rs.length - (i + 1) = m by omega]
          omega
        · rw [show c.rs.length - (i + 1) = m by omega, hfill]
          simp
    · rintro σ' H5 ⟨B5, kvs5, qv, rvs, q5, R5, v5, v6, v7, v8, v9, rfl, e5, S5, ⟨q3, rfl, hq3⟩, m5, hR, hRi, hqn, hnq, hfill⟩
      rw [Nat.sub_self] at hfill
      have hfill : fill c.rs.reverse cs.reverse (List.range c.n) = (q5, R5) := by
        rw [hfill]
        simp only [List.take_zero, List.reverse_nil, BM.fill, List.append_nil]
      have hRl : rvs.length = c.rs.length := by rw [Paired.length hR, hRi]
      refine ⟨_, rfl, _, rfl, l, _, rfl, SqL.of m5.h, fun rv nrv => ?_⟩
      have e6 := Ext.tmp e5.w (.lst rvs.reverse) nrv
      refine ⟨rv, _, rfl, .inr (SqL.of upd_same), ?_, fun p6 np6 => ?_⟩
      · simp only [List.length_append, List.length_reverse, List.length_cons, List.length_nil]
        exact small1000 (by omega)
      rw [List.append_nil]
      have e7 := Ext.new e6.w (.lst (.ref q3 :: rvs.reverse)) np6
      refine k _ _ _ ((e5.trans e6).trans e7) ⟨p6, _, rfl, SqL.of upd_same, ?_⟩
      unfold spots
      rw [hfill]
      exact .cons ⟨q3, rfl, (e6.b.trans e7.b).seq hq3⟩ (paired_rev (Paired.mapP hR fun _ _ h => h.mono (e6.b.trans e7.b)))
end
end BH
end
section
set_option linter.all false
namespace BM
/-! ### the cycles of a row -/
structure Part (l : List Nat) (n : Nat) (cy : List (List Nat)) : Prop where
  ne : ∀ c ∈ cy, c ≠ []
  step : ∀ c ∈ cy, ∀ i, i < c.length → app l (c.getD i 0) = c.getD ((i + 1) % c.length) 0
  nd : cy.flatten.Nodup
  lt : ∀ x ∈ cy.flatten, x < n
structure Path (l : List Nat) (c : List Nat) (h b : Nat) : Prop where
  nil : c = [] → h = b
  step : ∀ i, i + 1 < c.length → app l (c.getD i 0) = c.getD (i + 1) 0
  head : c ≠ [] → c.getD 0 0 = b
  last : c ≠ [] → app l (c.getD (c.length - 1) 0) = h
theorem getD_mem {c : List Nat} {i : Nat} (h : i < c.length) : c.getD i 0 ∈ c := by
  rw [List.getD_eq_getElem?_getD, List.getElem?_eq_getElem h]
  exact List.getElem_mem h
theorem mem_getD {c : List Nat} {x : Nat} (h : x ∈ c) : ∃ i, i < c.length ∧ c.getD i 0 = x := by
  obtain ⟨i, hi, e⟩ := List.mem_iff_getElem.mp h
  refine ⟨i, hi, ?_⟩
  rw [List.getD_eq_getElem?_getD, List.getElem?_eq_getElem hi]
  exact e
theorem getD_inj {c : List Nat} (nd : c.Nodup) {i j : Nat} (hi : i < c.length) (hj : j < c.length) (e : c.getD i 0 = c.getD j 0) : i = j := by
  rw [List.getD_eq_getElem?_getD, List.getD_eq_getElem?_getD, List.getElem?_eq_getElem hi, List.getElem?_eq_getElem hj] at e
  exact (List.getElem_inj nd).mp e
theorem getD_app_left {a b : List Nat} {i : Nat} (h : i < a.length) : (a ++ b).getD i 0 = a.getD i 0 := by
  rw [List.getD_eq_getElem?_getD, List.getElem?_append_left h, ← List.getD_eq_getElem?_getD]
theorem getD_app_right {a : List Nat} {x : Nat} : (a ++ [x]).getD a.length 0 = x := by
  rw [List.getD_eq_getElem?_getD, List.getElem?_append_right (Nat.le_refl _), Nat.sub_self]
  rfl
theorem app_inj {l : List Nat} {n : Nat} (hp : l.Perm (List.range n)) {i j : Nat} (hi : i < n) (hj : j < n) (e : app l i = app l j) : i = j := by
  have hl : l.length = n := by rw [hp.length_eq, List.length_range]
  exact getD_inj (hp.nodup_iff.mpr List.nodup_range) (by omega) (by omega) e
theorem Path.push {l c : List Nat} {h b : Nat} (p : Path l c h b) : Path l (c ++ [h]) (app l h) b := by
  refine ⟨fun e => by simp at e, fun i hi => ?_, fun _ => ?_, fun _ => ?_⟩
  · rw [List.length_append] at hi
    have hi' : i < c.length := by simpa using hi
    rw [getD_app_left hi']
    by_cases q : i + 1 < c.length
    · rw [getD_app_left q]; exact p.step i q
    · have e : i + 1 = c.length := by omega
      rw [e, getD_app_right]
      have hc : c ≠ [] := fun z => by rw [z] at hi'; simp at hi'
      have := p.last hc
      rwa [show c.length - 1 = i by omega] at this
  · by_cases hc : c = []
    · subst hc; exact p.nil rfl
    · have : 0 < c.length := List.length_pos_iff.mpr hc
      rw [getD_app_left this]; exact p.head hc
  · rw [List.length_append]
    show app l ((c ++ [h]).getD (c.length + 1 - 1) 0) = app l h
    rw [Nat.add_sub_cancel, getD_app_right]
/-- what is in a cycle has one ahead of it there -/
theorem Part.ahead {l : List Nat} {n : Nat} {cy : List (List Nat)} (P : Part l n cy) {x : Nat} (h : x ∈ cy.flatten) : ∃ y ∈ cy.flatten, app l y = x := by
  obtain ⟨c, hc, hx⟩ := List.mem_flatten.mp h
  obtain ⟨i, hi, e⟩ := mem_getD hx
  have h2 : (i + c.length - 1) % c.length < c.length := Nat.mod_lt _ (by omega)
  refine ⟨c.getD ((i + c.length - 1) % c.length) 0, List.mem_flatten.mpr ⟨c, hc, getD_mem h2⟩, ?_⟩
  rw [P.step c hc _ h2]
  have : ((i + c.length - 1) % c.length + 1) % c.length = i := by
    rw [Nat.mod_add_mod, show i + c.length - 1 + 1 = i + c.length by omega, Nat.add_mod_right, Nat.mod_eq_of_lt hi]
  rw [this, e]
theorem Part.close {l : List Nat} {n : Nat} {cy : List (List Nat)} {c : List Nat} {h b : Nat} (hp : l.Perm (List.range n)) (P : Part l n cy) (p : Path l c h b) (hc : c ≠ []) (nd : (cy.flatten ++ c).Nodup) (lt : ∀ x ∈ cy.flatten ++ c, x < n)
    (hm : h ∈ cy.flatten ++ c) : Part l n (cy ++ [c]) := by
  have hcl : 0 < c.length := List.length_pos_iff.mpr hc
  have hlast : c.getD (c.length - 1) 0 ∈ c := getD_mem (by omega)
  have hll := lt _ (List.mem_append.mpr (.inr hlast))
  have nd' := List.nodup_append.mp nd
  have hb : h = c.getD 0 0 := by
    rcases List.mem_append.mp hm with q | q
    · exfalso
      obtain ⟨y, hy, e⟩ := P.ahead q
      have := app_inj hp (P.lt y hy) hll (e.trans (p.last hc).symm)
      exact nd'.2.2 y hy _ hlast this
    · obtain ⟨i, hi, e⟩ := mem_getD q
      cases i with
      | zero => exact e.symm
      | succ i =>
        exfalso
        have h1 := p.step i hi
        have hmi : c.getD i 0 ∈ c := getD_mem (by omega)
        have := app_inj hp (lt _ (List.mem_append.mpr (.inr hmi))) hll ((h1.trans e).trans (p.last hc).symm)
        have := getD_inj nd'.2.1 (by omega) (by omega) this
        omega
  refine ⟨fun d hd => ?_, fun d hd i hi => ?_, by simpa using nd, by simpa using lt⟩
  · rcases List.mem_append.mp hd with q | q
    · exact P.ne d q
    · have : d = c := by simpa using q
      rw [this]; exact hc
  · rcases List.mem_append.mp hd with q | q
    · exact P.step d q i hi
    · have e : d = c := by simpa using q
      subst e
      by_cases hi1 : i + 1 < d.length
      · rw [Nat.mod_eq_of_lt hi1]; exact p.step i hi1
      · have : i = d.length - 1 := by omega
        rw [this, p.last hc, hb, show d.length - 1 + 1 = d.length by omega, Nat.mod_self]
/-- all cycles -/
structure Cyc (l : List Nat) (n : Nat) (cy : List (List Nat)) : Prop where
  part : Part l n cy
  all : ∀ x, x < n → x ∈ cy.flatten
theorem Cyc.perm {l : List Nat} {n : Nat} {cy : List (List Nat)} (C : Cyc l n cy) : cy.flatten.Perm (List.range n) := by
  rw [List.perm_ext_iff_of_nodup C.part.nd List.nodup_range]
  intro x
  rw [List.mem_range]
  exact ⟨C.part.lt x, C.all x⟩
theorem Cyc.len {l : List Nat} {n : Nat} {cy : List (List Nat)} (C : Cyc l n cy) {c : List Nat} (hc : c ∈ cy) : 0 < c.length ∧ c.length ≤ n := by
  refine ⟨List.length_pos_iff.mpr (C.part.ne c hc), ?_⟩
  have h1 := C.perm.length_eq
  rw [List.length_range] at h1
  rw [← h1]
  exact (List.sublist_flatten_of_mem hc).length_le
/-- so many turns within a cycle -/
theorem Cyc.itN {l : List Nat} {n : Nat} {cy : List (List Nat)} (C : Cyc l n cy) {c : List Nat} (hc : c ∈ cy) : ∀ (m i : Nat), i < c.length → itN l m (c.getD i 0) = c.getD ((i + m) % c.length) 0
  | 0, i, hi => by rw [Nat.add_zero, Nat.mod_eq_of_lt hi]; rfl
  | m + 1, i, hi => by
    show BM.itN l m (app l (c.getD i 0)) = _
    rw [C.part.step c hc i hi, Cyc.itN C hc m _ (Nat.mod_lt _ (by omega)), Nat.mod_add_mod]
    rw [show i + 1 + m = i + (m + 1) by omega]
theorem Cyc.at {l : List Nat} {n : Nat} {cy : List (List Nat)} (C : Cyc l n cy) {x : Nat} (h : x < n) : ∃ (k : Nat) (c : List Nat) (i : Nat), cy[k]? = some c ∧ i < c.length ∧ c.getD i 0 = x := by
  obtain ⟨c, hc, hx⟩ := List.mem_flatten.mp (C.all x h)
  obtain ⟨k, hk⟩ := List.mem_iff_getElem?.mp hc
  obtain ⟨i, hi, e⟩ := mem_getD hx
  exact ⟨k, c, i, hk, hi, e⟩
/-- one place for each -/
theorem flat_uniq : ∀ {cy : List (List Nat)}, cy.flatten.Nodup → ∀ {k k' i i' : Nat} {c c' : List Nat}, cy[k]? = some c → cy[k']? = some c' → i < c.length → i' < c'.length → c.getD i 0 = c'.getD i' 0 → k = k' ∧ i = i'
  | [], _, k, _, _, _, _, _, h, _, _, _, _ => by simp at h
  | d :: cy, nd, k, k', i, i', c, c', h, h', hi, hi', e => by
    rw [List.flatten_cons, List.nodup_append] at nd
    cases k with
    | zero =>
      have hd : d = c := by simpa using h
      subst hd
      cases k' with
      | zero =>
        have hd : d = c' := by simpa using h'
        subst hd
        exact ⟨rfl, getD_inj nd.1 hi hi' e⟩
      | succ k' =>
        exfalso
        have h2 : cy[k']? = some c' := by simpa using h'
        exact nd.2.2 _ (getD_mem hi) _ (List.mem_flatten.mpr ⟨c', List.mem_of_getElem? h2, getD_mem hi'⟩) e
    | succ k =>
      have h1 : cy[k]? = some c := by simpa using h
      cases k' with
      | zero =>
        exfalso
        have hd : d = c' := by simpa using h'
        subst hd
        exact nd.2.2 _ (getD_mem hi') _ (List.mem_flatten.mpr ⟨c, List.mem_of_getElem? h1, getD_mem hi⟩) e.symm
      | succ k' =>
        have h2 : cy[k']? = some c' := by simpa using h'
        obtain ⟨a, b⟩ := flat_uniq nd.2.1 h1 h2 hi hi' e
        exact ⟨by omega, b⟩
end BM
end
section
set_option Elab.async false
set_option linter.all false
set_option maxRecDepth 100000
set_option maxHeartbeats 4000000
namespace BH
open PySem PySem.Spec PyProof.Rows L2 BM
theorem app_eq {l : List Nat} {i : Nat} (h : i < l.length) : (l.map fun n : Nat => V.int (n : Int))[i]? = some (V.int (app l i : Nat)) := map_getD l h
theorem lt_len {l : List Nat} {n : Nat} (nd : l.Nodup) (h : ∀ x ∈ l, x < n) : l.length ≤ n := by
  have := List.Nodup.length_le_of_subset nd (l₂ := List.range n) (fun x hx => List.mem_range.mpr (h x hx))
  rwa [List.length_range] at this
theorem seen_in {l : List Nat} {b : Nat} (h : b ∈ l) : valV (seenK l) (Sum.inl (b : Int) : Key) ≠ none := by
  unfold valV seenK
  rw [Ne, Option.map_eq_none_iff, List.find?_eq_none]
  intro hz
  exact hz _ (List.mem_map.mpr ⟨b, h, rfl⟩) (by simp)
section
variable {P : Program} {w : World} {K : PySem.W.Frag} {mg : Str → Option Value} {base : Heap}
def sp_row_cycles (K : PySem.W.Frag) : Sp := Pu fun B vs R => ∃ (v : V) (l : List Nat) (n : Nat), vs = [v] ∧ LN K B v l ∧ l.Perm (List.range n) ∧ n ≤ 100 ∧ R = fun B' v => ∃ cy, LNs K B' v cy ∧ Cyc l n cy
theorem c_row_cycles (T : Txt w K mg) : Has P w K mg base "row_cycles" 1 ["row"] (sp_row_cycles K) := by
  refine Has.of T.f_row_cycles T.g_row_cycles sc_row_cycles (fun _ _ _ _ _ _ us hl => match us, hl with | [_], _ => rfl) (fun vs H Q E h => ?_) (fun f cdv A outer s H vs Q E hr h => ?_)
  · obtain ⟨B, R, hB, ⟨v, l, n, rfl, _⟩, _⟩ := h; rfl
  · obtain ⟨B, R, hB, ⟨v, l, n, rfl, ⟨a, rfl, ha⟩, hp, hn, rfl⟩, k⟩ := h
    have hu := hu_of hr
    have hl : l.length = n := by rw [hp.length_eq, List.length_range]
    refine ⟨_, (pss_cons (ps_par (i := 1) (j := 2) rfl sc_row_cycles.nd rfl rfl (by decide) rfl rfl (pa_cons (pe_lst pa_nil) (pa_cons pe_dnewK pa_nil)) (by rfl))
      (pss_cons (ps_for PassesOwn.never rfl (pi_range1 rfl T.b_range (pa_cons (pe_callB (cLen (K := K) rfl) (by rfl) T.b_len (by decide +kernel) (pa_cons (pv 0) pa_nil)) pa_nil)) (pg_name (i := 3) sc_row_cycles.nd rfl (.inl rfl))
      (pss_cons (ps_par (i := 4) (j := 5) rfl sc_row_cycles.nd rfl rfl (by decide) rfl rfl (pa_cons (pe_lst pa_nil) (pa_cons (pv 3) pa_nil)) (by rfl))
      (pss_cons (ps_while PassesOwn.never (pt_cmp (pc_dnotin hu (pv 5) (pv 2))) (pss_cons (ps_dput hu (pv 2) (pv 5) pe_bl rfl)
      (pss_cons (ps_expr (pe_bm PySem.F.plainAttrs_list PySem.F.slot_list_append PySem.F.type_list_append mt_append (pv 4) (pa_cons (pv 5) pa_nil)))
      (pss_one (ps_set (i := 5) sc_row_cycles.nd rfl (.inl rfl) (pe_ix (xL (K := K) rfl) (pv 0) (pv 5) (fun _ _ => rfl)))))))
      (pss_one (ps_if (pt_cmpR (op_neE hr.units0) (pv 4) (pe_lst pa_nil) (nomark _)) (pss_one (ps_expr (pe_bm PySem.F.plainAttrs_list PySem.F.slot_list_append PySem.F.type_list_append mt_append (pv 1) (pa_cons (pv 4) pa_nil)))) pss_nil)))))
      (pss_one (ps_ret (pv 1))))), ?_⟩
    refine ⟨by show 0 ≤ sizeLine; decide, fun fo nfo => fun se nse => ?_⟩
    have e1 := Ext.tmp hB (.lst []) nfo
    have mf1 := Mine.new (o := .lst []) (Ext.refl hB) nfo
    have e2 := e1.trans (Ext.tmp e1.w (.dK []) nse)
    have mf2 := mf1.ext (Ext.tmp e1.w (.dK []) nse)
    have ms2 := Mine.new (o := .dK []) e1 nse
    refine ⟨_, _, rfl, ?_⟩
    refine ⟨_, rfl, a, _, rfl, .inl (e2.bh.seq ha), _, rfl, by rw [List.length_map, hl]; omega, by rw [List.length_map, hl]; omega, ?_⟩
    rw [show ((l.map fun n : Nat => V.int (n : Int)).length : Int).toNat = n by rw [List.length_map, hl]; omega]
    refine (for_it (walk_rng n) (fun i σ' H' => ∃ (B' : Hp) (cvs : List V) (cy : List (List Nat)) (v3 v4 v5 : Option V), σ' = [some (.ref a), some (.ref fo), some (.ref se), v3, v4, v5] ∧ Ext B H B' H' ∧ Mine H B' H' fo (.lst cvs) ∧ Mine H B' H' se (.dK (seenK cy.flatten)) ∧ Paired (LN K B') cvs cy ∧ BM.Part l n cy ∧ (∀ x, x < i → x ∈ cy.flatten) ∧ cy.length ≤ i)
      ⟨B, [], [], none, none, none, rfl, e2, mf2, ms2, .nil, ⟨fun c h => (by cases h), fun c h => (by cases h), List.nodup_nil, fun x h => (by cases h)⟩, fun x h => by omega, Nat.le_refl _⟩ (fun i σ' H' _ _ => trivial) ?_ ?_)
    · rintro i y σ' H3 H3' hi ⟨B3, cvs, cy, v3, v4, v5, rfl, e3, mf3, ms3, hcv, hpt, hall, hcl⟩ ⟨rfl, rfl⟩
      refine ⟨by show 0 ≤ sizeLine; decide, fun c nc => ?_⟩
      have e4 := Ext.tmp e3.w (.lst []) nc
      have E4 := e3.trans e4
      have mf4 := mf3.ext e4
      have ms4 := ms3.ext e4
      have mc4 := Mine.new (o := .lst []) e3 nc
      have hfc : fo ≠ c := fun z => by subst z; rw [mf3.h] at nc; cases nc
      have hsc : se ≠ c := fun z => by subst z; rw [ms3.h] at nc; cases nc
      have hfs : fo ≠ se := fun z => by subst z; have := ms3.h; rw [mf3.h] at this; cases this
      refine ⟨_, rfl, _, _, rfl, ?_⟩
      refine ⟨fun m σ H' => ∃ (B' : Hp) (p : List Nat) (h : Nat), σ = [some (.ref a), some (.ref fo), some (.ref se), some (.int (0 + (i : Int))), some (.ref c), some (.int (h : Int))] ∧ Ext B H B' H' ∧ Mine H B' H' fo (.lst cvs) ∧ Mine H B' H' se (.dK (seenK (cy.flatten ++ p))) ∧ Mine H B' H' c (.lst (p.map fun n : Nat => V.int (n : Int))) ∧ Path l p h i ∧ (cy.flatten ++ p).Nodup ∧ (∀ x ∈ cy.flatten ++ p, x < n) ∧ h < n ∧ m = n - (cy.flatten ++ p).length ∧ Same B3 B',
        ⟨_, B3, [], i, congrArg (fun z : Int => [some (V.ref a), some (V.ref fo), some (V.ref se), some (V.int (0 + (i : Int))), some (V.ref c), some (V.int z)]) (Int.zero_add (i : Int)), E4, mf4, by rw [List.append_nil]; exact ms4, mc4, ⟨fun _ => rfl, fun j h => by simp at h, fun h => absurd rfl h, fun h => absurd rfl h⟩, by rw [List.append_nil]; exact hpt.nd, by rw [List.append_nil]; exact hpt.lt, hi, rfl, Same.refl _⟩, ?_⟩
      rintro m σ5 H5 ⟨B5, p, h, rfl, e5, mf5, ms5, mc5, hpath, hnd, hlt, hh, hm, hsm⟩
      have hlen := lt_len hnd hlt
      refine ⟨_, rfl, _, rfl, se, _, rfl, DGet.k (k := Sum.inl (h : Int)) ms5.h, _, rfl, ?_⟩
      by_cases hin : h ∈ cy.flatten ++ p
      · refine iteBF ?_ ?_
        · cases hz : valV (seenK (cy.flatten ++ p)) (Sum.inl (h : Int) : Key) with
          | none => exact absurd hz (seen_in hin)
          | some _ => rfl
        refine ⟨_, rfl, by show 0 ≤ sizeLine; decide, fun z nz => ?_⟩
        have e6 := Ext.tmp e5.w (.lst []) nz
        have E6 := e5.trans e6
        have mf6 := mf5.ext e6
        have ms6 := ms5.ext e6
        have mc6 := mc5.ext e6
        refine ⟨c, z, _, rfl, rfl, .inl ⟨SqL.of mc6.h, SqL.of upd_same⟩, _, rfl, ?_⟩
        by_cases hpe : p = []
        · refine iteBF (by rw [hpe]; rfl) ?_
          have hhi := hpath.nil hpe
          rw [hpe, List.append_nil] at ms6 hin
          refine ⟨B5, cvs, cy, _, _, _, rfl, E6, mf6, ms6, Paired.mapP hcv fun _ _ h => h.mono hsm, hpt, fun x hx => ?_, by omega⟩
          by_cases hxi : x = i
          · rw [hxi, ← hhi]; exact hin
          · exact hall x (by omega)
        · refine iteB (by cases p with | nil => exact absurd rfl hpe | cons x p => rfl) ?_
          have hcl2 : cvs.length = cy.length := Paired.length hcv
          refine ⟨_, rfl, .inl ⟨rfl, _, SqL.of mf6.h⟩, _, rfl, fo, _, _, rfl, rfl, mf6.h, small1000 (by omega), ?_⟩
          have e7 := mf6.set E6 (.lst (cvs ++ [.ref c]))
          have mf7 := (mf6.put (.lst (cvs ++ [.ref c]))).keep (q := c) (u := .lst (p.map fun n : Nat => V.int (n : Int))) hfc
          have ms7 := (ms6.other (u := .lst (cvs ++ [.ref c])) (Ne.symm hfs)).keep (q := c) (u := .lst (p.map fun n : Nat => V.int (n : Int))) hsc
          have mc7 := mc6.other (u := .lst (cvs ++ [.ref c])) (Ne.symm hfc)
          have e8 := mc7.frz e7
          have hb8 : Same B5 (upd B5 c (.lst (p.map fun n : Nat => V.int (n : Int)))) := Same.new mc7.b
          have hpt' := hpt.close hp hpath hpe hnd hlt hin
          refine ⟨_, cvs ++ [.ref c], cy ++ [p], _, _, _, rfl, e8, mf7, by rw [List.flatten_append]; simpa using ms7, ?_, hpt', fun x hx => ?_, by rw [List.length_append]; simp; omega⟩
          · exact paired_app (Paired.mapP hcv fun _ _ h => (h.mono hsm).mono hb8) (.cons ⟨c, rfl, SqL.of upd_same⟩ .nil)
          · rw [List.flatten_append, List.mem_append]
            by_cases hxi : x = i
            · right
              have h0 := hpath.head hpe
              have : p.getD 0 0 ∈ p := getD_mem (List.length_pos_iff.mpr hpe)
              rw [h0] at this
              simpa [hxi] using this
            · exact .inl (hall x (by omega))
      · have hnone := seen_not hin
        refine iteB (by rw [hnone]; rfl) ?_
        have hnd' : (cy.flatten ++ (p ++ [h])).Nodup := by
          rw [← List.append_assoc, List.nodup_append]
          exact ⟨hnd, by simp, fun x hx y hy => by
            have : y = h := by simpa using hy
            subst this
            exact fun z => hin (z ▸ hx)⟩
        have hlt' : ∀ x ∈ cy.flatten ++ (p ++ [h]), x < n := by
          intro x hx
          rw [← List.append_assoc, List.mem_append] at hx
          rcases hx with q | q
          · exact hlt x q
          · have : x = h := by simpa using q
            omega
        have hlen' := lt_len hnd' hlt'
        have hl1 : (cy.flatten ++ (p ++ [h])).length = (cy.flatten ++ p).length + 1 := by
          simp only [List.length_append, List.length_cons, List.length_nil]
          omega
        have hpl : p.length ≤ (cy.flatten ++ p).length := by rw [List.length_append]; omega
        have hsk : (seenK (cy.flatten ++ p)).length < sizeLine := by rw [seen_len]; exact small1000 (by omega)
        refine ⟨_, fun σ' H' h => h, _, rfl, _, rfl, se, _, rfl, DPut.k (k := Sum.inl (h : Int)) ms5.h hsk, ?_⟩
        rw [seen_put hin]
        have e6 := ms5.set e5 (.dK (seenK (cy.flatten ++ p ++ [h])))
        have ms6 := ms5.put (.dK (seenK (cy.flatten ++ p ++ [h])))
        have mf6 := mf5.other (u := .dK (seenK (cy.flatten ++ p ++ [h]))) hfs
        have mc6 := mc5.other (u := .dK (seenK (cy.flatten ++ p ++ [h]))) (Ne.symm hsc)
        refine ⟨_, rfl, .inl ⟨rfl, _, SqL.of mc6.h⟩, _, rfl, c, _, _, rfl, rfl, mc6.h, by rw [List.length_map]; exact small1000 (by omega), ?_⟩
        have e7 := mc6.set e6 (.lst (p.map (fun n : Nat => V.int (n : Int)) ++ [.int (h : Int)]))
        have mc7 := mc6.put (.lst (p.map (fun n : Nat => V.int (n : Int)) ++ [.int (h : Int)]))
        have mf7 := mf6.other (u := .lst (p.map (fun n : Nat => V.int (n : Int)) ++ [.int (h : Int)])) hfc
        have ms7 := ms6.other (u := .lst (p.map (fun n : Nat => V.int (n : Int)) ++ [.int (h : Int)])) hsc
        refine ⟨_, rfl, _, rfl, a, _, _, _, rfl, rfl, e7.bh.seq ha, atI_nat (app_eq (by omega)), ?_⟩
        refine ⟨n - (cy.flatten ++ (p ++ [h])).length, by omega, B5, p ++ [h], app l h, rfl, e7, mf7, by rw [← List.append_assoc]; exact ms7, by rw [List.map_append]; exact mc7, hpath.push, hnd', hlt', app_lt hp hh, rfl, hsm⟩
    · rintro σ' H3 ⟨B3, cvs, cy, v3, v4, v5, rfl, e3, mf3, ms3, hcv, hpt, hall, hcl⟩
      exact ⟨_, rfl, k _ _ _ (mf3.frz e3) ⟨cy, ⟨fo, cvs, rfl, SqL.of upd_same, Paired.mapP hcv fun _ _ h => h.mono mf3.frz1⟩, hpt, hall⟩⟩
/-- the row of a queue so many turns later -/
def powL (l : List Nat) (n m : Nat) : List Nat := (List.range n).map (itN l m)
theorem getD_set {fl : List Nat} {i x v : Nat} : (fl.set i v).getD x 0 = if i = x ∧ x < fl.length then v else fl.getD x 0 := by
  rw [List.getD_eq_getElem?_getD, List.getElem?_set]
  by_cases h : i = x
  · subst h
    by_cases q : i < fl.length
    · simp [q]
    · rw [if_pos rfl, if_neg q, if_neg (fun z => q z.2), List.getD_eq_getElem?_getD, List.getElem?_eq_none (by omega)]
  · rw [if_neg h, if_neg (fun z => h z.1), List.getD_eq_getElem?_getD]
theorem set_map {fl : List Nat} {i v : Nat} : (fl.map fun n : Nat => V.int (n : Int)).set i (V.int (v : Int)) = (fl.set i v).map fun n : Nat => V.int (n : Int) := by
  rw [List.map_set]
theorem ext_getD {a b : List Nat} (hl : a.length = b.length) (h : ∀ i, i < a.length → a.getD i 0 = b.getD i 0) : a = b := by
  apply List.ext_getElem hl
  intro i h1 h2
  have := h i h1
  rwa [List.getD_eq_getElem?_getD, List.getD_eq_getElem?_getD, List.getElem?_eq_getElem h1, List.getElem?_eq_getElem h2] at this
theorem ixN_at {n i : Nat} (h : i < n) : ixN n (i : Int) = some i := by
  unfold ixN
  rw [if_pos (by omega), if_pos (by omega), Int.toNat_natCast]
def sp_power_row (K : PySem.W.Frag) : Sp := Pu fun B vs R => ∃ (v : V) (l : List Nat) (n m : Nat), vs = [v, .int (m : Int)] ∧ LN K B v l ∧ l.Perm (List.range n) ∧ n ≤ 100 ∧ R = fun B' v => LN K B' v (powL l n m)
theorem c_power_row (T : Txt w K mg) : Has P w K mg base "power_row" 2 ["row", "times"] (sp_power_row K) := by
  refine Has.of T.f_power_row T.g_power_row sc_power_row (fun _ _ _ _ _ _ us hl => match us, hl with | [_, _], _ => rfl) (fun vs H Q E h => ?_) (fun f cdv A outer s H vs Q E hr h => ?_)
  · obtain ⟨B, R, hB, ⟨v, l, n, m, rfl, _⟩, _⟩ := h; rfl
  · obtain ⟨B, R, hB, ⟨v, l, n, m, rfl, ⟨a, rfl, ha⟩, hp, hn, rfl⟩, k⟩ := h
    have hl : l.length = n := by rw [hp.length_eq, List.length_range]
    refine ⟨_, (pss_cons (ps_set (i := 2) sc_power_row.nd rfl (.inl rfl) (pe_callTy (cLst (K := K) rfl) (by rfl) T.b_list (by decide +kernel) (pa_cons (pv 0) pa_nil)))
      (pss_cons (ps_for PassesOwn.never rfl (piL (K := K) rfl (pc (c_row_cycles T) hr (pa_cons (pv 0) pa_nil))) (pg_name (i := 3) sc_power_row.nd rfl (.inl rfl))
      (pss_one (ps_for PassesOwn.never rfl (pi_enum rfl T.b_enumerate (pa_cons (pv 3) pa_nil)) (pg_tup rfl (pgs_cons (pg_name (i := 4) sc_power_row.nd rfl (.inl rfl)) (pgs_cons (pg_name (i := 5) sc_power_row.nd rfl (.inl rfl)) pgs_nil)))
      (pss_one (ps_asg (pe_ix (xL (K := K) rfl) (pv 3) (pe_op op_mod (pe_op op_add (pv 4) (pv 1)) (pe_callB (cLen (K := K) rfl) (by rfl) T.b_len (by decide +kernel) (pa_cons (pv 3) pa_nil))) (fun _ _ => rfl)) (pg_sub (pv 2) (pv 5) set_list))))))
      (pss_one (ps_ret (pv 2))))), ?_⟩
    refine ⟨_, rfl, a, _, rfl, .inl (hB.seq ha), fun fo nfo => ?_⟩
    have e1 := Ext.tmp hB (.lst (l.map fun n : Nat => V.int (n : Int))) nfo
    have m1 := Mine.new (o := .lst (l.map fun n : Nat => V.int (n : Int))) (Ext.refl hB) nfo
    refine ⟨_, rfl, B, _, e1.w, ⟨_, l, n, rfl, ⟨a, rfl, ha⟩, hp, hn, rfl⟩, fun B2 H2 v2 e2 hv2 => ?_⟩
    obtain ⟨cy, ⟨ca, cvs, rfl, hca, hcv⟩, C⟩ := hv2
    have E2 := e1.trans e2
    have m2 := m1.ext e2
    have hcyl : cvs.length = cy.length := Paired.length hcv
    refine ⟨ca, rfl, ⟨_, e2.w.seq hca⟩, for_it (walk_list cvs) (fun i σ' H' => ∃ (B' : Hp) (fl : List Nat) (v3 v4 v5 : Option V), σ' = [some (.ref a), some (.int (m : Int)), some (.ref fo), v3, v4, v5] ∧ Ext B H B' H' ∧ Same B2 B' ∧ Mine H B' H' fo (.lst (fl.map fun n : Nat => V.int (n : Int))) ∧ fl.length = n ∧ (∀ k c x, k < i → cy[k]? = some c → x ∈ c → fl.getD x 0 = itN l m x))
      ⟨B2, l, none, none, none, rfl, E2, Same.refl _, m2, hl, fun k c x h => by omega⟩ (fun i σ' H' _ ⟨B', _, _, _, _, _, e, s, _⟩ => e.w.seq (s.seq hca)) ?_ ?_⟩
    · rintro i y σ' H3 H3' hi ⟨B3, fl, v3, v4, v5, rfl, e3, s3, m3, hfl, hdone⟩ ⟨rfl, hy⟩
      obtain ⟨c, hc, q, rfl, hq⟩ := pat hcv hy
      have hcm := List.mem_of_getElem? hc
      have hclen := C.len hcm
      have hclt : ∀ x ∈ c, x < n := fun x hx => C.part.lt x (List.mem_flatten.mpr ⟨c, hcm, hx⟩)
      refine ⟨_, rfl, q, _, rfl, e3.w.seq (s3.seq hq), for_it (walk_enum0 _) (fun j σ' H' => ∃ (B' : Hp) (fl : List Nat) (v4 v5 : Option V), σ' = [some (.ref a), some (.int (m : Int)), some (.ref fo), some (.ref q), v4, v5] ∧ Ext B H B' H' ∧ Same B2 B' ∧ Mine H B' H' fo (.lst (fl.map fun n : Nat => V.int (n : Int))) ∧ fl.length = n ∧ (∀ k c x, k < i → cy[k]? = some c → x ∈ c → fl.getD x 0 = itN l m x) ∧ (∀ z, z < j → z < c.length → fl.getD (c.getD z 0) 0 = itN l m (c.getD z 0)))
        ⟨B3, fl, v4, v5, rfl, e3, s3, m3, hfl, hdone, fun z h => by omega⟩ (fun i σ' H' _ ⟨B', _, _, _, _, e, s, _⟩ => e.w.seq (s.seq hq)) ?_ ?_⟩
      · rintro j y σ' H4 H4' hj ⟨B4, fl, v4, v5, rfl, e4, s4, m4, hfl, hdone, hz⟩ ⟨Tp, z, rfl, nT, rfl, hz1⟩
        rw [List.getElem?_map] at hz1
        obtain ⟨x, hx, rfl⟩ := Option.map_eq_some_iff.mp hz1
        have hjc : j < c.length := (List.getElem?_eq_some_iff.mp hx).1
        have hxj : c.getD j 0 = x := by rw [List.getD_eq_getElem?_getD, hx]; rfl
        have hxn := hclt x (List.mem_of_getElem? hx)
        have e5 := Ext.tmp e4.w (.tup [.int (j : Nat), .int (x : Int)]) nT
        have m5 := m4.ext e5
        have E5 := e4.trans e5
        refine ⟨Tp, _, rfl, SqT.of upd_same, rfl, _, _, rfl, _, _, rfl, rfl, ?_⟩
        have hmod : ((j : Int) + (m : Int)) % (((c.map fun n : Nat => V.int (n : Int)).length : Nat) : Int) = (((j + m) % c.length : Nat) : Int) := by
          rw [List.length_map, ← Int.natCast_add, ← Int.natCast_emod]
        have hlt2 : (j + m) % c.length < c.length := Nat.mod_lt _ (by omega)
        refine ⟨_, rfl, _, rfl, _, rfl, _, _, rfl, rfl, _, rfl, q, _, rfl, .inl (e5.w.seq (s4.seq hq)), _, _, rfl, rfl, by rw [List.length_map]; omega, q, _, _, _, rfl, rfl, e5.w.seq (s4.seq hq), at_of (j := (j + m) % c.length) hmod (map_getD c hlt2), ?_⟩
        refine ⟨_, rfl, _, rfl, fo, _, _, x, rfl, rfl, m5.h, by rw [List.length_map]; exact ixN_at (by omega), ?_⟩
        rw [set_map]
        refine ⟨B4, fl.set x (c.getD ((j + m) % c.length) 0), _, _, rfl, m5.set E5 _, s4, m5.put _, by rw [List.length_set]; exact hfl, ?_, ?_⟩
        · intro k' c' x' hk' hc' hx'
          rw [getD_set]
          split
          · rename_i h
            exfalso
            obtain ⟨i', hi', e'⟩ := mem_getD hx'
            have := (flat_uniq C.part.nd hc hc' hjc hi' (by rw [hxj, e', h.1])).1
            omega
          · exact hdone k' c' x' hk' hc' hx'
        · intro z hz1 hz2
          rw [getD_set]
          split
          · rename_i h
            rw [← h.1, ← hxj, C.itN hcm m j hjc]
          · rename_i h
            by_cases hzj : z = j
            · subst hzj
              exfalso
              exact h ⟨hxj.symm, by rw [hxj]; omega⟩
            · exact hz z (by omega) hz2
      · rintro σ' H4 ⟨B4, fl, v4, v5, rfl, e4, s4, m4, hfl, hdone, hz⟩
        refine ⟨B4, fl, _, _, _, rfl, e4, s4, m4, hfl, fun k' c' x hk' hc' hx => ?_⟩
        by_cases hki : k' = i
        · subst hki
          rw [hc] at hc'
          obtain rfl := Option.some.inj hc'
          obtain ⟨z, hz1, e⟩ := mem_getD hx
          rw [← e]
          exact hz z (by rw [List.length_map]; exact hz1) hz1
        · exact hdone k' c' x (by omega) hc' hx
    · rintro σ' H3 ⟨B3, fl, v3, v4, v5, rfl, e3, s3, m3, hfl, hdone⟩
      refine ⟨_, rfl, k _ _ _ (m3.frz e3) ⟨fo, rfl, ?_⟩⟩
      have : powL l n m = fl := by
        apply ext_getD
        · unfold powL; rw [List.length_map, List.length_range, hfl]
        · intro x hx
          unfold powL at hx ⊢
          rw [List.length_map, List.length_range] at hx
          obtain ⟨k', c', i', h1, h2, h3⟩ := C.at hx
          rw [hdone k' c' x (by rw [hcyl]; exact (List.getElem?_eq_some_iff.mp h1).1) h1 (h3 ▸ getD_mem h2)]
          rw [List.getD_eq_getElem?_getD, List.getElem?_map, List.getElem?_range hx]
          rfl
      rw [this]
      exact SqL.of upd_same
/-- a row that undoes another -/
def IsInv (l inv : List Nat) (n : Nat) : Prop := inv.length = n ∧ ∀ p, p < n → inv.getD (l.getD p 0) 0 = p
def sp_inverse_row (K : PySem.W.Frag) : Sp := Pu fun B vs R => ∃ (v : V) (l : List Nat) (n : Nat), vs = [v] ∧ LN K B v l ∧ l.Perm (List.range n) ∧ n ≤ 100 ∧ R = fun B' v => ∃ inv, LN K B' v inv ∧ IsInv l inv n
theorem c_inverse_row (T : Txt w K mg) : Has P w K mg base "inverse_row" 1 ["row"] (sp_inverse_row K) := by
  refine Has.of T.f_inverse_row T.g_inverse_row sc_inverse_row (fun _ _ _ _ _ _ us hl => match us, hl with | [_], _ => rfl) (fun vs H Q E h => ?_) (fun f cdv A outer s H vs Q E hr h => ?_)
  · obtain ⟨B, R, hB, ⟨v, l, n, rfl, _⟩, _⟩ := h; rfl
  · obtain ⟨B, R, hB, ⟨v, l, n, rfl, ⟨a, rfl, ha⟩, hp, hn, rfl⟩, k⟩ := h
    have hl : l.length = n := by rw [hp.length_eq, List.length_range]
    have hnd : l.Nodup := hp.nodup_iff.mpr List.nodup_range
    refine ⟨_, (pss_cons (ps_set (i := 1) sc_inverse_row.nd rfl (.inl rfl) (pe_callTy (cLst (K := K) rfl) (by rfl) T.b_list (by decide +kernel) (pa_cons (pv 0) pa_nil)))
      (pss_cons (ps_for PassesOwn.never rfl (pi_enum rfl T.b_enumerate (pa_cons (pv 0) pa_nil)) (pg_tup rfl (pgs_cons (pg_name (i := 2) sc_inverse_row.nd rfl (.inl rfl)) (pgs_cons (pg_name (i := 3) sc_inverse_row.nd rfl (.inl rfl)) pgs_nil)))
      (pss_one (ps_asg (pv 2) (pg_sub (pv 1) (pv 3) set_list))))
      (pss_one (ps_ret (pv 1))))), ?_⟩
    refine ⟨_, rfl, a, _, rfl, .inl (hB.seq ha), fun fo nfo => ?_⟩
    have e1 := Ext.tmp hB (.lst (l.map fun n : Nat => V.int (n : Int))) nfo
    have m1 := Mine.new (o := .lst (l.map fun n : Nat => V.int (n : Int))) (Ext.refl hB) nfo
    refine ⟨_, rfl, a, _, rfl, e1.bh.seq ha, for_it (walk_enum0 _) (fun j σ' H' => ∃ (B' : Hp) (fl : List Nat) (v2 v3 : Option V), σ' = [some (.ref a), some (.ref fo), v2, v3] ∧ Ext B H B' H' ∧ Mine H B' H' fo (.lst (fl.map fun n : Nat => V.int (n : Int))) ∧ fl.length = n ∧ (∀ p, p < j → p < n → fl.getD (l.getD p 0) 0 = p))
      ⟨B, l, none, none, rfl, e1, m1, hl, fun p h => by omega⟩ (fun i σ' H' _ ⟨B', _, _, _, _, e, _⟩ => e.bh.seq ha) ?_ ?_⟩
    · rintro j y σ' H4 H4' hj ⟨B4, fl, v2, v3, rfl, e4, m4, hfl, hdone⟩ ⟨Tp, z, rfl, nT, rfl, hz1⟩
      rw [List.getElem?_map] at hz1
      obtain ⟨x, hx, rfl⟩ := Option.map_eq_some_iff.mp hz1
      have hjc : j < l.length := (List.getElem?_eq_some_iff.mp hx).1
      have hxj : l.getD j 0 = x := by rw [List.getD_eq_getElem?_getD, hx]; rfl
      have hxn : x < n := List.mem_range.mp (hp.mem_iff.mp (List.mem_of_getElem? hx))
      have e5 := Ext.tmp e4.w (.tup [.int (j : Nat), .int (x : Int)]) nT
      have m5 := m4.ext e5
      have E5 := e4.trans e5
      refine ⟨Tp, _, rfl, SqT.of upd_same, rfl, _, _, rfl, _, _, rfl, rfl, ?_⟩
      refine ⟨_, rfl, _, rfl, _, rfl, fo, _, _, x, rfl, rfl, m5.h, by rw [List.length_map]; exact ixN_at (by omega), ?_⟩
      rw [set_map]
      refine ⟨B4, fl.set x j, _, _, rfl, m5.set E5 _, m5.put _, by rw [List.length_set]; exact hfl, ?_⟩
      intro p hp1 hp2
      rw [getD_set]
      split
      · rename_i h
        exact getD_inj hnd (by omega) (by omega) (hxj.trans h.1)
      · rename_i h
        by_cases hpj : p = j
        · subst hpj
          exfalso
          exact h ⟨hxj.symm, by rw [hxj]; omega⟩
        · exact hdone p (by omega) hp2
    · rintro σ' H4 ⟨B4, fl, v2, v3, rfl, e4, m4, hfl, hdone⟩
      refine ⟨_, rfl, k _ _ _ (m4.frz e4) ⟨fl, ⟨fo, rfl, SqL.of upd_same⟩, hfl, fun p hp => hdone p (by rw [List.length_map, hl]; exact hp) hp⟩⟩
end
end BH
end
section
set_option linter.all false
namespace BM
/-! ### sights by their counts -/
theorem fill_cnts : ∀ (rr : List Rail) (cs : List Nat), two rr → fits rr cs → ∀ q : List Nat, need rr ≤ q.length → (fill rr cs q).2.map List.length = cs
  | [], [], _, _, q, _ => rfl
  | [], _ :: _, _, h, _, _ => h.elim
  | _ :: _, [], _, h, _, _ => h.elim
  | (b, w) :: rr, c :: cs, h2, h, q, hn => by
    have h2' : two rr := fun r hr => h2 r (List.mem_cons_of_mem _ hr)
    have hc : c < b := h.1
    have hn' : (b - 1) + need rr ≤ q.length := hn
    have hl := rep_len (f := runL rr) (m := need rr) (fun l hl => runL_len rr h2' l hl) (need_pos rr) c q (by omega)
    show List.map List.length ((rep (runL rr) c q).1 :: (fill rr cs (rep (runL rr) c q).2).2) = _
    rw [List.map_cons, hl.1, fill_cnts rr cs h2' h.2 _ (by omega)]
theorem spots_cnts {c : Clk} (hc : c.Ok) {cs : List Nat} (hf : fits c.rs cs) {q : List Nat} (hq : q.length = c.n) : cnts (spots c.rs cs q) = cs := by
  unfold cnts spots
  show List.map List.length (fill c.rs.reverse cs.reverse q).2.reverse = cs
  rw [List.map_reverse, fill_cnts _ _ (two_reverse hc.two) (fits_reverse _ _ hf) q (by rw [need_reverse, hq]; exact hc.need), List.reverse_reverse]
theorem spots_vs {c : Clk} (hc : c.Ok) {cs : List Nat} (hf : fits c.rs cs) : VS c (spots c.rs cs (List.range c.n)) := by
  rw [spots_counts c hc _ List.length_range cs hf]
  exact stepN_vs hc _ (first_vs hc)
theorem rows_inj : ∀ {a b : List (List Nat)}, a.map List.length = b.map List.length → a.flatten = b.flatten → a = b
  | [], [], _, _ => rfl
  | [], _ :: _, h, _ => by simp at h
  | _ :: _, [], h, _ => by simp at h
  | x :: a, y :: b, h, e => by
    rw [List.map_cons, List.map_cons] at h
    obtain ⟨h1, h2⟩ := List.cons.inj h
    rw [List.flatten_cons, List.flatten_cons] at e
    obtain ⟨e1, e2⟩ := List.append_inj e h1
    rw [e1, rows_inj h2 e2]
theorem sg_inj {a b : Sg Nat} (h : cnts a = cnts b) (e : flat a = flat b) : a = b := by
  have hl : a.1.length = b.1.length := by
    have h1 := flat_len a
    have h2 := flat_len b
    rw [e, h] at h1
    omega
  obtain ⟨a1, a2⟩ := a
  obtain ⟨b1, b2⟩ := b
  obtain ⟨e1, e2⟩ := List.append_inj (show a1 ++ a2.flatten = b1 ++ b2.flatten from e) hl
  rw [show a1 = b1 from e1, rows_inj (a := a2) (b := b2) h e2]
theorem cnts_map (f : Nat → Nat) (s : Sg Nat) : cnts (Sg.map f s) = cnts s := by
  unfold cnts Sg.map
  rw [List.map_map]
  apply List.map_congr_left
  intro r _
  exact List.length_map f
theorem flat_map (f : Nat → Nat) (s : Sg Nat) : flat (Sg.map f s) = (flat s).map f := by
  unfold flat Sg.map
  rw [List.map_append, List.map_flatten]
theorem getD_eq {l : List Nat} {i : Nat} {d e : Nat} (h : i < l.length) : l.getD i d = l.getD i e := by
  rw [List.getD_eq_getElem?_getD, List.getD_eq_getElem?_getD, List.getElem?_eq_getElem h]
  rfl
/-- the queue behind a sight -/
theorem queue_ok {c : Clk} (hc : c.Ok) {s : Sg Nat} (vs : VS c s) {inv : List Nat} (hi : inv.length = c.n) (h : ∀ p, p < c.n → inv.getD ((flat (spots c.rs (cnts s) (List.range c.n))).getD p 0) 0 = p) :
    spots c.rs (cnts s) (inv.map fun j => (flat s).getD j 0) = s := by
  have hS := spots_vs hc vs.fits
  have hlS : (flat (spots c.rs (cnts s) (List.range c.n))).length = c.n := by rw [hS.perm.length_eq, List.length_range]
  have hls : (flat s).length = c.n := by rw [vs.perm.length_eq, List.length_range]
  have e0 : (inv.map fun j => (flat s).getD j 0) = (List.range c.n).map (fun x => (flat s).getD (inv.getD x 0) 0) := by
    have := by_places 0 inv
    rw [hi] at this
    conv => lhs; rw [← this]
    rw [List.map_map]
    rfl
  have e1 : spots c.rs (cnts s) ((List.range c.n).map (fun x => (flat s).getD (inv.getD x 0) 0)) = Sg.map (fun x => (flat s).getD (inv.getD x 0) 0) (spots c.rs (cnts s) (List.range c.n)) := spots_map _ _ _ _
  rw [e0, e1]
  apply sg_inj
  · rw [cnts_map, spots_cnts hc vs.fits List.length_range]
  · rw [flat_map]
    apply List.ext_getElem
    · rw [List.length_map, hlS, hls]
    · intro p h1 h2
      rw [List.length_map, hlS] at h1
      rw [List.getElem_map]
      have e2 := h p h1
      rw [List.getD_eq_getElem?_getD (l := flat (spots c.rs (cnts s) (List.range c.n))), List.getElem?_eq_getElem (by omega)] at e2
      have e3 : (flat (spots c.rs (cnts s) (List.range c.n)))[p] = (some ((flat (spots c.rs (cnts s) (List.range c.n)))[p])).getD 0 := rfl
      rw [e3, e2, List.getD_eq_getElem?_getD, List.getElem?_eq_getElem h2]
      rfl
theorem step_flat (rs : List Rail) (s : Sg Nat) : (flat (step rs s)).Perm (flat s) := by
  obtain ⟨q, R⟩ := s
  cases q with
  | nil => exact List.Perm.refl _
  | cons b q => exact tickR_flat rs R q b
theorem stepN_flat (rs : List Rail) : ∀ (n : Nat) (s : Sg Nat), (flat (stepN rs n s)).Perm (flat s)
  | 0, _ => List.Perm.refl _
  | n + 1, s => (stepN_flat rs n (step rs s)).trans (step_flat rs s)
theorem queue_perm {c : Clk} (hc : c.Ok) {s : Sg Nat} (vs : VS c s) {qq : List Nat} (hq : qq.length = c.n) (h : spots c.rs (cnts s) qq = s) : qq.Perm (List.range c.n) := by
  have h1 := stepN_flat c.rs (val c.rs (cnts s)) (qq, empt c.rs.length)
  rw [← spots_counts c hc qq hq _ vs.fits, h] at h1
  have h2 : flat (qq, (empt c.rs.length : List (List Nat))) = qq := by simp [flat, empt_flat]
  rw [h2] at h1
  exact h1.symm.trans vs.perm
theorem val_lt : ∀ {rs : List Rail} {cs : List Nat}, fits rs cs → val rs cs < prod rs
  | [], [], _ => Nat.lt_succ_self 0
  | [], _ :: _, h => h.elim
  | _ :: _, [], h => h.elim
  | (b, w) :: rs, c :: cs, h => by
    have h1 := val_lt h.2
    have h2 : c < b := h.1
    show c + b * val rs cs < b * prod rs
    have h3 : b * (val rs cs + 1) ≤ b * prod rs := Nat.mul_le_mul_left b h1
    rw [Nat.mul_add, Nat.mul_one] at h3
    omega
theorem queue_len {inv : List Nat} {n : Nat} (hi : inv.length = n) (f : Nat → Nat) : (inv.map f).length = n := by rw [List.length_map, hi]
/-- some ticks later than a sight, by its queue -/
theorem moved_ok {c : Clk} (hc : c.Ok) {s : Sg Nat} (vs : VS c s) {qq : List Nat} (hq : qq.length = c.n) (h : spots c.rs (cnts s) qq = s) (t : Nat) : stepN c.rs (val c.rs (cnts s) + t) (qq, empt c.rs.length) = stepN c.rs t s := by
  rw [stepN_add, ← spots_counts c hc qq hq _ vs.fits, h]
/-- the period -/
theorem period_ok {l : List Nat} {n : Nat} {cy : List (List Nat)} (C : Cyc l n cy) {p : Nat} (h : ∀ (k : Nat) (c : List Nat), cy[k]? = some c → c.length ∣ p) {x : Nat} (hx : x < n) : itN l p x = x := by
  obtain ⟨k, c, i, hk, hi, e⟩ := C.at hx
  rw [← e, C.itN (List.mem_of_getElem? hk) p i hi]
  obtain ⟨d, rfl⟩ := h k c hk
  rw [Nat.add_mul_mod_self_left, Nat.mod_eq_of_lt hi]
theorem dvd_18 : ∀ m : Nat, m ≤ 18 → 0 < m → m ∣ 12252240 := by decide +kernel
end BM
end
section
set_option Elab.async false
set_option linter.all false
set_option maxRecDepth 100000
set_option maxHeartbeats 4000000
namespace BH
open PySem PySem.Spec PyProof.Rows L2 BM
/-! ### extend by a list that is read -/
theorem extend_any (l : Addr) (items : Array Value) (n : Nat) (b : Addr) (items2 : Array Value) (n2 : Nat) (sl : Array (Option Value)) (hc0 : ¬(!items.isEmpty && Builtin.List.listTooLong (items.size + items2.size)) = true) (hc1 : items.size ≤ sizeLine) (hs2 : items.size + items2.size ≤ sizeLine + 1) :
    Meets (Builtin.«list.extend» ⟨[.ref l, .ref b], []⟩) (fun _ R s => s.heap.get? l = some { cls := .type "list", data := .seq items n } ∧ s.heap.get? b = some { cls := .type "list", data := .seq items2 n2, slots := sl } ∧ R (.ok (.ret Value.none)) { s with heap := s.heap.update l (Obj.mapSeq fun x => x ++ items2), toks := s.toks }) :=
  .of_wp fun prog w A R s h => by
    obtain ⟨hp, g, d, tk, os⟩ := s
    obtain ⟨hl, hb, h⟩ := h
    have f1 := AutoSeq1.idx_int
    have f2 := AutoSeq1.sub_tuple_tuple
    have f3 := AutoSeq1.sub_list_list
    have f4 := AutoSeq1.sub_tuple_list
    have f5 := AutoSeq1.sub_list_tuple
    have hz' : (items ++ items2).size ≤ sizeLine + 1 := by rw [Array.size_append]; exact hs2
    wp_walk using (wpAny_updateSeq hl rfl (hz := hc1) (_hz' := hz')), AutoSeq1.wpAny_loadPart' hl, AutoSeq1.wpAny_loadPart' hb
    exact ⟨_, rfl, h⟩
def rExtendQ (K : PySem.W.Frag) : V → List V → Hp → VK → Prop := fun x vs H Q => ∃ l b xs zs, x = .ref l ∧ vs = [.ref b] ∧ H l = some (.lst xs) ∧ SqL K H b zs ∧ xs.length + zs.length ≤ sizeLine ∧ Q .non (upd H l (.lst (xs ++ zs)))
theorem mt_extendQ {X : Cx} : MtM X "list.extend" (rExtendQ X.K) := by
  intro pins s σ H x vs v us Q I rx rv h
  obtain ⟨l, b, xs, zs, rfl, rfl, hH, hB, hz, q⟩ := h
  cases rx
  obtain ⟨u, rfl, ru⟩ := rv.one
  cases ru
  obtain ⟨z, its, n, r, hl, e⟩ := I.lstM hH
  obtain ⟨its2, r2, ⟨o2, n2, e2, hc2, hd2, hs2⟩, hl2⟩ := I.list hB
  obtain ⟨c2, d2, x2⟩ := o2
  subst hc2 hd2 hs2
  have e1 := r.length
  have e3 := r2.length
  have hsz : its.toArray.size + its2.toArray.size ≤ sizeLine := by rw [List.size_toArray, List.size_toArray]; omega
  have hlong : ¬ (!its.toArray.isEmpty && Builtin.List.listTooLong (its.toArray.size + its2.toArray.size)) = true := by
    rw [notLongL hsz, Bool.and_false]
    exact Bool.false_ne_true
  refine call_meets F.slot_list_extend ⟨_, e, rfl⟩ F.entry_list_extend (F.args_list_extend_2 _ _)
    (extend_any l its.toArray n b its2.toArray n2 _ hlong (by rw [List.size_toArray]; omega) (by omega)) ⟨e, e2, ?_⟩
  refine ⟨.non, _, I.lset (its' := its ++ its2) hH e (by simp) (r.append r2) ?_, rfl, q⟩
  rw [List.length_append]
  omega
section
variable {P : Program} {w : World} {K : PySem.W.Frag} {mg : Str → Option Value} {base : Heap}
def sp_sight_of (K : PySem.W.Frag) : Sp := Pu fun B vs R => ∃ (v qv : V) (c : Clk) (q : List Nat) (t : Nat), vs = [v, qv, .int (t : Int)] ∧ CK K B v c ∧ LN K B qv q ∧ c.Ok ∧ q.length = c.n ∧ R = fun B' v => SG K B' v (spots c.rs (digs c.rs t) q)
theorem c_sight_of (T : Txt w K mg) : Has P w K mg base "sight_of" 11 ["clock", "queue", "rest"] (sp_sight_of K) := by
  refine Has.of T.f_sight_of T.g_sight_of sc_sight_of (fun _ _ _ _ _ _ us hl => match us, hl with | [_, _, _], _ => rfl) (fun vs H Q E h => ?_) (fun f cdv A outer s H vs Q E hr h => ?_)
  · obtain ⟨B, R, hB, ⟨v, qv, c, q, t, rfl, _⟩, _⟩ := h; rfl
  · obtain ⟨B, R, hB, ⟨v, qv, c, q, t, rfl, hck, ⟨qa, rfl, hqa⟩, ok, hq, rfl⟩, k⟩ := h
    have hn100 := ok.n100
    have hl3 := ok.l3
    refine ⟨_, (pss_one (ps_ret (pe_lc (own := [("row", 3)]) (g := (gName 3)) rfl sc_sight_of.nd (piL (K := K) rfl (pc (c_spots_at T) hr (pa_cons (pv 0) (pa_cons (pc (c_digits_of T) hr (pa_cons (pv 0) (pa_cons (pv 2) pa_nil))) pa_nil)))) (blkOk_by (by kernel_rfl)) (fun _ _ _ _ _ => (pg_name (i := 3) sc_sight_of.nd rfl (.inl rfl))) (fun _ _ _ _ _ => pts_nil) (fun _ _ _ _ _ => (pe_lc (own := [("place", 4)]) (g := (gName 4)) rfl sc_sight_of.nd (piL (K := K) rfl (pv 3)) (blkOk_by (by kernel_rfl)) (fun _ _ _ _ _ => (pg_name (i := 4) sc_sight_of.nd rfl (.inl rfl))) (fun _ _ _ _ _ => pts_nil) (fun _ _ _ _ _ => (pe_ix (xL (K := K) rfl) (pv 1) (pv 4) (fun _ _ => rfl)))))))), ?_⟩
    refine ⟨_, rfl, _, rfl, _, rfl, B, _, hB, ⟨v, c, t, rfl, hck, ok, rfl⟩, fun B1 H1 v1 e1 hv1 => ?_⟩
    have hf := digs_fits c.rs t ok.two
    refine ⟨B1, _, e1.w, ⟨v, v1, c, _, rfl, hck.mono e1.b, hv1, ok, hf, rfl⟩, fun B2 H2 v2 e2 hv2 => ?_⟩
    obtain ⟨sa, svs, rfl, hsa, hsv⟩ := hv2
    have hS := spots_vs ok hf
    have hSl : svs.length = c.rs.length + 1 := by
      have h1 := Paired.length hsv
      have h2 := hS.len
      rw [h1]
      show (spots c.rs (digs c.rs t) (List.range c.n)).2.length + 1 = _
      rw [h2]
    have E2 := e1.trans e2
    have hlt : ∀ row ∈ rowsOf (spots c.rs (digs c.rs t) (List.range c.n)), (∀ x ∈ row, x < c.n) ∧ row.length ≤ c.n := by
      intro row hrow
      constructor
      · intro x hx
        exact List.mem_range.mp (hS.perm.mem_iff.mp (List.mem_flatten.mpr ⟨row, hrow, hx⟩))
      · have h1 := (List.sublist_flatten_of_mem hrow).length_le
        rw [rowsOf_flat, hS.perm.length_eq, List.length_range] at h1
        exact h1
    have hmap : rowsOf (spots c.rs (digs c.rs t) q) = (rowsOf (spots c.rs (digs c.rs t) (List.range c.n))).map (List.map fun i => q.getD i 0) := by
      have h1 := by_places 0 q
      rw [hq] at h1
      have h2 := spots_map (fun i => q.getD i 0) c.rs (digs c.rs t) (List.range c.n)
      rw [h1] at h2
      rw [h2]
      rfl
    refine ⟨sa, rfl, ⟨_, e2.w.seq hsa⟩, fun D hD => lc_new (walk_list svs) (fun i B y => ∀ row, (rowsOf (spots c.rs (digs c.rs t) (List.range c.n)))[i]? = some row → LN K B y (row.map fun i => q.getD i 0)) e2.w (fun H' s => s.seq hsa) (by omega) hD (fun _ _ _ _ e h row hrow => (h row hrow).mono e) ?_ ?_⟩
    · intro i y B3 H3 H3' N hi e3 hy hN
      obtain ⟨rfl, hy⟩ := hy
      obtain ⟨row, hrow, ra, rfl, hra⟩ := pat hsv hy
      have hrow' : (rowsOf (spots c.rs (digs c.rs t) (List.range c.n)))[i]? = some row := hrow
      obtain ⟨hrl, hrlen⟩ := hlt row (List.mem_of_getElem? hrow')
      refine ⟨rfl, ?_⟩
      refine ⟨_, rfl, ra, rfl, ⟨_, e3.bh.seq hra⟩, fun D2 hD2 => lc_new (walk_list _) (fun i _ y => y = V.int ((row.map fun i => q.getD i 0).getD i 0 : Nat)) e3.w (fun H' s => s.seq (e3.b.seq hra)) (by rw [List.length_map]; omega) hD2 (fun _ _ _ _ _ h => h) ?_ ?_⟩
      · intro j y B6 H6 H6' N2 hj e6 hy hN2
        obtain ⟨rfl, hy⟩ := hy
        rw [List.getElem?_map] at hy
        obtain ⟨pl, hpl, rfl⟩ := Option.map_eq_some_iff.mp hy
        have hplt := hrl pl (List.mem_of_getElem? hpl)
        refine ⟨rfl, ?_⟩
        refine ⟨_, rfl, _, rfl, qa, _, _, _, rfl, rfl, e6.w.seq (e6.b.seq (e3.b.seq (E2.b.seq hqa))), atI_nat (map_getD q (by omega)), ?_⟩
        refine hN2 _ _ _ (Ext.refl e6.w) ?_
        rw [List.getD_eq_getElem?_getD (l := row.map _), List.getElem?_map, hpl]
        rfl
      · intro B6 H6 ys e6 hD6 hl6 hys
        have hyl : ys.length = (row.map fun i => q.getD i 0).length := by rw [hl6, List.length_map, List.length_map]
        obtain rfl := ys_of hyl hys
        refine hN B6 H6 _ e6 ?_
        intro row2 hrow2
        rw [hrow'] at hrow2
        obtain rfl := Option.some.inj hrow2
        exact ⟨D2, rfl, SqL.of hD6⟩
    · intro B6 H6 ys e6 hD6 hl6 hys
      refine k _ _ _ (E2.trans e6) ⟨D, ys, rfl, SqL.of hD6, ?_⟩
      show Paired (LN K B6) ys (rowsOf (spots c.rs (digs c.rs t) q))
      rw [hmap]
      refine paired_of (by rw [hl6, List.length_map]; exact Paired.length hsv) fun i a b ha hb => ?_
      rw [List.getElem?_map] at hb
      obtain ⟨row, hrow, rfl⟩ := Option.map_eq_some_iff.mp hb
      exact hys i a ha row hrow
def sp_sight_behind (K : PySem.W.Frag) : Sp := Pu fun B vs R => ∃ (v qv : V) (c : Clk) (q : List Nat) (t : Nat), vs = [v, qv, .int (t : Int)] ∧ CK K B v c ∧ LN K B qv q ∧ c.Ok ∧ q.length = c.n ∧ R = fun B' v => SG K B' v (stepN c.rs t (q, empt c.rs.length))
theorem c_sight_behind (T : Txt w K mg) : Has P w K mg base "sight_behind" 12 ["clock", "queue", "ticks"] (sp_sight_behind K) := by
  refine Has.of T.f_sight_behind T.g_sight_behind sc_sight_behind (fun _ _ _ _ _ _ us hl => match us, hl with | [_, _, _], _ => rfl) (fun vs H Q E h => ?_) (fun f cdv A outer s H vs Q E hr h => ?_)
  · obtain ⟨B, R, hB, ⟨v, qv, c, q, t, rfl, _⟩, _⟩ := h; rfl
  · obtain ⟨B, R, hB, ⟨v, qv, c, q, t, rfl, hck, ⟨qa, rfl, hqa⟩, ok, hq, rfl⟩, k⟩ := h
    have hn100 := ok.n100
    have hpp := prod_pos c.rs ok.two
    have hp1728 := prod_1728 ok
    refine ⟨_, (pss_cons (ps_asg (pe_callB call_divmod (by rfl) T.b_divmod (by decide +kernel) (pa_cons (pv 2) (pa_cons (pc (c_turn_of T) hr (pa_cons (pv 0) pa_nil)) pa_nil))) (pg_tup rfl (pgs_cons (pg_name (i := 3) sc_sight_behind.nd rfl (.inl rfl)) (pgs_cons (pg_name (i := 4) sc_sight_behind.nd rfl (.inl rfl)) pgs_nil))))
      (pss_cons (ps_set (i := 5) sc_sight_behind.nd rfl (.inl rfl) (pc (c_power_row T) hr (pa_cons (pc (c_turn_row T) hr (pa_cons (pv 0) pa_nil)) (pa_cons (pv 3) pa_nil))))
      (pss_one (ps_ret (pc (c_sight_of T) hr (pa_cons (pv 0) (pa_cons (pe_lc (own := [("place", 6)]) (g := (gName 6)) rfl sc_sight_behind.nd (piL (K := K) rfl (pv 5)) (blkOk_by (by kernel_rfl)) (fun _ _ _ _ _ => (pg_name (i := 6) sc_sight_behind.nd rfl (.inl rfl))) (fun _ _ _ _ _ => pts_nil) (fun _ _ _ _ _ => (pe_ix (xL (K := K) rfl) (pv 1) (pv 6) (fun _ _ => rfl)))) (pa_cons (pv 4) pa_nil)))))))), ?_⟩
    refine ⟨_, rfl, _, rfl, B, _, hB, ⟨v, c, rfl, hck, ok, rfl⟩, fun B1 H1 v1 e1 hv1 => ?_⟩
    subst hv1
    refine ⟨_, _, rfl, ⟨by omega, by omega⟩, fun p np => ?_⟩
    have e2 := Ext.tmp e1.w (.tup [.int ((t : Int) / (prod c.rs : Nat)), .int ((t : Int) % (prod c.rs : Nat))]) np
    have E2 := e1.trans e2
    refine ⟨p, _, rfl, SqT.of upd_same, rfl, _, _, rfl, _, _, rfl, rfl, ?_⟩
    refine ⟨_, rfl, B1, _, E2.w, ⟨v, c, rfl, hck.mono E2.b, ok, rfl⟩, fun B3 H3 v3 e3 hv3 => ?_⟩
    have E3 := E2.trans e3
    refine ⟨_, rfl, B3, _, e3.w, ⟨v3, trow c, c.n, t / prod c.rs, rfl, hv3, trow_perm ok, hn100, rfl⟩, fun B4 H4 v4 e4 hv4 => ?_⟩
    have E4 := E3.trans e4
    obtain ⟨pa, rfl, hpa⟩ := hv4
    have hpl : (powL (trow c) c.n (t / prod c.rs)).length = c.n := by unfold powL; rw [List.length_map, List.length_range]
    refine ⟨_, rfl, _, rfl, pa, rfl, ⟨_, e4.w.seq hpa⟩, fun D hD => lc_new (walk_list _) (fun i _ y => y = V.int (((powL (trow c) c.n (t / prod c.rs)).map fun i => q.getD i 0).getD i 0 : Nat)) e4.w (fun H' s => s.seq hpa) (by rw [List.length_map, hpl]; omega) hD (fun _ _ _ _ _ h => h) ?_ ?_⟩
    · intro j y B6 H6 H6' N2 hj e6 hy hN2
      obtain ⟨rfl, hy⟩ := hy
      rw [List.getElem?_map] at hy
      obtain ⟨pl, hpl2, rfl⟩ := Option.map_eq_some_iff.mp hy
      have hplt : pl < c.n := by
        obtain ⟨x, hx, rfl⟩ := List.mem_map.mp (List.mem_of_getElem? hpl2)
        exact itN_lt (trow_perm ok) _ (List.mem_range.mp hx)
      refine ⟨rfl, ?_⟩
      refine ⟨_, rfl, _, rfl, qa, _, _, _, rfl, rfl, e6.w.seq (e6.b.seq (E4.b.seq hqa)), atI_nat (map_getD q (by omega)), ?_⟩
      refine hN2 _ _ _ (Ext.refl e6.w) ?_
      rw [List.getD_eq_getElem?_getD (l := List.map (fun i => q.getD i 0) _), List.getElem?_map, hpl2]
      rfl
    · intro B6 H6 ys e6 hD6 hl6 hys
      have hyl : ys.length = ((powL (trow c) c.n (t / prod c.rs)).map fun i => q.getD i 0).length := by rw [hl6, List.length_map, List.length_map]
      obtain rfl := ys_of hyl hys
      have E6 := E4.trans e6
      refine ⟨_, rfl, B6, _, e6.w, ⟨v, .ref D, c, _, t % prod c.rs, rfl, hck.mono E6.b, ⟨D, rfl, SqL.of hD6⟩, ok, by rw [List.length_map, hpl], rfl⟩, fun B7 H7 v7 e7 hv7 => ?_⟩
      refine k _ _ _ (E6.trans e7) ?_
      rw [far_steps c.rs ok.two q (by rw [hq]; exact ok.need), iterT_row ok _ q hq]
      have : (powL (trow c) c.n (t / prod c.rs)).map (fun i => q.getD i 0) = (List.range c.n).map (fun i => q.getD (itN (trow c) (t / prod c.rs) i) 0) := by
        unfold powL
        rw [List.map_map]
        rfl
      rw [this] at hv7
      exact hv7
def sp_queue_of (K : PySem.W.Frag) : Sp := Pu fun B vs R => ∃ (v sv : V) (c : Clk) (s : Sg Nat), vs = [v, sv] ∧ CK K B v c ∧ SG K B sv s ∧ c.Ok ∧ VS c s ∧ R = fun B' v => ∃ qq : List Nat, LN K B' v qq ∧ qq.Perm (List.range c.n) ∧ spots c.rs (cnts s) qq = s
theorem c_queue_of (T : Txt w K mg) : Has P w K mg base "queue_of" 11 ["clock", "sight"] (sp_queue_of K) := by
  refine Has.of T.f_queue_of T.g_queue_of sc_queue_of (fun _ _ _ _ _ _ us hl => match us, hl with | [_, _], _ => rfl) (fun vs H Q E h => ?_) (fun f cdv A outer s0 H vs Q E hr h => ?_)
  · obtain ⟨B, R, hB, ⟨v, sv, c, s, rfl, _⟩, _⟩ := h; rfl
  · obtain ⟨B, R, hB, ⟨v, sv, c, s, rfl, hck, ⟨x, rvs, rfl, hx, hps⟩, ok, vs, rfl⟩, k⟩ := h
    have hn100 := ok.n100
    have hl3 := ok.l3
    have hvl := vs.len
    refine ⟨_, (pss_cons (ps_set (i := 2) sc_queue_of.nd rfl (.inl rfl) (pc (c_spots_at T) hr (pa_cons (pv 0) (pa_cons (pe_lc (own := [("row", 5)]) (g := (gName 5)) rfl sc_queue_of.nd (piL (K := K) rfl (pe_slice (slL (K := K) rfl) (pv 1) (po_some pe_int) po_none)) (blkOk_by (by kernel_rfl)) (fun _ _ _ _ _ => (pg_name (i := 5) sc_queue_of.nd rfl (.inl rfl))) (fun _ _ _ _ _ => pts_nil) (fun _ _ _ _ _ => (pe_callB (cLen (K := K) rfl) (by rfl) T.b_len (by decide +kernel) (pa_cons (pv 5) pa_nil)))) pa_nil))))
      (pss_cons (ps_asg (pe_tup (pa_cons (pe_lst pa_nil) (pa_cons (pe_lst pa_nil) pa_nil))) (pg_tup rfl (pgs_cons (pg_name (i := 3) sc_queue_of.nd rfl (.inl rfl)) (pgs_cons (pg_name (i := 4) sc_queue_of.nd rfl (.inr rfl)) pgs_nil))))
      (pss_cons (ps_for PassesOwn.never rfl (pi_zip rfl T.b_zip (pa_cons (pv 2) (pa_cons (pv 1) pa_nil))) (pg_tup rfl (pgs_cons (pg_name (i := 5) sc_queue_of.nd rfl (.inl rfl)) (pgs_cons (pg_name (i := 6) sc_queue_of.nd rfl (.inl rfl)) pgs_nil)))
      (pss_cons (ps_expr (pe_bm PySem.F.plainAttrs_list PySem.F.slot_list_extend PySem.F.type_list_extend mt_extendQ (pv 3) (pa_cons (pv 5) pa_nil)))
      (pss_one (ps_expr (pe_bm PySem.F.plainAttrs_list PySem.F.slot_list_extend PySem.F.type_list_extend mt_extendQ (pv 4) (pa_cons (pv 6) pa_nil))))))
      (pss_one (ps_ret (pe_lc (own := [("index", 7)]) (g := (gName 7)) rfl sc_queue_of.nd (piL (K := K) rfl (pc (c_inverse_row T) hr (pa_cons (pv 3) pa_nil))) (blkOk_by (by kernel_rfl)) (fun _ _ _ _ _ => (pg_name (i := 7) sc_queue_of.nd rfl (.inl rfl))) (fun _ _ _ _ _ => pts_nil) (fun _ _ _ _ _ => (pe_ix (xL (K := K) rfl) (pv 4) (pv 7) (fun _ _ => rfl))))))))), ?_⟩
    cases hps with
    | @cons q0 _ rvs _ hq0 hps =>
    have hls : rvs.length = s.2.length := Paired.length hps
    refine ⟨_, rfl, _, rfl, 1, rfl, x, _, rfl, hB.seq hx, fun d nd => ?_⟩
    have e1 := Ext.new hB (.lst (cutV (q0 :: rvs) (some 1) none)) nd
    rw [cut1, drop1_cons] at e1 ⊢
    refine ⟨d, rfl, ⟨_, SqL.of upd_same⟩, fun D hD => lc_new (walk_list rvs) (fun i _ y => y = V.int ((cnts s).getD i 0 : Nat)) e1.w (fun H' s => s.seq (SqL.of upd_same)) (by omega) hD (fun _ _ _ _ _ h => h) ?_ ?_⟩
    · intro i y B3 H3 H3' N hi e3 hy hN
      obtain ⟨rfl, hy⟩ := hy
      obtain ⟨row, hrow, ra, rfl, hra⟩ := pat hps hy
      refine ⟨rfl, ?_⟩
      refine ⟨_, rfl, ra, _, rfl, .inl (e3.bh.seq (e1.b.seq hra)), ?_⟩
      refine hN _ _ _ (Ext.refl e3.w) ?_
      rw [List.length_map]
      unfold cnts
      rw [List.getD_eq_getElem?_getD, List.getElem?_map, hrow]
      rfl
    intro B6 H6 ys e6 hD6 hl6 hys
    have hyl : ys.length = (cnts s).length := by rw [hl6, hls]; unfold cnts; rw [List.length_map]
    obtain rfl := ys_of hyl hys
    have E6 := e1.trans e6
    refine ⟨B6, _, e6.w, ⟨v, .ref D, c, cnts s, rfl, hck.mono E6.b, ⟨D, rfl, SqL.of hD6⟩, ok, vs.fits, rfl⟩, fun B7 H7 v7 e7 hv7 => ?_⟩
    have E7 := E6.trans e7
    obtain ⟨sa, svs, rfl, hsa, hsv⟩ := hv7
    have hS := spots_vs ok vs.fits
    have hSl : svs.length = s.2.length + 1 := by
      have h1 := Paired.length hsv
      have h2 := hS.len
      rw [h1, hvl]
      show (spots c.rs (cnts s) (List.range c.n)).2.length + 1 = _
      rw [h2]
    generalize hSS : spots c.rs (cnts s) (List.range c.n) = S at *
    refine ⟨by show 0 ≤ sizeLine; decide, fun l1 nl1 => ⟨by show 0 ≤ sizeLine; decide, fun l2 nl2 => ⟨by show 2 ≤ sizeLine; decide, fun p np => ?_⟩⟩⟩
    have f1 := Ext.tmp e7.w (.lst []) nl1
    have F1 := E7.trans f1
    have a1 := Mine.new (o := .lst []) E7 nl1
    have f2 := Ext.tmp F1.w (.lst []) nl2
    have F2 := F1.trans f2
    have a2 := a1.ext f2
    have b2 := Mine.new (o := .lst []) F1 nl2
    have hne : l1 ≠ l2 := fun z => by subst z; rw [a1.h] at nl2; cases nl2
    have f3 := Ext.tmp F2.w (.tup [.ref l1, .ref l2]) np
    have F3 := F2.trans f3
    have a3 := a2.ext f3
    have b3 := b2.ext f3
    refine ⟨p, _, rfl, SqT.of upd_same, rfl, _, _, rfl, _, _, rfl, rfl, ?_⟩
    have hSfl : (flat S).length = c.n := by rw [hS.perm.length_eq, List.length_range]
    have hsfl : (flat s).length = c.n := by rw [vs.perm.length_eq, List.length_range]
    have hlen1 : ∀ i row, (rowsOf S)[i]? = some row → ((rowsOf S).take i).flatten.length + row.length ≤ c.n := by
      intro i row h
      have h1 := take_flat_succ h
      have h2 : ((rowsOf S).take (i + 1)).flatten.length ≤ (rowsOf S).flatten.length := by
        have : (rowsOf S).flatten = ((rowsOf S).take (i + 1)).flatten ++ ((rowsOf S).drop (i + 1)).flatten := by rw [← List.flatten_append, List.take_append_drop]
        rw [this, List.length_append]; omega
      rw [rowsOf_flat, hSfl, h1, List.length_append] at h2
      exact h2
    have hlen2 : ∀ i row, (rowsOf s)[i]? = some row → ((rowsOf s).take i).flatten.length + row.length ≤ c.n := by
      intro i row h
      have h1 := take_flat_succ h
      have h2 : ((rowsOf s).take (i + 1)).flatten.length ≤ (rowsOf s).flatten.length := by
        have : (rowsOf s).flatten = ((rowsOf s).take (i + 1)).flatten ++ ((rowsOf s).drop (i + 1)).flatten := by rw [← List.flatten_append, List.take_append_drop]
        rw [this, List.length_append]; omega
      rw [rowsOf_flat, hsfl, h1, List.length_append] at h2
      exact h2
    refine ⟨_, rfl, _, rfl, sa, x, svs, q0 :: rvs, rfl, F3.w.seq (e7.w.seq hsa |> fun _ => hsa), F3.bh.seq hx, for_it (walk_zip svs (q0 :: rvs) (by rw [hSl, List.length_cons, hls])) (fun i σ' H' => ∃ (B' : Hp) (v5 v6 : Option V), σ' = [some v, some (.ref x), some (.ref sa), some (.ref l1), some (.ref l2), v5, v6, none] ∧ Ext B H B' H' ∧ Same B7 B' ∧ Mine H B' H' l1 (.lst (((rowsOf S).take i).flatten.map fun n : Nat => V.int (n : Int))) ∧ Mine H B' H' l2 (.lst (((rowsOf s).take i).flatten.map fun n : Nat => V.int (n : Int))))
      ⟨B7, none, none, rfl, F3, Same.refl _, a3, b3⟩ (fun i σ' H' _ ⟨B', _, _, _, e, s', _⟩ => ⟨e.w.seq (s'.seq hsa), e.bh.seq hx⟩) ?_ ?_⟩
    · rintro i y σ' H3 H3' hi ⟨B3, v5, v6, rfl, e3, s3, m3, k3⟩ ⟨Tp, r1, r2, rfl, nT, rfl, h1, h2⟩
      obtain ⟨row1, hrow1, q1, rfl, hq1⟩ := pat hsv h1
      obtain ⟨row2, hrow2, q2, rfl, hq2⟩ := pat (.cons hq0 hps) h2
      have hrow1 : (rowsOf S)[i]? = some row1 := hrow1
      have hrow2 : (rowsOf s)[i]? = some row2 := hrow2
      have e4 := Ext.tmp e3.w (.tup [.ref q1, .ref q2]) nT
      have E4 := e3.trans e4
      have m4 := m3.ext e4
      have k4 := k3.ext e4
      refine ⟨Tp, _, rfl, SqT.of upd_same, rfl, _, _, rfl, _, _, rfl, rfl, ?_⟩
      have z1 := hlen1 i row1 hrow1
      have z2 := hlen2 i row2 hrow2
      refine ⟨_, rfl, .inl ⟨rfl, _, SqL.of m4.h⟩, _, rfl, l1, q1, _, _, rfl, rfl, m4.h, E4.w.seq (s3.seq hq1), ?_, ?_⟩
      · rw [List.length_map, List.length_map]; exact Nat.le_of_lt (small1000 (by omega))
      have e5 := m4.set E4 (.lst (((rowsOf S).take i).flatten.map (fun n : Nat => V.int (n : Int)) ++ row1.map fun n : Nat => V.int (n : Int)))
      have m5 := m4.put (.lst (((rowsOf S).take i).flatten.map (fun n : Nat => V.int (n : Int)) ++ row1.map fun n : Nat => V.int (n : Int)))
      have k5 := k4.other (u := .lst (((rowsOf S).take i).flatten.map (fun n : Nat => V.int (n : Int)) ++ row1.map fun n : Nat => V.int (n : Int))) hne.symm
      refine ⟨_, rfl, .inl ⟨rfl, _, SqL.of k5.h⟩, _, rfl, l2, q2, _, _, rfl, rfl, k5.h, e5.bh.seq hq2, ?_, ?_⟩
      · rw [List.length_map, List.length_map]; exact Nat.le_of_lt (small1000 (by omega))
      refine ⟨B3, _, _, rfl, k5.set e5 _, s3, ?_, ?_⟩
      · rw [take_flat_succ hrow1, List.map_append]
        exact m5.other hne
      · rw [take_flat_succ hrow2, List.map_append]
        exact k5.put _
    · rintro σ' H3 ⟨B3, v5, v6, rfl, e3, s3, m3, k3⟩
      have hfS : ((rowsOf S).take svs.length).flatten = flat S := by
        rw [List.take_of_length_le (show (rowsOf S).length ≤ svs.length from Nat.le_of_eq (Paired.length hsv).symm)]
        rfl
      have hfs : ((rowsOf s).take svs.length).flatten = flat s := by
        rw [List.take_of_length_le (by rw [hSl]; show s.2.length + 1 ≤ _; exact Nat.le_refl _)]
        rfl
      rw [hfS] at m3
      rw [hfs] at k3
      have e4 := m3.frz e3
      have k4 := k3.keep (q := l1) (u := .lst ((flat S).map fun n : Nat => V.int (n : Int))) hne.symm
      have e5 := k4.frz e4
      have hb5 := k4.frz1
      refine ⟨_, rfl, _, _, e5.w, ⟨.ref l1, flat S, c.n, rfl, ⟨l1, rfl, hb5.seq (SqL.of upd_same)⟩, hS.perm, hn100, rfl⟩, fun B8 H8 v8 e8 hv8 => ?_⟩
      obtain ⟨inv, ⟨ia, rfl, hia⟩, hil, hinv⟩ := hv8
      have E8 := e5.trans e8
      have hl2 : SqL K B8 l2 ((flat s).map fun n : Nat => V.int (n : Int)) := e8.b.seq (SqL.of upd_same)
      have hilt : ∀ x ∈ inv, x < c.n := by
        intro y hy
        obtain ⟨j, hj, e⟩ := mem_getD hy
        have hjn : j ∈ flat S := hS.perm.mem_iff.mpr (List.mem_range.mpr (by omega))
        obtain ⟨p', hp', e'⟩ := mem_getD hjn
        have := hinv p' (by omega)
        rw [e', e] at this
        omega
      refine ⟨ia, rfl, ⟨_, e8.w.seq hia⟩, fun D8 hD8 => lc_new (walk_list _) (fun i _ y => y = V.int ((inv.map fun j => (flat s).getD j 0).getD i 0 : Nat)) e8.w (fun H' s => s.seq hia) (by rw [List.length_map]; omega) hD8 (fun _ _ _ _ _ h => h) ?_ ?_⟩
      · intro j y B6 H6 H6' N2 hj e6 hy hN2
        obtain ⟨rfl, hy⟩ := hy
        rw [List.getElem?_map] at hy
        obtain ⟨pl, hpl2, rfl⟩ := Option.map_eq_some_iff.mp hy
        have hplt := hilt pl (List.mem_of_getElem? hpl2)
        refine ⟨rfl, ?_⟩
        refine ⟨_, rfl, _, rfl, l2, _, _, _, rfl, rfl, e6.w.seq (e6.b.seq hl2), atI_nat (map_getD (flat s) (by omega)), ?_⟩
        refine hN2 _ _ _ (Ext.refl e6.w) ?_
        rw [List.getD_eq_getElem?_getD (l := List.map (fun i => (flat s).getD i 0) _), List.getElem?_map, hpl2]
        rfl
      · intro B9 H9 ys e9 hD9 hl9 hys
        have hyl : ys.length = (inv.map fun j => (flat s).getD j 0).length := by rw [hl9, List.length_map, List.length_map]
        obtain rfl := ys_of hyl hys
        subst hSS
        refine k _ _ _ (E8.trans e9) ⟨_, ⟨D8, rfl, SqL.of hD9⟩, ?_, queue_ok ok vs hil hinv⟩
        exact queue_perm ok vs (queue_len hil _) (queue_ok ok vs hil hinv)
def sp_far_sight (K : PySem.W.Frag) : Sp := Pu fun B vs R => ∃ (v : V) (c : Clk) (t : Nat), vs = [v, .int (t : Int)] ∧ CK K B v c ∧ c.Ok ∧ R = fun B' v => SG K B' v (stepN c.rs t (first c))
theorem c_far_sight (T : Txt w K mg) : Has P w K mg base "far_sight" 13 ["clock", "tick"] (sp_far_sight K) := by
  refine Has.of T.f_far_sight T.g_far_sight sc_far_sight (fun _ _ _ _ _ _ us hl => match us, hl with | [_, _], _ => rfl) (fun vs H Q E h => ?_) (fun f cdv A outer s H vs Q E hr h => ?_)
  · obtain ⟨B, R, hB, ⟨v, c, t, rfl, _⟩, _⟩ := h; rfl
  · obtain ⟨B, R, hB, ⟨v, c, t, rfl, hck, ok, rfl⟩, k⟩ := h
    obtain ⟨a, rv, rfl, ha, hrv⟩ := id hck
    have hn100 := ok.n100
    refine ⟨_, (pss_one (ps_ret (pc (c_sight_behind T) hr (pa_cons (pv 0) (pa_cons (pe_listRg rfl rfl T.b_list (prg_1 rfl T.b_range (pe_ix (xT (K := K) rfl) (pv 0) pe_int (fun _ _ => rfl)))) (pa_cons (pv 1) pa_nil)))))), ?_⟩
    refine ⟨_, rfl, _, rfl, a, _, 0, _, rfl, rfl, hB.tup ha, atI_nat (j := 0) rfl, _, rfl, RgOk.of_le (by omega) (by omega) (by omega) (by omega), fun q nq => ?_⟩
    rw [rgV_nat]
    have e1 := Ext.new hB (.lst ((List.range c.n).map fun n : Nat => V.int (n : Int))) nq
    refine ⟨_, rfl, _, _, e1.w, ⟨.ref a, .ref q, c, List.range c.n, t, rfl, hck.mono e1.b, ⟨q, rfl, SqL.of upd_same⟩, ok, List.length_range, rfl⟩, fun B2 H2 v2 e2 hv2 => ?_⟩
    exact k _ _ _ (e1.trans e2) hv2
def sp_moved_sight (K : PySem.W.Frag) : Sp := Pu fun B vs R => ∃ (v sv : V) (c : Clk) (s : Sg Nat) (t : Nat), vs = [v, sv, .int (t : Int)] ∧ CK K B v c ∧ SG K B sv s ∧ c.Ok ∧ VS c s ∧ R = fun B' v => SG K B' v (stepN c.rs t s)
theorem c_moved_sight (T : Txt w K mg) : Has P w K mg base "moved_sight" 13 ["clock", "sight", "ticks"] (sp_moved_sight K) := by
  refine Has.of T.f_moved_sight T.g_moved_sight sc_moved_sight (fun _ _ _ _ _ _ us hl => match us, hl with | [_, _, _], _ => rfl) (fun vs H Q E h => ?_) (fun f cdv A outer s0 H vs Q E hr h => ?_)
  · obtain ⟨B, R, hB, ⟨v, sv, c, s, t, rfl, _⟩, _⟩ := h; rfl
  · obtain ⟨B, R, hB, ⟨v, sv, c, s, t, rfl, hck, hs, ok, vs, rfl⟩, k⟩ := h
    refine ⟨_, (pss_one (ps_ret (pc (c_sight_behind T) hr (pa_cons (pv 0) (pa_cons (pc (c_queue_of T) hr (pa_cons (pv 0) (pa_cons (pv 1) pa_nil))) (pa_cons (pe_op op_add (pc (c_ticks_past T) hr (pa_cons (pv 0) (pa_cons (pv 1) pa_nil))) (pv 2)) pa_nil)))))), ?_⟩
    refine ⟨_, rfl, _, rfl, _, rfl, B, _, hB, ⟨v, sv, c, s, rfl, hck, hs, ok, vs, rfl⟩, fun B1 H1 v1 e1 hv1 => ?_⟩
    obtain ⟨qq, hqq, hqp, hsp⟩ := hv1
    have hql : qq.length = c.n := by rw [hqp.length_eq, List.length_range]
    refine ⟨_, rfl, _, rfl, B1, _, e1.w, ⟨v, sv, c, s, rfl, hck.mono e1.b, hs.mono e1.b, ok, vs, rfl⟩, fun B2 H2 v2 e2 hv2 => ?_⟩
    subst hv2
    have E2 := e1.trans e2
    refine ⟨_, rfl, _, _, rfl, rfl, ?_⟩
    refine ⟨B2, _, e2.w, ⟨v, v1, c, qq, val c.rs (cnts s) + t, ?_, hck.mono E2.b, hqq.mono e2.b, ok, hql, rfl⟩, fun B3 H3 v3 e3 hv3 => ?_⟩
    · show [v, v1, V.int (((val c.rs (cnts s) : Nat) : Int) + (t : Int))] = _
      rw [← Int.natCast_add]
    · rw [moved_ok ok vs hql hsp t] at hv3
      exact k _ _ _ (E2.trans e3) hv3
def sp_sight_at (K : PySem.W.Frag) : Sp := Pu fun B vs R => ∃ (v : V) (c : Clk) (t : Nat), vs = [v, .int (t : Int)] ∧ CK K B v c ∧ c.Ok ∧ R = fun B' v => SG K B' v (stepN c.rs t (first c))
theorem c_sight_at (T : Txt w K mg) : Has P w K mg base "sight_at" 14 ["clock", "tick"] (sp_sight_at K) := by
  refine Has.of T.f_sight_at T.g_sight_at sc_sight_at (fun _ _ _ _ _ _ us hl => match us, hl with | [_, _], _ => rfl) (fun vs H Q E h => ?_) (fun f cdv A outer s H vs Q E hr h => ?_)
  · obtain ⟨B, R, hB, ⟨v, c, t, rfl, _⟩, _⟩ := h; rfl
  · obtain ⟨B, R, hB, ⟨v, c, t, rfl, hck, ok, rfl⟩, k⟩ := h
    refine ⟨_, (pss_cons (ps_expr (pc (c_require_clock T) hr (pa_cons (pv 0) pa_nil)))
      (pss_cons (ps_expr (pc (c_require_tick T) hr (pa_cons (pv 1) pa_nil)))
      (pss_one (ps_ret (pc (c_far_sight T) hr (pa_cons (pv 0) (pa_cons (pv 1) pa_nil))))))), ?_⟩
    refine ⟨_, rfl, B, _, hB, ⟨v, c, rfl, hck, ok, rfl⟩, fun B1 H1 v1 e1 hv1 => ?_⟩
    refine ⟨_, rfl, B1, _, e1.w, ⟨_, rfl, rfl⟩, fun B2 H2 v2 e2 hv2 => ?_⟩
    have E2 := e1.trans e2
    refine ⟨_, rfl, _, rfl, B2, _, e2.w, ⟨v, c, t, rfl, hck.mono E2.b, ok, rfl⟩, fun B3 H3 v3 e3 hv3 => ?_⟩
    exact k _ _ _ (E2.trans e3) hv3
/-- the spot of a ball -/
def Spot (s : Sg Nat) (b r p : Nat) : Prop := ∃ row, (rowsOf s)[r]? = some row ∧ row[p]? = some b
theorem first_true {α : Type} : ∀ (l : List α) (p : α → Bool), (∃ x ∈ l, p x = true) → ∃ (j : Nat) (x : α), l[j]? = some x ∧ p x = true ∧ ∀ (m : Nat) (y : α), m < j → l[m]? = some y → p y = false
  | [], _, h => by obtain ⟨x, hx, _⟩ := h; cases hx
  | a :: l, p, h => by
    cases ha : p a with
    | true => exact ⟨0, a, rfl, ha, fun m y hm => by omega⟩
    | false =>
      obtain ⟨x, hx, hp⟩ := h
      have hx' : x ∈ l := by
        rcases List.mem_cons.mp hx with e | e
        · rw [e, ha] at hp; cases hp
        · exact e
      obtain ⟨j, y, h1, h2, h3⟩ := first_true l p ⟨x, hx', hp⟩
      refine ⟨j + 1, y, by simpa using h1, h2, fun m z hm hz => ?_⟩
      cases m with
      | zero => have : a = z := by simpa using hz
                rw [← this]; exact ha
      | succ m => exact h3 m z (by omega) (by simpa using hz)
theorem inV_nat (b : Nat) (row : List Nat) : inV (.int (b : Int)) (row.map fun n : Nat => V.int (n : Int)) = decide (b ∈ row) := by
  unfold inV
  rw [List.any_map]
  induction row with
  | nil => rfl
  | cons a row ih =>
    rw [List.any_cons, ih]
    have e : ((fun y => eqV y (.int (b : Int))) ∘ fun n : Nat => V.int (n : Int)) a = decide (b = a) := by
      show ((a : Int) == (b : Int)) = _
      by_cases h : b = a
      · subst h; simp
      · have : ¬ (a : Int) = b := by omega
        simp [h, this]
    rw [e]
    by_cases h1 : b = a <;> by_cases h2 : b ∈ row <;> simp [h1, h2]
theorem flat_ints (row : List Nat) : (row.map fun n : Nat => V.int (n : Int)).all flatV = true := by
  rw [List.all_map]
  exact List.all_eq_true.mpr fun _ _ => rfl
def sp_spot_at (K : PySem.W.Frag) : Sp := Pu fun B vs R => ∃ (v : V) (c : Clk) (b t : Nat), vs = [v, .int (b : Int), .int (t : Int)] ∧ CK K B v c ∧ c.Ok ∧ b < c.n ∧ R = fun B' v => ∃ r p : Nat, P2 K B' v ((r : Int), (p : Int)) ∧ Spot (stepN c.rs t (first c)) b r p
theorem c_spot_at (T : Txt w K mg) : Has P w K mg base "spot_at" 15 ["clock", "ball", "tick"] (sp_spot_at K) := by
  refine Has.of T.f_spot_at T.g_spot_at sc_spot_at (fun _ _ _ _ _ _ us hl => match us, hl with | [_, _, _], _ => rfl) (fun vs H Q E h => ?_) (fun f cdv A outer s0 H vs Q E hr h => ?_)
  · obtain ⟨B, R, hB, ⟨v, c, b, t, rfl, _⟩, _⟩ := h; rfl
  · obtain ⟨B, R, hB, ⟨v, c, b, t, rfl, hck, ok, hb, rfl⟩, k⟩ := h
    have hl3 := ok.l3
    refine ⟨_, (pss_cons (ps_expr (pc (c_require_clock T) hr (pa_cons (pv 0) pa_nil)))
      (pss_cons (ps_expr (pc (c_require_ball T) hr (pa_cons (pv 0) (pa_cons (pv 1) pa_nil))))
      (pss_cons (ps_set (i := 3) sc_spot_at.nd rfl (.inl rfl) (pc (c_sight_at T) hr (pa_cons (pv 0) (pa_cons (pv 2) pa_nil))))
      (pss_cons (ps_set (i := 4) sc_spot_at.nd rfl (.inl rfl) (pe_bm PySem.F.plainAttrs_list PySem.F.slot_list_index PySem.F.type_list_index mt_index (pe_lc (own := [("row", 5)]) (g := (gName 5)) rfl sc_spot_at.nd (piL (K := K) rfl (pv 3)) (blkOk_by (by kernel_rfl)) (fun _ _ _ _ _ => (pg_name (i := 5) sc_spot_at.nd rfl (.inl rfl))) (fun _ _ _ _ _ => pts_nil) (fun _ _ _ _ _ => (pe_cmpR (oIn (K := K) rfl) (pv 1) (pv 5) rfl))) (pa_cons pe_bl pa_nil)))
      (pss_one (ps_ret (pe_tup (pa_cons (pv 4) (pa_cons (pe_bm PySem.F.plainAttrs_list PySem.F.slot_list_index PySem.F.type_list_index mt_index (pe_ix (xL (K := K) rfl) (pv 3) (pv 4) (fun _ _ => rfl)) (pa_cons (pv 1) pa_nil)) pa_nil))))))))), ?_⟩
    refine ⟨_, rfl, B, _, hB, ⟨v, c, rfl, hck, ok, rfl⟩, fun B1 H1 v1 e1 hv1 => ?_⟩
    refine ⟨_, rfl, _, rfl, B1, _, e1.w, ⟨v, c, b, rfl, hck.mono e1.b, hb, rfl⟩, fun B2 H2 v2 e2 hv2 => ?_⟩
    have E2 := e1.trans e2
    refine ⟨_, rfl, _, rfl, B2, _, e2.w, ⟨v, c, t, rfl, hck.mono E2.b, ok, rfl⟩, fun B3 H3 v3 e3 hv3 => ?_⟩
    have E3 := E2.trans e3
    obtain ⟨sa, svs, rfl, hsa, hsv⟩ := hv3
    have hS := stepN_vs ok t (first_vs ok)
    generalize stepN c.rs t (first c) = S at *
    have hSl : svs.length = c.rs.length + 1 := by
      have h1 := Paired.length hsv
      have h2 := hS.len
      rw [h1]
      show S.2.length + 1 = _
      rw [h2]
    refine ⟨_, rfl, sa, rfl, ⟨_, e3.w.seq hsa⟩, fun D hD => lc_new (walk_list svs) (fun i _ y => ∀ row, (rowsOf S)[i]? = some row → y = .bl (decide (b ∈ row))) e3.w (fun H' s => s.seq hsa) (by omega) hD (fun _ _ _ _ _ h => h) ?_ ?_⟩
    · intro i y B4 H4 H4' N hi e4 hy hN
      obtain ⟨rfl, hy⟩ := hy
      obtain ⟨row, hrow, ra, rfl, hra⟩ := pat hsv hy
      have hrow' : (rowsOf S)[i]? = some row := hrow
      refine ⟨rfl, ?_⟩
      refine ⟨_, rfl, _, rfl, ra, _, rfl, .inl (e4.bh.seq hra), rfl, flat_ints row, ?_⟩
      refine hN _ _ _ (Ext.refl e4.w) fun row2 hrow2 => ?_
      rw [hrow'] at hrow2
      obtain rfl := Option.some.inj hrow2
      rw [if_neg Bool.false_ne_true, inV_nat]
    · intro B4 H4 ys e4 hD4 hl4 hys
      have E4 := E3.trans e4
      have hrl : (rowsOf S).length = svs.length := (Paired.length hsv).symm
      obtain ⟨r, row, hrow, hbr, hno⟩ := first_true (rowsOf S) (fun row => decide (b ∈ row)) (by
        have : b ∈ flat S := hS.perm.mem_iff.mpr (List.mem_range.mpr hb)
        obtain ⟨row, h1, h2⟩ := List.mem_flatten.mp (show b ∈ (rowsOf S).flatten from this)
        exact ⟨row, h1, decide_eq_true h2⟩)
      have hbr : b ∈ row := of_decide_eq_true hbr
      have hr1 := (List.getElem?_eq_some_iff.mp hrow).1
      have hyr : ys[r]? = some (.bl true) := by
        rw [List.getElem?_eq_getElem (by omega)]
        have := hys r _ (List.getElem?_eq_getElem (show r < ys.length by omega)) row hrow
        rw [this, decide_eq_true hbr]
      refine ⟨.inl ⟨rfl, _, SqL.of (e4.w _ _ hD4)⟩, D, ys, .bl true, r, .bl true, rfl, rfl, SqL.of (e4.w _ _ hD4), rfl, ?_, hyr, rfl, ?_, ?_⟩
      · refine List.all_eq_true.mpr fun y hy => ?_
        obtain ⟨m, hm⟩ := List.mem_iff_getElem?.mp hy
        have hml := (List.getElem?_eq_some_iff.mp hm).1
        rw [hys m y hm _ (List.getElem?_eq_getElem (show m < (rowsOf S).length by omega))]
        rfl
      · intro m z hm hz
        have hml : m < (rowsOf S).length := by omega
        have h1 := hno m _ hm (List.getElem?_eq_getElem hml)
        rw [hys m z hz _ (List.getElem?_eq_getElem hml), h1]
        rfl
      obtain ⟨rv, hrv, ra, rfl, hra⟩ := pat2 hsv hrow
      obtain ⟨p, x, hp1, hp2, hp3⟩ := first_true row (fun x => decide (x = b)) ⟨b, hbr, by simp⟩
      have hx : x = b := of_decide_eq_true hp2
      subst hx
      refine ⟨_, rfl, _, rfl, _, rfl, sa, _, _, _, rfl, rfl, e4.bh.seq hsa, atI_nat hrv, .inl ⟨rfl, _, e4.bh.seq hra⟩, _, rfl, ra, _, _, p, .int (x : Int), rfl, rfl, e4.bh.seq hra, rfl, flat_ints row, ?_, ?_, ?_, by show 2 ≤ sizeLine; decide, fun p2 np2 => ?_⟩
      · rw [List.getElem?_map, hp1]; rfl
      · show ((x : Int) == (x : Int)) = true
        simp
      · intro m z hm hz
        rw [List.getElem?_map] at hz
        obtain ⟨y, hy, rfl⟩ := Option.map_eq_some_iff.mp hz
        have h1 := of_decide_eq_false (hp3 m y hm hy)
        show ((y : Int) == (x : Int)) = false
        simp
        omega
      · exact k _ _ _ (E4.trans (Ext.new e4.w _ np2)) ⟨r, p, ⟨p2, rfl, SqT.of upd_same⟩, row, hrow, hp1⟩
def sp_turn_ticks (K : PySem.W.Frag) : Sp := Pu fun B vs R => ∃ (v : V) (c : Clk), vs = [v] ∧ CK K B v c ∧ c.Ok ∧ R = fun _ v => v = .int (prod c.rs : Nat)
theorem c_turn_ticks (T : Txt w K mg) : Has P w K mg base "turn_ticks" 6 ["clock"] (sp_turn_ticks K) := by
  refine Has.of T.f_turn_ticks T.g_turn_ticks sc_turn_ticks (fun _ _ _ _ _ _ us hl => match us, hl with | [_], _ => rfl) (fun vs H Q E h => ?_) (fun f cdv A outer s H vs Q E hr h => ?_)
  · obtain ⟨B, R, hB, ⟨v, c, rfl, _⟩, _⟩ := h; rfl
  · obtain ⟨B, R, hB, ⟨v, c, rfl, hck, ok, rfl⟩, k⟩ := h
    refine ⟨_, (pss_cons (ps_expr (pc (c_require_clock T) hr (pa_cons (pv 0) pa_nil)))
      (pss_one (ps_ret (pc (c_turn_of T) hr (pa_cons (pv 0) pa_nil))))), ?_⟩
    refine ⟨_, rfl, B, _, hB, ⟨v, c, rfl, hck, ok, rfl⟩, fun B1 H1 v1 e1 hv1 => ?_⟩
    refine ⟨_, rfl, B1, _, e1.w, ⟨v, c, rfl, hck.mono e1.b, ok, rfl⟩, fun B2 H2 v2 e2 hv2 => ?_⟩
    exact k _ _ _ (e1.trans e2) hv2
def Per (c : Clk) (p : Nat) : Prop := 0 < p ∧ p ≤ 12252240 ∧ ∀ x, x < c.n → itN (trow c) p x = x
def sp_queue_period (K : PySem.W.Frag) : Sp := Pu fun B vs R => ∃ (v : V) (c : Clk), vs = [v] ∧ CK K B v c ∧ c.Ok ∧ c.n ≤ 18 ∧ R = fun _ v => ∃ p : Nat, v = .int (p : Int) ∧ Per c p
theorem c_queue_period (T : Txt w K mg) : Has P w K mg base "queue_period" 11 ["clock"] (sp_queue_period K) := by
  refine Has.of T.f_queue_period T.g_queue_period sc_queue_period (fun _ _ _ _ _ _ us hl => match us, hl with | [_], _ => rfl) (fun vs H Q E h => ?_) (fun f cdv A outer s H vs Q E hr h => ?_)
  · obtain ⟨B, R, hB, ⟨v, c, rfl, _⟩, _⟩ := h; rfl
  · obtain ⟨B, R, hB, ⟨v, c, rfl, hck, ok, h18, rfl⟩, k⟩ := h
    refine ⟨_, (pss_cons (ps_set (i := 1) sc_queue_period.nd rfl (.inl rfl) pe_int)
      (pss_cons (ps_for PassesOwn.never rfl (piL (K := K) rfl (pc (c_row_cycles T) hr (pa_cons (pc (c_turn_row T) hr (pa_cons (pv 0) pa_nil)) pa_nil))) (pg_name (i := 2) sc_queue_period.nd rfl (.inl rfl))
      (pss_one (ps_set (i := 1) sc_queue_period.nd rfl (.inl rfl) (pc (c_common_multiple T) hr (pa_cons (pv 1) (pa_cons (pe_callB (cLen (K := K) rfl) (by rfl) T.b_len (by decide +kernel) (pa_cons (pv 2) pa_nil)) pa_nil))))))
      (pss_one (ps_ret (pv 1))))), ?_⟩
    refine ⟨_, rfl, B, _, hB, ⟨v, c, rfl, hck, ok, rfl⟩, fun B1 H1 v1 e1 hv1 => ?_⟩
    refine ⟨B1, _, e1.w, ⟨v1, trow c, c.n, rfl, hv1, trow_perm ok, ok.n100, rfl⟩, fun B2 H2 v2 e2 hv2 => ?_⟩
    have E2 := e1.trans e2
    obtain ⟨cy, ⟨ca, cvs, rfl, hca, hcv⟩, C⟩ := hv2
    refine ⟨ca, rfl, ⟨_, e2.w.seq hca⟩, for_it (walk_list cvs) (fun i σ' H' => ∃ (B' : Hp) (v2 : Option V) (p : Nat), σ' = [some v, some (.int (p : Int)), v2] ∧ Ext B H B' H' ∧ Same B2 B' ∧ p ∣ 12252240 ∧ ∀ (k : Nat) (c : List Nat), k < i → cy[k]? = some c → c.length ∣ p)
      ⟨B2, none, 1, rfl, E2, Same.refl _, Nat.one_dvd _, fun k c h => by omega⟩ (fun i σ' H' _ ⟨B', _, _, _, e, s, _⟩ => e.w.seq (s.seq hca)) ?_ ?_⟩
    · rintro i y σ' H3 H3' hi ⟨B3, v2, p, rfl, e3, s3, hp, hd⟩ ⟨rfl, hy⟩
      obtain ⟨cc, hc, q, rfl, hq⟩ := pat hcv hy
      have hcl := C.len (List.mem_of_getElem? hc)
      have hp0 : 0 < p := Nat.pos_of_dvd_of_pos hp (by decide)
      have hple : p ≤ 12252240 := Nat.le_of_dvd (by decide) hp
      have hb : (12252240 : Nat) < 2 ^ 2000 := Nat.lt_of_lt_of_le (show 12252240 < 2 ^ 24 by decide) (Nat.pow_le_pow_right (by decide) (by decide))
      refine ⟨_, rfl, _, rfl, q, _, rfl, .inl (e3.w.seq (s3.seq hq)), B3, _, e3.w, ⟨p, cc.length, by rw [List.length_map], hp0, by omega, by omega, rfl⟩, fun B4 H4 v4 e4 hv4 => ?_⟩
      subst hv4
      refine ⟨B4, _, Nat.lcm p cc.length, rfl, e3.trans e4, s3.trans e4.b, Nat.lcm_dvd hp (dvd_18 _ (by omega) hcl.1), fun k' c' hk' hc' => ?_⟩
      by_cases hki : k' = i
      · subst hki
        rw [hc] at hc'
        obtain rfl := Option.some.inj hc'
        exact Nat.dvd_lcm_right _ _
      · exact Nat.dvd_trans (hd k' c' (by omega) hc') (Nat.dvd_lcm_left _ _)
    · rintro σ' H3 ⟨B3, v2, p, rfl, e3, s3, hp, hd⟩
      refine ⟨_, rfl, k _ _ _ e3 ⟨p, rfl, Nat.pos_of_dvd_of_pos hp (by decide), Nat.le_of_dvd (by decide) hp, fun x hx => ?_⟩⟩
      refine period_ok C (fun k' c' hc' => hd k' c' ?_ hc') hx
      have := (List.getElem?_eq_some_iff.mp hc').1
      rw [Paired.length hcv]; exact this
def sp_order_period (K : PySem.W.Frag) : Sp := Pu fun B vs R => ∃ (v : V) (c : Clk), vs = [v] ∧ CK K B v c ∧ c.Ok ∧ c.n ≤ 18 ∧ R = fun _ v => ∃ p : Nat, v = .int (p : Int) ∧ Per c p
theorem c_order_period (T : Txt w K mg) : Has P w K mg base "order_period" 12 ["clock"] (sp_order_period K) := by
  refine Has.of T.f_order_period T.g_order_period sc_order_period (fun _ _ _ _ _ _ us hl => match us, hl with | [_], _ => rfl) (fun vs H Q E h => ?_) (fun f cdv A outer s H vs Q E hr h => ?_)
  · obtain ⟨B, R, hB, ⟨v, c, rfl, _⟩, _⟩ := h; rfl
  · obtain ⟨B, R, hB, ⟨v, c, rfl, hck, ok, h18, rfl⟩, k⟩ := h
    refine ⟨_, (pss_cons (ps_expr (pc (c_require_clock T) hr (pa_cons (pv 0) pa_nil)))
      (pss_one (ps_ret (pc (c_queue_period T) hr (pa_cons (pv 0) pa_nil))))), ?_⟩
    refine ⟨_, rfl, B, _, hB, ⟨v, c, rfl, hck, ok, rfl⟩, fun B1 H1 v1 e1 hv1 => ?_⟩
    refine ⟨_, rfl, B1, _, e1.w, ⟨v, c, rfl, hck.mono e1.b, ok, h18, rfl⟩, fun B2 H2 v2 e2 hv2 => ?_⟩
    exact k _ _ _ (e1.trans e2) hv2
end
end BH
end
section
set_option Elab.async false
set_option linter.all false
set_option maxRecDepth 100000
set_option maxHeartbeats 4000000
namespace BH
open PySem PySem.Spec PyProof.Rows L2 BM
/-! ### cycles kept -/
def SpotsAt (K : PySem.W.Frag) (B : Hp) (cy : List (List Nat)) (kvs : List (Key × V)) (p : Nat → Nat → Prop) : Prop :=
  ∀ (k : Nat) (cyc : List Nat) (i : Nat), cy[k]? = some cyc → i < cyc.length → p k i → ∃ tv, valV kvs (Sum.inl ((cyc.getD i 0 : Nat) : Int) : Key) = some tv ∧ P2 K B tv ((k : Int), (i : Int))
theorem SpotsAt.mono {K : PySem.W.Frag} {B B' : Hp} {cy : List (List Nat)} {kvs : List (Key × V)} {p : Nat → Nat → Prop} (h : SpotsAt K B cy kvs p) (e : Same B B') : SpotsAt K B' cy kvs p := fun k c i h1 h2 h3 => by
  obtain ⟨tv, h4, h5⟩ := h k c i h1 h2 h3
  exact ⟨tv, h4, h5.mono e⟩
def CI (K : PySem.W.Frag) (B : Hp) (o : Addr) (c : Clk) : Prop := ∃ dx ca d cy kvs, B o = some (.ins (He.ga K "Circles") dx [("kept_cycles", .ref ca), ("kept_spots", .ref d)]) ∧ LNs K B (.ref ca) cy ∧ Cyc (trow c) c.n cy ∧ B d = some (.dK kvs) ∧ SpotsAt K B cy kvs fun _ _ => True
theorem CI.mono {K : PySem.W.Frag} {B B' : Hp} {o : Addr} {c : Clk} (h : CI K B o c) (e : Same B B') : CI K B' o c := by
  obtain ⟨dx, ca, d, cy, kvs, h1, h2, h3, h4, h5⟩ := h
  exact ⟨dx, ca, d, cy, kvs, e _ _ h1, h2.mono e, h3, e _ _ h4, h5.mono e⟩
def sp_Circles_init (K : PySem.W.Frag) : Sp := fun vs H Q _ => ∃ (B : Hp) (x dx : Addr) (c : Clk) (cv : V), Same B H ∧ B x = none ∧ H x = some (.ins (He.ga K "Circles") dx []) ∧ vs = [.ref x, cv] ∧ CK K B cv c ∧ c.Ok ∧
  ∀ B' H', Ext B (Wo H x) B' H' → CI K B' x c → Q .non H'
/-- the balls that may be behind some turns at a place -/
structure TT (c : Clk) (place ball : Nat) (o : Option (Nat × Nat)) : Prop where
  no : o = none → ∀ m, itN (trow c) m place ≠ ball
  yes : ∀ r s, o = some (r, s) → r < s ∧ s ≤ c.n ∧ (∀ m, itN (trow c) m place = ball ↔ m % s = r)
def O2n (K : PySem.W.Frag) (B : Hp) (v : V) : Option (Nat × Nat) → Prop
  | none => v = .non
  | some x => P2n K B v x
theorem O2n.mono {K : PySem.W.Frag} {B B' : Hp} {v : V} (e : Same B B') {x : Option (Nat × Nat)} (h : O2n K B v x) : O2n K B' v x := by
  cases x with
  | none => exact h
  | some x => exact P2.mono e h
theorem cyc_iff {l : List Nat} {n : Nat} {cy : List (List Nat)} (C : Cyc l n cy) {k : Nat} {c : List Nat} (hc : cy[k]? = some c) {i g : Nat} (hi : i < c.length) (hg : g < c.length) (m : Nat) :
    itN l m (c.getD i 0) = c.getD g 0 ↔ (m : Int) % (c.length : Int) = ((g : Int) - i) % (c.length : Int) := by
  have hcm := List.mem_of_getElem? hc
  have hnd : c.Nodup := C.part.nd.sublist (List.sublist_flatten_of_mem hcm)
  rw [C.itN hcm m i hi]
  have hl : 0 < c.length := by omega
  constructor
  · intro h
    have := getD_inj hnd (Nat.mod_lt _ hl) hg h
    have e : ((i + m : Nat) : Int) % (c.length : Int) = g := by rw [← Int.natCast_emod, this]
    have e2 : (m : Int) = ((i + m : Nat) : Int) - i := by omega
    rw [e2, Int.sub_emod, e, Int.sub_emod (g : Int) (i : Int)]
    congr 2
    rw [Int.emod_eq_of_lt (by omega) (by omega)]
  · intro h
    have e : ((i + m : Nat) : Int) % (c.length : Int) = g := by
      rw [show ((i + m : Nat) : Int) = (m : Int) + i by omega, Int.add_emod, h, ← Int.add_emod, show (g : Int) - i + i = g by omega]
      exact Int.emod_eq_of_lt (by omega) (by omega)
    have : (i + m) % c.length = g := by
      rw [← Int.natCast_emod] at e
      omega
    rw [this]
section
variable {P : Program} {w : World} {K : PySem.W.Frag} {mg : Str → Option Value} {base : Heap}
theorem c_Circles_init (T : Txt w K mg) : HasI P w K mg base "Circles" 11 ["self", "clock"] (sp_Circles_init K) := by
  refine HasI.of T.f_Circles_init T.k_Circles T.g_Circles sc_Circles_init (fun _ _ _ _ _ _ us hl => match us, hl with | [_, _], _ => rfl) (fun vs H Q E h => ?_) (fun f cdv A outer s0 H vs Q E hr h => ?_)
  · obtain ⟨B, x, dx, c, cv, hB, hbx, hx, rfl, _⟩ := h; rfl
  · obtain ⟨B, x, dx, c, cv, hB, hbx, hx, rfl, hck, ok, k⟩ := h
    have hu := hu_of hr
    have hn100 := ok.n100
    refine ⟨_, (pss_cons (ps_fld (pv 0) (pc (c_row_cycles T) hr (pa_cons (pc (c_turn_row T) hr (pa_cons (pv 1) pa_nil)) pa_nil)) rfl)
      (pss_cons (ps_fld (pv 0) pe_dnewK rfl)
      (pss_one (ps_for PassesOwn.never rfl (pi_enum rfl T.b_enumerate (pa_cons (pF (K := K) rfl (pv 0)) pa_nil)) (pg_tup rfl (pgs_cons (pg_name (i := 2) sc_Circles_init.nd rfl (.inl rfl)) (pgs_cons (pg_name (i := 3) sc_Circles_init.nd rfl (.inl rfl)) pgs_nil)))
      (pss_one (ps_for PassesOwn.never rfl (pi_enum rfl T.b_enumerate (pa_cons (pv 3) pa_nil)) (pg_tup rfl (pgs_cons (pg_name (i := 4) sc_Circles_init.nd rfl (.inl rfl)) (pgs_cons (pg_name (i := 5) sc_Circles_init.nd rfl (.inl rfl)) pgs_nil)))
      (pss_one (ps_dput hu (pF (K := K) rfl (pv 0)) (pv 5) (pe_tup (pa_cons (pv 2) (pa_cons (pv 4) pa_nil))) rfl)))))))), ?_⟩
    have e0 : Ext B (Wo H x) B H := ⟨Same.refl _, hB, Wo.same (Same.refl _), fun _ _ => rfl⟩
    have m0 : Mine (Wo H x) B H x (.ins (He.ga K "Circles") dx []) := ⟨Wo.at, hbx, hx⟩
    refine ⟨_, rfl, B, _, hB, ⟨cv, c, rfl, hck, ok, rfl⟩, fun B1 H1 v1 e1 hv1 => ?_⟩
    refine ⟨B1, _, e1.w, ⟨v1, trow c, c.n, rfl, hv1, trow_perm ok, hn100, rfl⟩, fun B2 H2 v2 e2 hv2 => ?_⟩
    obtain ⟨cy, ⟨ca, cvs, rfl, hca, hcv⟩, C⟩ := hv2
    have E2 := (e0.trans e1).trans e2
    have m2 := (m0.ext e1).ext e2
    refine ⟨_, rfl, x, _, _, _, rfl, m2.h, T.c_Circles, T.n_Circles_kept_cycles, by show 0 < 1000; decide, ?_⟩
    have e3 := m2.set E2 (.ins (He.ga K "Circles") dx [("kept_cycles", .ref ca)])
    have m3 := m2.put (.ins (He.ga K "Circles") dx [("kept_cycles", .ref ca)])
    intro d nd
    have hxd : x ≠ d := (upd_none nd).2.symm
    have e4 := e3.trans (Ext.tmp e3.w (.dK []) nd)
    have m4 := m3.ext (Ext.tmp e3.w (.dK []) nd)
    have d4 := Mine.new (o := .dK []) e3 nd
    refine ⟨_, rfl, x, _, _, _, rfl, m4.h, T.c_Circles, T.n_Circles_kept_spots, by show 1 < 1000; decide, ?_⟩
    have e5 := m4.set e4 (.ins (He.ga K "Circles") dx [("kept_cycles", .ref ca), ("kept_spots", .ref d)])
    have m5 := m4.put (.ins (He.ga K "Circles") dx [("kept_cycles", .ref ca), ("kept_spots", .ref d)])
    have d5 := d4.other (u := .ins (He.ga K "Circles") dx [("kept_cycles", .ref ca), ("kept_spots", .ref d)]) hxd.symm
    have hpl := C.perm.length_eq
    rw [List.length_range] at hpl
    have hlen1 : ∀ i row, cy[i]? = some row → (cy.take i).flatten.length + row.length ≤ c.n := by
      intro i row h
      have h1 := take_flat_succ h
      have h2 : (cy.take (i + 1)).flatten.length ≤ cy.flatten.length := by
        have : cy.flatten = (cy.take (i + 1)).flatten ++ (cy.drop (i + 1)).flatten := by rw [← List.flatten_append, List.take_append_drop]
        rw [this, List.length_append]; omega
      rw [hpl, h1, List.length_append] at h2
      exact h2
    refine ⟨_, rfl, x, _, _, _, _, rfl, m5.h, T.c_Circles, T.n_Circles_kept_cycles, rfl, ca, cvs, rfl, e5.w.seq hca, for_it (walk_enum0 cvs) (fun i σ' H' => ∃ (B' : Hp) (kvs : List (Key × V)) (v2 v3 v4 v5 : Option V), σ' = [some (.ref x), some cv, v2, v3, v4, v5] ∧ Ext B (Wo H x) B' H' ∧ Same B2 B' ∧ Mine (Wo H x) B' H' x (.ins (He.ga K "Circles") dx [("kept_cycles", .ref ca), ("kept_spots", .ref d)]) ∧ Mine (Wo H x) B' H' d (.dK kvs) ∧ kvs.length ≤ (cy.take i).flatten.length ∧ SpotsAt K B' cy kvs fun k _ => k < i)
      ⟨B2, [], none, none, none, none, rfl, e5, Same.refl _, m5, d5, Nat.zero_le _, fun k c i h1 h2 h3 => absurd h3 (Nat.not_lt_zero _)⟩ (fun i σ' H' _ ⟨B', _, _, _, _, _, _, e, s, _⟩ => e.w.seq (s.seq hca)) ?_ ?_⟩
    · rintro i y σ' H3 H3' hi ⟨B3, kvs, v2, v3, v4, v5, rfl, e6, s6, m6, d6, hkl, hsp⟩ ⟨Tp, z, rfl, nT, rfl, hz⟩
      obtain ⟨cc, hc, q, rfl, hq⟩ := pat hcv hz
      have e7 := Ext.tmp e6.w (.tup [.int (i : Nat), .ref q]) nT
      have E7 := e6.trans e7
      have m7 := m6.ext e7
      have d7 := d6.ext e7
      refine ⟨Tp, _, rfl, SqT.of upd_same, rfl, _, _, rfl, _, _, rfl, rfl, ?_⟩
      refine ⟨_, rfl, q, _, rfl, e7.w.seq (s6.seq hq), for_it (walk_enum0 _) (fun j σ' H' => ∃ (B' : Hp) (kvs : List (Key × V)) (v4 v5 : Option V), σ' = [some (.ref x), some cv, some (.int (i : Nat)), some (.ref q), v4, v5] ∧ Ext B (Wo H x) B' H' ∧ Same B2 B' ∧ Mine (Wo H x) B' H' x (.ins (He.ga K "Circles") dx [("kept_cycles", .ref ca), ("kept_spots", .ref d)]) ∧ Mine (Wo H x) B' H' d (.dK kvs) ∧ kvs.length ≤ (cy.take i).flatten.length + j ∧ SpotsAt K B' cy kvs fun k l => k < i ∨ (k = i ∧ l < j))
        ⟨B3, kvs, v4, v5, rfl, E7, s6, m7, d7, hkl, fun k c l h1 h2 h3 => hsp k c l h1 h2 (by rcases h3 with h | h <;> omega)⟩ (fun i σ' H' _ ⟨B', _, _, _, _, e, s, _⟩ => e.w.seq (s.seq hq)) ?_ ?_⟩
      · rintro j y σ' H4 H4' hj ⟨B4, kvs4, v4, v5, rfl, e8, s8, m8, d8, hkl8, hsp8⟩ ⟨Tp2, z2, rfl, nT2, rfl, hz2⟩
        rw [List.getElem?_map] at hz2
        obtain ⟨pl, hpl2, rfl⟩ := Option.map_eq_some_iff.mp hz2
        have hjc := (List.getElem?_eq_some_iff.mp hpl2).1
        have hpj : cc.getD j 0 = pl := by rw [List.getD_eq_getElem?_getD, hpl2]; rfl
        have hln := hlen1 i cc hc
        have e9 := Ext.tmp e8.w (.tup [.int (j : Nat), .int (pl : Int)]) nT2
        have E9 := e8.trans e9
        have m9 := m8.ext e9
        have d9 := d8.ext e9
        refine ⟨Tp2, _, rfl, SqT.of upd_same, rfl, _, _, rfl, _, _, rfl, rfl, ?_⟩
        refine ⟨_, rfl, _, rfl, by show 2 ≤ sizeLine; decide, fun p np => ?_⟩
        have e10 := Ext.new e9.w (.tup [.int (i : Nat), .int (j : Nat)]) np
        have E10 := E9.trans e10
        have m10 := m9.ext e10
        have d10 := d9.ext e10
        refine ⟨_, rfl, x, _, _, _, _, rfl, m10.h, T.c_Circles, T.n_Circles_kept_spots, rfl, _, rfl, d, _, rfl, DPut.k (k := Sum.inl (pl : Int)) d10.h (small1000 (by omega)), ?_⟩
        have e11 := d10.set E10 (.dK (putK kvs4 (Sum.inl (pl : Int)) (.ref p)))
        have d11 := d10.put (.dK (putK kvs4 (Sum.inl (pl : Int)) (.ref p)))
        have m11 := m10.other (u := .dK (putK kvs4 (Sum.inl (pl : Int)) (.ref p))) hxd
        refine ⟨_, _, _, _, rfl, e11, s8.trans e10.b, m11, d11, Nat.le_trans (length_putK _ _ _) (by omega), fun k' c' l h1 h2 h3 => ?_⟩
        rw [valV_put]
        split
        · rename_i hk
          have hk' : c'.getD l 0 = pl := by have := Sum.inl.inj hk; omega
          obtain ⟨a1, a2⟩ := flat_uniq C.part.nd h1 hc h2 hjc (hk'.trans hpj.symm)
          subst a1; subst a2
          exact ⟨_, rfl, p, rfl, SqT.of upd_same⟩
        · rename_i hk
          refine (hsp8.mono e10.b) k' c' l h1 h2 ?_
          rcases h3 with h | ⟨h, h'⟩
          · exact .inl h
          · by_cases hlj : l = j
            · exfalso
              subst h; subst hlj
              rw [hc] at h1
              obtain rfl := Option.some.inj h1
              exact hk (by rw [hpj])
            · exact .inr ⟨h, by omega⟩
      · rintro σ' H4 ⟨B4, kvs4, v4, v5, rfl, e8, s8, m8, d8, hkl8, hsp8⟩
        refine ⟨B4, kvs4, _, _, _, _, rfl, e8, s8, m8, d8, ?_, fun k' c' l h1 h2 h3 => hsp8 k' c' l h1 h2 ?_⟩
        · rw [take_flat_succ hc, List.length_append]
          rw [List.length_map] at hkl8
          exact hkl8
        · by_cases hki : k' = i
          · subst hki
            rw [hc] at h1
            obtain rfl := Option.some.inj h1
            exact .inr ⟨rfl, by rw [List.length_map]; exact h2⟩
          · exact .inl (by omega)
    · rintro σ' H3 ⟨B3, kvs, v2, v3, v4, v5, rfl, e6, s6, m6, d6, hkl, hsp⟩
      have e7 := m6.frz e6
      have d7 := d6.keep (q := x) (u := .ins (He.ga K "Circles") dx [("kept_cycles", .ref ca), ("kept_spots", .ref d)]) hxd.symm
      have e8 := d7.frz e7
      have hb8 := m6.frz1.trans d7.frz1
      refine k _ _ e8 ⟨dx, ca, d, cy, kvs, ?_, ⟨ca, cvs, rfl, hb8.seq (s6.seq hca), Paired.mapP hcv fun _ _ h => (h.mono s6).mono hb8⟩, C, upd_same, fun k' c' l h1 h2 _ => (hsp.mono hb8) k' c' l h1 h2 ?_⟩
      · rw [upd_ne hxd]; exact upd_same
      · have := (List.getElem?_eq_some_iff.mp h1).1
        rw [Paired.length hcv]; exact this
def sp_turns_to (K : PySem.W.Frag) : Sp := Pu fun B vs R => ∃ (o : Addr) (c : Clk) (place ball : Nat), vs = [.ref o, .int (place : Int), .int (ball : Int)] ∧ CI K B o c ∧ place < c.n ∧ ball < c.n ∧ c.n ≤ 100 ∧ R = fun B' v => ∃ r, O2n K B' v r ∧ TT c place ball r
theorem c_Circles_turns_to (T : Txt w K mg) : HasM P w K mg base "Circles" "turns_to" 1 ["self", "place", "ball"] (sp_turns_to K) := by
  refine HasM.of T.f_Circles_turns_to T.m_Circles_turns_to T.c_Circles sc_Circles_turns_to (fun _ _ _ _ _ _ us hl => match us, hl with | [_, _, _], _ => rfl) (fun vs H Q E h => ?_) (fun f cdv A outer s0 H vs Q E hr h => ?_)
  · obtain ⟨B, R, hB, ⟨o, c, pl, bl, rfl, _⟩, _⟩ := h; rfl
  · obtain ⟨B, R, hB, ⟨o, c, pl, bl, rfl, ⟨dx, ca, d, cy, kvs, hins, ⟨ca', cvs, eca, hca, hcv⟩, C, hd, hsp⟩, hpl, hbl, hn, rfl⟩, k⟩ := h
    obtain rfl := V.ref.inj eca
    have hu := hu_of hr
    obtain ⟨k1, c1, i1, hc1, hi1, e1⟩ := C.at hpl
    obtain ⟨k2, c2, i2, hc2, hi2, e2⟩ := C.at hbl
    obtain ⟨t1, hv1, a1, rfl, ha1⟩ := hsp k1 c1 i1 hc1 hi1 trivial
    obtain ⟨t2, hv2, a2, rfl, ha2⟩ := hsp k2 c2 i2 hc2 hi2 trivial
    rw [e1] at hv1
    rw [e2] at hv2
    refine ⟨_, (pss_cons (ps_asg (pe_dget hu (pF (K := K) rfl (pv 0)) (pv 1) (fun _ _ => rfl)) (pg_tup rfl (pgs_cons (pg_name (i := 3) sc_Circles_turns_to.nd rfl (.inl rfl)) (pgs_cons (pg_name (i := 4) sc_Circles_turns_to.nd rfl (.inl rfl)) pgs_nil))))
      (pss_cons (ps_asg (pe_dget hu (pF (K := K) rfl (pv 0)) (pv 2) (fun _ _ => rfl)) (pg_tup rfl (pgs_cons (pg_name (i := 5) sc_Circles_turns_to.nd rfl (.inl rfl)) (pgs_cons (pg_name (i := 6) sc_Circles_turns_to.nd rfl (.inl rfl)) pgs_nil))))
      (pss_cons (ps_if (pt_cmpR op_ne (pv 3) (pv 5) (nomark _)) (pss_one (ps_ret pe_non)) pss_nil)
      (pss_cons (ps_set (i := 7) sc_Circles_turns_to.nd rfl (.inl rfl) (pe_callB (cLen (K := K) rfl) (by rfl) T.b_len (by decide +kernel) (pa_cons (pe_ix (xL (K := K) rfl) (pF (K := K) rfl (pv 0)) (pv 3) (fun _ _ => rfl)) pa_nil)))
      (pss_one (ps_ret (pe_tup (pa_cons (pe_op op_mod (pe_op op_sub (pv 6) (pv 4)) (pv 7)) (pa_cons (pv 7) pa_nil))))))))), ?_⟩
    refine ⟨_, rfl, o, _, _, _, _, rfl, hB _ _ hins, T.c_Circles, T.n_Circles_kept_spots, rfl, _, rfl, d, .ref a1, rfl, ?_, ?_⟩
    · rw [← hv1]; exact DGet.k (k := Sum.inl (pl : Int)) (hB _ _ hd)
    refine ⟨a1, _, rfl, hB.tup ha1, rfl, _, _, rfl, _, _, rfl, rfl, ?_⟩
    refine ⟨_, rfl, o, _, _, _, _, rfl, hB _ _ hins, T.c_Circles, T.n_Circles_kept_spots, rfl, _, rfl, d, .ref a2, rfl, ?_, ?_⟩
    · rw [← hv2]; exact DGet.k (k := Sum.inl (bl : Int)) (hB _ _ hd)
    refine ⟨a2, _, rfl, hB.tup ha2, rfl, _, _, rfl, _, _, rfl, rfl, ?_⟩
    by_cases hk : k1 = k2
    · subst hk
      rw [hc1] at hc2
      obtain rfl := Option.some.inj hc2
      have hcl := C.len (List.mem_of_getElem? hc1)
      obtain ⟨cv1, hcv1, q, rfl, hq⟩ := pat2 hcv hc1
      refine ⟨_, rfl, _, rfl, rfl, _, rfl, iteBF (by simp) ?_⟩
      refine ⟨_, rfl, o, _, _, _, _, rfl, hB _ _ hins, T.c_Circles, T.n_Circles_kept_cycles, rfl, _, rfl, ca, _, _, _, rfl, rfl, hB.seq hca, atI_nat hcv1, q, _, rfl, .inl (hB.seq hq), ?_⟩
      refine ⟨_, rfl, _, rfl, _, _, rfl, rfl, _, rfl, _, _, rfl, rfl, by rw [List.length_map]; omega, _, rfl, by show 2 ≤ sizeLine; decide, fun p np => ?_⟩
      have hr0 := Int.emod_nonneg ((i2 : Int) - i1) (b := (c1.length : Int)) (by omega)
      have hr1 := Int.emod_lt_of_pos ((i2 : Int) - i1) (b := (c1.length : Int)) (by omega)
      refine k _ _ _ (Ext.new hB _ np) ⟨some ((((i2 : Int) - i1) % (c1.length : Int)).toNat, c1.length), ⟨p, rfl, SqT.of ?_⟩, ⟨fun h => (by cases h), fun r s h => ?_⟩⟩
      · rw [upd_same]
        have e3 : ((((i2 : Int) - i1) % (c1.length : Int)).toNat : Int) = ((i2 : Int) - i1) % (c1.length : Int) := Int.toNat_of_nonneg hr0
        show some (HO.tup [.int (((i2 : Int) - i1) % (((c1.map fun n : Nat => V.int (n : Int)).length : Nat) : Int)), .int (((c1.map fun n : Nat => V.int (n : Int)).length : Nat) : Int)]) = _
        rw [List.length_map]
        show _ = some (HO.tup [.int ((((i2 : Int) - i1) % (c1.length : Int)).toNat : Int), .int (c1.length : Int)])
        rw [e3]
      · have h1 := (Prod.mk.inj (Option.some.inj h)).1
        have h2 := (Prod.mk.inj (Option.some.inj h)).2
        subst h1; subst h2
        refine ⟨by omega, hcl.2, fun m => ?_⟩
        have := cyc_iff C hc1 hi1 hi2 m
        rw [e1, e2] at this
        rw [this, ← Int.natCast_emod]
        omega
    · refine ⟨_, rfl, _, rfl, rfl, _, rfl, iteB (by simp; omega) ?_⟩
      refine k _ _ _ (Ext.refl hB) ⟨none, rfl, ⟨fun _ m hm => ?_, fun _ _ h => (by cases h)⟩⟩
      rw [← e1, C.itN (List.mem_of_getElem? hc1) m i1 hi1, ← e2] at hm
      exact hk (flat_uniq C.part.nd hc1 hc2 (Nat.mod_lt _ (by omega)) hi2 hm).1
end
end BH
end
section
set_option Elab.async false
set_option linter.all false
set_option maxRecDepth 100000
set_option maxHeartbeats 4000000
namespace BH
open PySem PySem.Spec PyProof.Rows L2 BM
theorem choose_rows {α : Type} : ∀ (ys : List V) (F : Nat → V → α → Prop), (∀ (i : Nat) (y : V), ys[i]? = some y → ∃ r, F i y r) → ∃ rows : List α, rows.length = ys.length ∧ ∀ (i : Nat) (y : V) (r : α), ys[i]? = some y → rows[i]? = some r → F i y r
  | [], _, _ => ⟨[], rfl, fun i y r h => by simp at h⟩
  | y :: ys, F, h => by
    obtain ⟨r, hr⟩ := h 0 y rfl
    obtain ⟨rows, hl, hrows⟩ := choose_rows ys (fun i => F (i + 1)) fun i z hz => h (i + 1) z (by simpa using hz)
    refine ⟨r :: rows, by simp [hl], fun i z q hz hq => ?_⟩
    cases i with
    | zero =>
      have e1 : y = z := by simpa using hz
      have e2 : r = q := by simpa using hq
      subst e1; subst e2
      exact hr
    | succ i => exact hrows i z q (by simpa using hz) (by simpa using hq)
theorem rows_none {ys : List V} (h : (ys.any fun v => decide (v = .non)) = false) : ∀ y ∈ ys, y ≠ .non := by
  intro y hy e
  have := List.any_eq_false.mp h y hy
  simp [e] at this
section
variable {P : Program} {w : World} {K : PySem.W.Frag} {mg : Str → Option Value} {base : Heap}
def Turns (c : Clk) (qq : List Nat) (x : Int) : Prop := 0 ≤ x ∧ (c.n ≤ 18 → x < 12252240) ∧ ∀ p, p < c.n → itN (trow c) x.toNat p = qq.getD p 0
def sp_turns_for (K : PySem.W.Frag) : Sp := Pu fun B vs R => ∃ (o : Addr) (qv : V) (c : Clk) (qq : List Nat), vs = [.ref o, qv] ∧ CI K B o c ∧ LN K B qv qq ∧ qq.Perm (List.range c.n) ∧ c.n ≤ 100 ∧ R = fun B' v => ∃ r, O2 K B' v r ∧ ∀ x w, r = some (x, w) → Turns c qq x
theorem c_Circles_turns_for (T : Txt w K mg) : HasM P w K mg base "Circles" "turns_for" 4 ["self", "order"] (sp_turns_for K) := by
  refine HasM.of T.f_Circles_turns_for T.m_Circles_turns_for T.c_Circles sc_Circles_turns_for (fun _ _ _ _ _ _ us hl => match us, hl with | [_, _], _ => rfl) (fun vs H Q E h => ?_) (fun f cdv A outer s0 H vs Q E hr h => ?_)
  · obtain ⟨B, R, hB, ⟨o, qv, c, qq, rfl, _⟩, _⟩ := h; rfl
  · obtain ⟨B, R, hB, ⟨o, qv, c, qq, rfl, hci, ⟨qa, rfl, hqa⟩, hqp, hn, rfl⟩, k⟩ := h
    have hql : qq.length = c.n := by rw [hqp.length_eq, List.length_range]
    obtain ⟨dx, ca, d, cy, kvs, hins, _⟩ := id hci
    refine ⟨_, (pss_cons (ps_setLc (i := 2) (own := [("place", 3), ("ball", 4)]) (g := (gTup K 2 (gCons (gName 3) (gCons (gName 4) gNil)))) rfl sc_Circles_turns_for.nd rfl rfl (sw_true rfl rfl rfl (by decide +kernel)) (pi_enum rfl T.b_enumerate (pa_cons (pv 1) pa_nil)) (blkOk_by (by kernel_rfl)) (fun _ _ _ _ _ => (pg_tup rfl (pgs_cons (pg_name (i := 3) sc_Circles_turns_for.nd rfl (.inl rfl)) (pgs_cons (pg_name (i := 4) sc_Circles_turns_for.nd rfl (.inl rfl)) pgs_nil)))) (fun _ _ _ _ _ => pts_nil) (fun _ _ _ _ _ => (pmK (K := K) rfl (c_Circles_turns_to T) hr (pv 0) (pa_cons (pv 3) (pa_cons (pv 4) pa_nil)))))
      (pss_one (ps_ret (pe_ifExp (pt_cmpR (op_inNone hr.units) pe_non (pv 2) rfl) pe_non (pc (c_joined_rests T) hr (pa_cons (pv 2) pa_nil)))))), ?_⟩
    refine ⟨_, rfl, qa, _, rfl, hB.seq hqa, fun D hD => lc_new (walk_enum0 _) (fun i B y => ∃ r, O2n K B y r ∧ TT c i (qq.getD i 0) r) hB (fun H' s => s.seq hqa) (by rw [List.length_map]; omega) hD (fun _ _ _ _ e h => by obtain ⟨r, h1, h2⟩ := h; exact ⟨r, h1.mono e, h2⟩) ?_ ?_⟩
    · intro i y B3 H3 H3' N hi e3 hy hN
      obtain ⟨Tp, z, rfl, nT, rfl, hz⟩ := hy
      rw [List.length_map] at hi
      rw [map_getD qq hi] at hz
      obtain rfl := Option.some.inj hz
      have hlt : qq.getD i 0 < c.n := List.mem_range.mp (hqp.mem_iff.mp (getD_mem hi))
      have e4 := Ext.tmp e3.w (.tup [.int (i : Nat), .int (qq.getD i 0 : Nat)]) nT
      refine ⟨Tp, _, rfl, SqT.of upd_same, rfl, _, _, rfl, _, _, rfl, rfl, rfl, ?_⟩
      refine ⟨_, rfl, o, _, _, rfl, e4.w _ _ (e3.b _ _ hins), rfl, _, rfl, _, rfl, B3, _, e4.w, ⟨o, c, i, qq.getD i 0, rfl, hci.mono e3.b, by omega, hlt, hn, rfl⟩, fun B5 H5 v5 e5 hv5 => ?_⟩
      exact hN _ _ _ (e4.trans e5) hv5
    intro B6 H6 ys e6 hD6 hl6 hys
    rw [List.length_map] at hl6
    refine ⟨_, rfl, D, ys, rfl, rfl, SqL.of (e6.w _ _ hD6), ?_, _, rfl, ?_⟩
    · intro y hy
      obtain ⟨i, hi⟩ := List.mem_iff_getElem?.mp hy
      obtain ⟨r, h1, h2⟩ := hys i y hi
      cases r with
      | none => exact .inl h1
      | some r =>
        obtain ⟨p, h3, h4⟩ := h1
        exact .inr ⟨p, _, h3, e6.w.tup h4⟩
    cases hany : (ys.any fun v => decide (v = .non)) with
    | true =>
      refine iteB rfl ?_
      exact k _ _ _ e6 ⟨none, rfl, fun x w h => by cases h⟩
    | false =>
      refine iteBF rfl ?_
      have hno := rows_none hany
      obtain ⟨rows, hrl, hrows⟩ := choose_rows ys (fun i y (r : Nat × Nat) => P2n K B6 y r ∧ TT c i (qq.getD i 0) (some r)) fun i y hy => by
        obtain ⟨r, h1, h2⟩ := hys i y hy
        cases r with
        | none => exact absurd h1 (hno y (List.mem_of_getElem? hy))
        | some r => exact ⟨r, h1, h2⟩
      have hyi : ∀ i r, rows[i]? = some r → TT c i (qq.getD i 0) (some r) := by
        intro i r hr
        have hi := (List.getElem?_eq_some_iff.mp hr).1
        exact (hrows i _ r (List.getElem?_eq_getElem (show i < ys.length by omega)) hr).2
      refine ⟨_, rfl, B6, _, e6.w, ⟨D, ys, rows, rfl, SqL.of hD6, paired_of hrl.symm fun i y r hy hr => (hrows i y r hy hr).1, by omega, fun r hr => ?_, rfl⟩, fun B7 H7 v7 e7 hv7 => ?_⟩
      · obtain ⟨i, hi⟩ := List.mem_iff_getElem?.mp hr
        have := (hyi i r hi).yes r.1 r.2 rfl
        exact ⟨this.1, by omega⟩
      · obtain ⟨oo, ho, ro⟩ := hv7
        refine k _ _ _ (e6.trans e7) ⟨oo, ho, fun x w h => ?_⟩
        obtain ⟨h1, h2, h3, h4⟩ := ro.some x w h
        refine ⟨h1, fun h18 => ?_, fun p hp => ?_⟩
        · have h5 := ro.lcm x w h 12252240 fun r hr => by
            obtain ⟨i, hi⟩ := List.mem_iff_getElem?.mp hr
            have := (hyi i r hi).yes r.1 r.2 rfl
            exact dvd_18 _ (by omega) (by omega)
          have := Int.le_of_dvd (by decide) h5
          omega
        · have hpl : p < rows.length := by omega
          obtain ⟨r, hpr⟩ : ∃ r, rows[p]? = some r := ⟨_, List.getElem?_eq_getElem hpl⟩
          have h6 := ((hyi p r hpr).yes r.1 r.2 rfl).2.2 x.toNat
          rw [h6]
          have h7 := (h4 _ (List.mem_of_getElem? hpr)).1
          have h8 := ((hyi p r hpr).yes r.1 r.2 rfl).1
          obtain ⟨X, rfl⟩ := Int.eq_ofNat_of_zero_le h1
          rw [Int.toNat_natCast]
          obtain ⟨q, hq⟩ := h7
          have h9 : (X : Int) % (r.2 : Int) = r.1 := by
            rw [show (X : Int) = r.1 + r.2 * q by omega, Int.add_mul_emod_self_left]
            exact Int.emod_eq_of_lt (by omega) (by omega)
          rw [← Int.natCast_emod] at h9
          omega
def sp_tick_of (K : PySem.W.Frag) : Sp := Pu fun B vs R => ∃ (cv sv : V) (c : Clk) (s : Sg Nat), vs = [cv, sv] ∧ CK K B cv c ∧ SG K B sv s ∧ c.Ok ∧ VS c s ∧ c.n ≤ 18 ∧ R = fun _ v => v = .non ∨ ∃ t : Nat, v = .int (t : Int) ∧ stepN c.rs t (first c) = s ∧ t ≤ 1728 * 12252240
theorem c_tick_of (T : Txt w K mg) : Has P w K mg base "tick_of" 13 ["clock", "sight"] (sp_tick_of K) := by
  refine Has.of T.f_tick_of T.g_tick_of sc_tick_of (fun _ _ _ _ _ _ us hl => match us, hl with | [_, _], _ => rfl) (fun vs H Q E h => ?_) (fun f cdv A outer s0 H vs Q E hr h => ?_)
  · obtain ⟨B, R, hB, ⟨cv, sv, c, s, rfl, _⟩, _⟩ := h; rfl
  · obtain ⟨B, R, hB, ⟨cv, sv, c, s, rfl, hck, hs, ok, vs, h18, rfl⟩, k⟩ := h
    have hp1728 := prod_1728 ok
    refine ⟨_, (pss_cons (ps_expr (pc (c_require_clock T) hr (pa_cons (pv 0) pa_nil)))
      (pss_cons (ps_expr (pc (c_require_sight T) hr (pa_cons (pv 0) (pa_cons (pv 1) pa_nil))))
      (pss_cons (ps_set (i := 2) sc_tick_of.nd rfl (.inl rfl) (pmK (K := K) rfl (c_Circles_turns_for T) hr (pk (c_Circles_init T) hr (pa_cons (pv 0) pa_nil)) (pa_cons (pc (c_queue_of T) hr (pa_cons (pv 0) (pa_cons (pv 1) pa_nil))) pa_nil)))
      (pss_one (ps_ret (pe_ifExp (pt_cmpR op_notN (pv 2) pe_non (nomark _)) (pe_op op_add (pc (c_ticks_past T) hr (pa_cons (pv 0) (pa_cons (pv 1) pa_nil))) (pe_op op_mul (pe_ix (xT (K := K) rfl) (pv 2) pe_int (fun _ _ => rfl)) (pc (c_turn_of T) hr (pa_cons (pv 0) pa_nil)))) pe_non)))))), ?_⟩
    refine ⟨_, rfl, B, _, hB, ⟨cv, c, rfl, hck, ok, rfl⟩, fun B1 H1 v1 e1 hv1 => ?_⟩
    refine ⟨_, rfl, _, rfl, B1, _, e1.w, ⟨cv, sv, c, s, rfl, hck.mono e1.b, hs.mono e1.b, ok, vs, rfl⟩, fun B2 H2 v2 e2 hv2 => ?_⟩
    have E2 := e1.trans e2
    refine ⟨_, rfl, fun x dx nx ndx ne => ⟨B2, x, dx, c, cv, same_made e2.w nx ndx, e2.w.free nx, upd_same, rfl, hck.mono E2.b, ok, fun B3 H3 e3 hci => ⟨rfl, ?_⟩⟩⟩
    have e3' := Ext.made e2.w nx ndx ne e3
    have E3 := E2.trans e3'
    obtain ⟨dx', ca, d, cy, kvs, hins, _⟩ := id hci
    refine ⟨x, _, _, rfl, e3.w _ _ hins, rfl, _, rfl, _, rfl, B3, _, e3.w, ⟨cv, sv, c, s, rfl, hck.mono E3.b, hs.mono E3.b, ok, vs, rfl⟩, fun B4 H4 v4 e4 hv4 => ?_⟩
    obtain ⟨qq, hqq, hqp, hsp⟩ := hv4
    have E4 := E3.trans e4
    refine ⟨B4, _, e4.w, ⟨x, v4, c, qq, rfl, hci.mono e4.b, hqq, hqp, ok.n100, rfl⟩, fun B5 H5 v5 e5 hv5 => ?_⟩
    obtain ⟨r, hr5, ht⟩ := hv5
    have E5 := E4.trans e5
    cases r with
    | none =>
      have e : v5 = .non := hr5
      subst e
      refine ⟨_, rfl, rfl, _, rfl, iteBF (by simp) ?_⟩
      exact k _ _ _ E5 (.inl rfl)
    | some r =>
      obtain ⟨xx, ww⟩ := r
      obtain ⟨p, rfl, hp⟩ : P2 K B5 v5 (xx, ww) := hr5
      obtain ⟨h0, hlt, hit⟩ := ht xx ww rfl
      obtain ⟨X, rfl⟩ := Int.eq_ofNat_of_zero_le h0
      rw [Int.toNat_natCast] at hit
      refine ⟨_, rfl, rfl, _, rfl, iteB (by simp) ?_⟩
      refine ⟨_, rfl, _, rfl, B5, _, e5.w, ⟨cv, sv, c, s, rfl, hck.mono E5.b, hs.mono E5.b, ok, vs, rfl⟩, fun B6 H6 v6 e6 hv6 => ?_⟩
      subst hv6
      have E6 := E5.trans e6
      refine ⟨_, rfl, p, _, 0, _, rfl, rfl, e6.w.tup (e6.b.tup hp), atI_nat (j := 0) rfl, _, rfl, B6, _, e6.w, ⟨cv, c, rfl, hck.mono E6.b, ok, rfl⟩, fun B7 H7 v7 e7 hv7 => ?_⟩
      subst hv7
      refine ⟨_, _, rfl, rfl, .inr ⟨by omega, by omega⟩, _, _, rfl, rfl, ?_⟩
      refine k _ _ _ (E6.trans e7) (.inr ⟨val c.rs (cnts s) + X * prod c.rs, ?_, ?_, ?_⟩)
      · show V.int (((val c.rs (cnts s) : Nat) : Int) + (X : Int) * (prod c.rs : Nat)) = _
        rw [← Int.natCast_mul, ← Int.natCast_add]
      · have hql : qq.length = c.n := by rw [hqp.length_eq, List.length_range]
        have hn : need c.rs ≤ (List.range c.n).length := by rw [List.length_range]; exact ok.need
        rw [Nat.add_comm, stepN_add]
        show stepN c.rs _ (stepN c.rs (X * prod c.rs) (List.range c.n, empt c.rs.length)) = s
        rw [turns_steps c.rs ok.two X _ hn, iterT_first ok]
        have : (List.range c.n).map (itN (trow c) X) = qq := by
          apply ext_getD
          · rw [List.length_map, List.length_range, hql]
          · intro i hi
            rw [List.length_map, List.length_range] at hi
            rw [← hit i hi, List.getD_eq_getElem?_getD, List.getElem?_map, List.getElem?_range hi]
            rfl
        rw [this, ← spots_counts c ok qq hql _ vs.fits, hsp]
      · have h1 := hlt h18
        have h2 : val c.rs (cnts s) < prod c.rs := val_lt vs.fits
        have h3 : X + 1 ≤ 12252240 := by omega
        have h4 : (X + 1) * prod c.rs ≤ 12252240 * 1728 := Nat.mul_le_mul h3 hp1728
        rw [Nat.add_mul, Nat.one_mul] at h4
        omega
end
end BH
end
section
set_option Elab.async false
set_option linter.all false
set_option maxRecDepth 100000
set_option maxHeartbeats 4000000
namespace BH
open PySem PySem.Spec PyProof.Rows L2 BM
/-- a comprehension whose list may change later -/
theorem lc_mine {J : It} {n : Nat} {G : Hp → Prop} {Y : Nat → Hp → V → Hp → Prop} {g : TG} {te : TE} {vs : List Nat} {σ : L2.St} {B H : Hp} {D : Addr} {Qd : Hp → Prop} (wk : Walk J n G Y) (R : Nat → Hp → V → Prop)
    (hB : Same B H) (hG : ∀ H', Same B H' → G H') (hn : n ≤ 1000000) (hD : H D = Option.none) (mono : ∀ i y B1 B2, Same B1 B2 → R i B1 y → R i B2 y)
    (hs : ∀ i x B1 H1 H1' (N : VK), i < n → Ext B H B1 H1 → Y i H1 x H1' → (∀ B3 H3 y, Ext B1 H1 B3 H3 → R i B3 y → N y H3) → g x (wipe σ vs) H1' fun σ2 H2 => wipe σ2 vs = wipe σ vs ∧ te σ2 H2 N)
    (hd : ∀ B' H' ys, Ext B H B' H' → Mine H B' H' D (.lst ys) → ys.length = n → (∀ i y, ys[i]? = some y → R i B' y) → Qd H') :
    ∃ W : Nat → Nat → Hp → Prop, (∃ m, W 0 m (upd H D (.lst []))) ∧ ∀ i m H, W i m H →
      (J.stop i H ∧ Qd H) ∨ (J.go i H ∧ ∃ Nx : Hp → Prop, (∀ H', Nx H' → ∃ m', m' < m ∧ W (i + 1) m' H') ∧ ∀ x H', J.yld i H x H' → g x (wipe σ vs) H' fun σ2 H2 => wipe σ2 vs = wipe σ vs ∧ tYes σ2 H2 fun b H3 =>
        if b = true then te σ2 H3 fun y H4 => ∃ acc, H4 D = some (.lst acc) ∧ acc.length < sizeLine ∧ Nx (upd H4 D (.lst (acc ++ [y]))) else Nx H3) := by
  refine lc_it wk (Pv := fun i H' => ∃ B1 acc, Ext B H B1 H' ∧ Mine H B1 H' D (.lst acc) ∧ acc.length = i ∧ ∀ j y, acc[j]? = some y → R j B1 y) ?_ ?_ ?_ ?_
  · exact ⟨B, [], Ext.tmp hB _ hD, ⟨hD, hB.free hD, upd_same⟩, rfl, fun j y h => by simp at h⟩
  · rintro i H' _ ⟨B1, acc, e, _⟩
    exact hG H' e.bh
  · rintro i x H1 H1' hi ⟨B1, acc, e, m, hl, hR⟩ hy
    refine hs i x B1 H1 H1' (fun y H3 => ∃ acc, H3 D = some (.lst acc) ∧ acc.length < sizeLine ∧ _) hi e hy fun B3 H3 y e3 hy3 => ?_
    have m3 := m.ext e3
    refine ⟨acc, m3.h, Nat.lt_of_lt_of_le (Nat.lt_of_lt_of_le (by omega) hn) (by decide), B3, acc ++ [y], m3.set (e.trans e3) _, m3.put _, by simp [hl], fun j z hj => ?_⟩
    by_cases hj' : j < acc.length
    · rw [List.getElem?_append_left hj'] at hj
      exact mono _ _ _ _ e3.b (hR j z hj)
    · rw [List.getElem?_append_right (by omega)] at hj
      have e0 : j - acc.length = 0 := by
        cases q : j - acc.length with
        | zero => rfl
        | succ k => rw [q] at hj; simp at hj
      rw [e0] at hj
      have ez : y = z := by simpa using hj
      subst ez
      have ej : j = i := by omega
      subst ej
      exact hy3
  · rintro H' ⟨B1, acc, e, m, hl, hR⟩
    exact hd B1 H' acc e m hl hR
theorem cut_from (xs : List V) (a : Nat) : cutV xs (some (a : Int)) none = xs.drop a := by
  unfold cutV
  rw [HT.sIx_nat, HT.sIx_none]
  by_cases h : a ≤ xs.length
  · rw [Nat.min_eq_left h]
    exact List.take_of_length_le (by rw [List.length_drop]; exact Nat.le_refl _)
  · rw [Nat.min_eq_right (by omega), Nat.sub_self, List.drop_eq_nil_of_le (show xs.length ≤ a by omega)]
    rfl
theorem cut_mid (xs : List V) (i : Nat) (h : i + 1 ≤ xs.length) : cutV xs (some 1) (some ((i : Int) + 1)) = (xs.drop 1).take i := by
  unfold cutV
  rw [show HT.sIx xs.length 0 (some 1) = min 1 xs.length from HT.sIx_nat xs.length 0 1, show ((i : Int) + 1) = ((i + 1 : Nat) : Int) by omega, HT.sIx_nat, Nat.min_eq_left (show 1 ≤ xs.length by omega), Nat.min_eq_left h, Nat.add_sub_cancel]
theorem paired_take {α β : Type} {F : α → β → Prop} : ∀ {l : List α} {m : List β} (i : Nat), Paired F l m → Paired F (l.take i) (m.take i)
  | _, _, 0, _ => by rw [List.take_zero, List.take_zero]; exact .nil
  | _, _, i + 1, .nil => by rw [List.take_nil, List.take_nil]; exact .nil
  | _, _, i + 1, .cons r t => .cons r (paired_take i t)
theorem paired_drop {α β : Type} {F : α → β → Prop} : ∀ {l : List α} {m : List β} (i : Nat), Paired F l m → Paired F (l.drop i) (m.drop i)
  | _, _, 0, p => p
  | _, _, i + 1, .nil => .nil
  | _, _, i + 1, .cons r t => paired_drop i t
theorem paired_set {α β : Type} {F : α → β → Prop} : ∀ {l : List α} {m : List β} (i : Nat) {x : α} {y : β}, Paired F l m → F x y → Paired F (l.set i x) (m.set i y)
  | _, _, _, _, _, .nil, _ => .nil
  | _, _, 0, _, _, .cons _ t, h => .cons h t
  | _, _, i + 1, _, _, .cons r t, h => .cons r (paired_set i t h)
section
variable {P : Program} {w : World} {K : PySem.W.Frag} {mg : Str → Option Value} {base : Heap}
def sp_sent_back (K : PySem.W.Frag) : Sp := Pu fun B vs R => ∃ (v : V) (l : List Nat) (wy : Bool), vs = [v, .str (wayS wy)] ∧ LN K B v l ∧ R = fun B' v => LN K B' v (sent wy l)
theorem c_sent_back (T : Txt w K mg) : Has P w K mg base "sent_back" 1 ["row", "way"] (sp_sent_back K) := by
  refine Has.of T.f_sent_back T.g_sent_back sc_sent_back (fun _ _ _ _ _ _ us hl => match us, hl with | [_, _], _ => rfl) (fun vs H Q E h => ?_) (fun f cdv A outer s H vs Q E hr h => ?_)
  · obtain ⟨B, R, hB, ⟨v, l, wy, rfl, _⟩, _⟩ := h; rfl
  · obtain ⟨B, R, hB, ⟨v, l, wy, rfl, ⟨a, rfl, ha⟩, rfl⟩, k⟩ := h
    refine ⟨_, (pss_one (ps_ret (pe_ifExp (pt_cmpR op_eq (pv 1) pe_str (nomark _)) (pRevL (K := K) rfl (pv 0)) (pe_callTy (cLst (K := K) rfl) (by rfl) T.b_list (by decide +kernel) (pa_cons (pv 0) pa_nil))))), ?_⟩
    refine ⟨_, rfl, rfl, _, rfl, ?_⟩
    cases wy with
    | true =>
      refine iteB (by decide) ?_
      refine ⟨_, rfl, a, _, rfl, hB.seq ha, fun p np => ?_⟩
      refine k _ _ _ (Ext.new hB _ np) ⟨p, rfl, SqL.of ?_⟩
      rw [upd_same, ← List.map_reverse]
      rfl
    | false =>
      refine iteBF (by decide) ?_
      refine ⟨_, rfl, a, _, rfl, .inl (hB.seq ha), fun p np => ?_⟩
      exact k _ _ _ (Ext.new hB _ np) ⟨p, rfl, SqL.of upd_same⟩
def sp_sight_after (K : PySem.W.Frag) : Sp := Pu fun B vs R => ∃ (cv sv : V) (c : Clk) (s : Sg Nat), vs = [cv, sv] ∧ CK K B cv c ∧ SG K B sv s ∧ c.Ok ∧ VS c s ∧ R = fun B' v => SG K B' v (step c.rs s)
theorem c_sight_after (T : Txt w K mg) : Has P w K mg base "sight_after" 2 ["clock", "sight"] (sp_sight_after K) := by
  refine Has.of T.f_sight_after T.g_sight_after sc_sight_after (fun _ _ _ _ _ _ us hl => match us, hl with | [_, _], _ => rfl) (fun vs H Q E h => ?_) (fun f cdv A outer s0 H vs Q E hr h => ?_)
  · obtain ⟨B, R, hB, ⟨cv, sv, c, s, rfl, _⟩, _⟩ := h; rfl
  · obtain ⟨B, R, hB, ⟨cv, sv, c, s, rfl, ⟨a, rv, rfl, ha, ⟨b, rls, rfl, hb, hp⟩⟩, ⟨sa, svs, rfl, hsa, hsv⟩, ok, vs, rfl⟩, k⟩ := h
    have hn100 := ok.n100
    have hl3 := ok.l3
    have hvl := vs.len
    have hlr : rls.length = c.rs.length := Paired.length hp
    have hsl : svs.length = s.2.length + 1 := Paired.length hsv
    have hfl : (flat s).length = c.n := by rw [vs.perm.length_eq, List.length_range]
    have hrl : ∀ row ∈ rowsOf s, row.length ≤ c.n := by
      intro row hrow
      have h1 := (List.sublist_flatten_of_mem hrow).length_le
      rw [rowsOf_flat, hfl] at h1
      exact h1
    obtain ⟨bl, q, hq0⟩ : ∃ bl q, s.1 = bl :: q := by
      cases h : s.1 with
      | nil => exact absurd h (VS.head ok vs)
      | cons x y => exact ⟨x, y, rfl⟩
    have hstep : step c.rs s = tickR c.rs s.2 q bl := by
      obtain ⟨s1, s2⟩ := s
      have : s1 = bl :: q := hq0
      subst this
      rfl
    refine ⟨_, (pss_cons (ps_par (i := 2) (j := 3) rfl sc_sight_after.nd rfl rfl (by decide) rfl rfl (pa_cons (pe_lc (own := [("row", 9)]) (g := (gName 9)) rfl sc_sight_after.nd (piL (K := K) rfl (pv 1)) (blkOk_by (by kernel_rfl)) (fun _ _ _ _ _ => (pg_name (i := 9) sc_sight_after.nd rfl (.inl rfl))) (fun _ _ _ _ _ => pts_nil) (fun _ _ _ _ _ => (pe_callTy (cLst (K := K) rfl) (by rfl) T.b_list (by decide +kernel) (pa_cons (pv 9) pa_nil)))) (pa_cons (pe_ix (xT (K := K) rfl) (pv 0) pe_int (fun _ _ => rfl)) pa_nil)) (by rfl))
      (pss_cons (ps_par (i := 4) (j := 5) rfl sc_sight_after.nd rfl rfl (by decide) rfl rfl (pa_cons (pe_ix (xL (K := K) rfl) (pe_ix (xL (K := K) rfl) (pv 2) pe_int (fun _ _ => rfl)) pe_int (fun _ _ => rfl)) (pa_cons (pe_slice (slL (K := K) rfl) (pe_ix (xL (K := K) rfl) (pv 2) pe_int (fun _ _ => rfl)) (po_some pe_int) po_none) pa_nil)) (by rfl))
      (pss_cons (ps_for PassesOwn.never rfl (pi_enum1 rfl T.b_enumerate (pv 3)) (pg_tup rfl (pgs_cons (pg_name (i := 6) sc_sight_after.nd rfl (.inl rfl)) (pgs_cons (pg_tup rfl (pgs_cons (pg_name (i := 7) sc_sight_after.nd rfl (.inl rfl)) (pgs_cons (pg_name (i := 8) sc_sight_after.nd rfl (.inl rfl)) pgs_nil))) pgs_nil)))
      (pss_cons (ps_if (pt_cmpR op_lt (pe_callB (cLen (K := K) rfl) (by rfl) T.b_len (by decide +kernel) (pa_cons (pe_ix (xL (K := K) rfl) (pv 2) (pv 6) (fun _ _ => rfl)) pa_nil)) (pe_op op_sub (pv 7) pe_int) (nomark _)) (pss_one (ps_ret (pe_lst (pa_cons (pv 5) (StX.pa_star (pe_slice (slL (K := K) rfl) (pv 2) (po_some pe_int) (po_some (pv 6))) (pa_cons (pe_lst (StX.pa_star (pe_ix (xL (K := K) rfl) (pv 2) (pv 6) (fun _ _ => rfl)) (pa_cons (pv 4) pa_nil))) (StX.pa_star (pe_slice (slL (K := K) rfl) (pv 2) (po_some (pe_op op_add (pv 6) pe_int)) po_none) pa_nil))))))) pss_nil)
      (pss_one (ps_asg (pe_tup (pa_cons (pe_lst (StX.pa_star (pv 5) (StX.pa_star (pc (c_sent_back T) hr (pa_cons (pe_ix (xL (K := K) rfl) (pv 2) (pv 6) (fun _ _ => rfl)) (pa_cons (pv 8) pa_nil))) pa_nil))) (pa_cons (pe_lst pa_nil) pa_nil))) (pg_tup rfl (pgs_cons (pg_name (i := 5) sc_sight_after.nd rfl (.inl rfl)) (pgs_cons (pg_sub (pv 2) (pv 6) set_list) pgs_nil)))))))
      (pss_one (ps_ret (pe_lst (pa_cons (pe_lst (StX.pa_star (pv 5) (pa_cons (pv 4) pa_nil))) (StX.pa_star (pe_slice (slL (K := K) rfl) (pv 2) (po_some pe_int) po_none) pa_nil)))))))), ?_⟩
    -- rows, rails = [list(row) for row in sight], clock[1]
    refine ⟨_, rfl, sa, rfl, ⟨_, hB.seq hsa⟩, fun D hD => lc_mine (walk_list svs) (fun i B y => ∀ row, (rowsOf s)[i]? = some row → LN K B y row) hB (fun H' s => s.seq hsa) (by omega) hD (fun _ _ _ _ e h row hrow => (h row hrow).mono e) ?_ ?_⟩
    · intro i y B3 H3 H3' N hi e3 hy hN
      obtain ⟨rfl, hy⟩ := hy
      obtain ⟨row, hrow, ra, rfl, hra⟩ := pat hsv hy
      have hrow' : (rowsOf s)[i]? = some row := hrow
      refine ⟨rfl, ?_⟩
      refine ⟨_, rfl, ra, _, rfl, .inl (e3.bh.seq hra), fun p np => ?_⟩
      refine hN _ _ _ (Ext.new e3.w _ np) fun row2 hrow2 => ?_
      rw [hrow'] at hrow2
      obtain rfl := Option.some.inj hrow2
      exact ⟨p, rfl, SqL.of upd_same⟩
    intro B1 H1 ys e1 m1 hl1 hys
    have hpr1 : Paired (LN K B1) ys (rowsOf s) := paired_of (by rw [hl1, hsl]; rfl) fun i y row hy hrow => hys i y hy row hrow
    have hys0 : ys.length = s.2.length + 1 := by rw [hl1, hsl]
    refine ⟨_, rfl, a, _, 1, _, rfl, rfl, e1.bh.tup ha, atI_nat (j := 1) rfl, _, _, rfl, ?_⟩
    -- ball, queue = rows[0][0], rows[0][1:]
    cases hpr1 with
    | @cons y0 _ yr _ hy0 hyr =>
    obtain ⟨q0, rfl, hq0a⟩ := hy0
    rw [hq0] at hq0a
    refine ⟨_, rfl, D, _, 0, _, rfl, rfl, SqL.of m1.h, atI_nat (j := 0) rfl, q0, _, 0, _, rfl, rfl, e1.w.seq hq0a, atI_nat (j := 0) rfl, ?_⟩
    refine ⟨_, rfl, D, _, 0, _, rfl, rfl, SqL.of m1.h, atI_nat (j := 0) rfl, 1, rfl, q0, _, rfl, e1.w.seq hq0a, fun d nd => ?_⟩
    have e2 := Ext.new e1.w (.lst (cutV ((bl :: q).map fun n : Nat => V.int (n : Int)) (some 1) none)) nd
    have E2 := e1.trans e2
    have m2 := m1.ext e2
    rw [cut1, List.map_cons, drop1_cons] at *
    refine ⟨_, _, rfl, ?_⟩
    refine ⟨_, rfl, b, rls, rfl, E2.bh.seq hb, for_it (walk_enum1 rls) (fun i σ' H' => ∃ (B' : Hp) (qv : V) (qi : List Nat) (yr' : List V) (v6 v7 v8 : Option V), σ' = [some (.ref a), some (.ref sa), some (.ref D), some (.ref b), some (.int (bl : Int)), some qv, v6, v7, v8, none] ∧ Ext B H B' H' ∧ Mine H B' H' D (.lst (.ref q0 :: yr')) ∧ LN K B' qv qi ∧ qi.length ≤ c.n * (i + 1) ∧ Paired (LN K B') yr' (empt i ++ s.2.drop i) ∧
        tickR c.rs s.2 q bl = ((tickR (c.rs.drop i) (s.2.drop i) qi bl).1, empt i ++ (tickR (c.rs.drop i) (s.2.drop i) qi bl).2))
      ⟨_, _, q, yr, none, none, none, rfl, E2, m2, ⟨d, rfl, SqL.of upd_same⟩, ?_, ?_, ?_⟩ (fun i σ' H' _ ⟨B', _, _, _, _, _, _, _, e, _⟩ => e.bh.seq hb) ?_ ?_⟩
    · have h1 := hrl s.1 List.mem_cons_self
      rw [hq0, List.length_cons] at h1
      omega
    · show Paired (LN K _) yr ([] ++ s.2)
      rw [List.nil_append]
      exact Paired.mapP hyr fun _ _ h => h.mono e2.b
    · show _ = ((tickR c.rs s.2 q bl).1, [] ++ (tickR c.rs s.2 q bl).2)
      rw [List.nil_append]
    · rintro i y σ' H3 H3' hi ⟨B3, qv, qi, yr', v6, v7, v8, rfl, e3, m3, ⟨qa, rfl, hqa⟩, hqil, hyr', htick⟩ ⟨Tp, z, rfl, nT, rfl, hz⟩
      obtain ⟨⟨bd, wy⟩, hrail, rq, rfl, hrq⟩ := pat hp hz
      have hi' : i < c.rs.length := by omega
      obtain ⟨r, hr2⟩ : ∃ r, s.2[i]? = some r := ⟨_, List.getElem?_eq_getElem (by omega)⟩
      have hd1 : c.rs.drop i = (bd, wy) :: c.rs.drop (i + 1) := by
        obtain ⟨h1, h2⟩ := List.getElem?_eq_some_iff.mp hrail
        rw [List.drop_eq_getElem_cons h1, h2]
      have hd2 : s.2.drop i = r :: s.2.drop (i + 1) := by
        obtain ⟨h1, h2⟩ := List.getElem?_eq_some_iff.mp hr2
        rw [List.drop_eq_getElem_cons h1, h2]
      have hrlen := hrl r (List.mem_cons_of_mem _ (List.mem_of_getElem? hr2))
      have hyl : yr'.length = s.2.length := by
        have := Paired.length hyr'
        rw [this, List.length_append, empt_len, List.length_drop]
        omega
      have hmul : c.n * (i + 1) ≤ 100 * 4 := Nat.mul_le_mul hn100 (by omega)
      have e4 := Ext.tmp e3.w (.tup [.int (1 + (i : Nat)), .ref rq]) nT
      have E4 := e3.trans e4
      have m4 := m3.ext e4
      refine ⟨Tp, _, rfl, SqT.of upd_same, rfl, _, _, rfl, _, _, rfl, rq, _, rfl, E4.bh.tup hrq, rfl, _, _, rfl, _, _, rfl, rfl, rfl, ?_⟩
      -- rows[index]
      have hat : (empt i ++ s.2.drop i : List (List Nat))[i]? = some r := by
        rw [List.getElem?_append_right (by rw [empt_len]; exact Nat.le_refl _), empt_len, Nat.sub_self, hd2]
        rfl
      obtain ⟨rv1, hrv1, ra, rfl, hra⟩ := pat2 hyr' hat
      have hrv2 : (V.ref q0 :: yr')[i + 1]? = some (.ref ra) := hrv1
      refine ⟨_, rfl, _, rfl, D, _, _, _, rfl, rfl, SqL.of m4.h, at_of (j := i + 1) (by omega) hrv2, ra, _, rfl, .inl (e4.w.seq hra), _, rfl, _, _, rfl, rfl, _, _, rfl, rfl, _, rfl, ?_⟩
      rw [List.length_map]
      rw [hd1, hd2] at htick
      have hbd2 : 2 ≤ bd := ok.two _ (List.mem_of_getElem? hrail)
      by_cases hlt : r.length < bd - 1
      · refine iteB (decide_eq_true (by omega)) ?_
        have ht : tickR ((bd, wy) :: c.rs.drop (i + 1)) (r :: s.2.drop (i + 1)) qi bl = (qi, (r ++ [bl]) :: s.2.drop (i + 1)) := by
          unfold tickR
          rw [if_pos hlt]
        rw [ht] at htick
        have hcm : cutV (V.ref q0 :: yr') (some 1) (some (1 + (i : Int))) = yr'.take i := by
          rw [show (1 : Int) + (i : Int) = (i : Int) + 1 by omega, cut_mid _ i (by rw [List.length_cons]; omega), drop1_cons]
        have hcd : cutV (V.ref q0 :: yr') (some (1 + (i : Int) + 1)) none = yr'.drop (i + 1) := by
          rw [show (1 : Int) + (i : Int) + 1 = ((i + 2 : Nat) : Int) by omega, cut_from]
          rfl
        refine ⟨_, rfl, _, rfl, 1, rfl, _, rfl, _, rfl, D, _, rfl, SqL.of m4.h, fun d1 nd1 => ?_⟩
        rw [hcm] at *
        have e5 := Ext.tmp e4.w (.lst (yr'.take i)) nd1
        have m5 := m4.ext e5
        refine ⟨d1, _, rfl, .inr (SqL.of upd_same), _, rfl, _, rfl, D, _, _, _, rfl, rfl, SqL.of m5.h, at_of (j := i + 1) (by omega) hrv2, ra, _, rfl, .inr (e5.w.seq hra), _, rfl, ?_, fun d2 nd2 => ?_⟩
        · simp only [List.length_append, List.length_map, List.length_cons, List.length_nil]
          exact small1000 (by omega)
        have e6 := Ext.new e5.w (.lst ((r.map fun n : Nat => V.int (n : Int)) ++ [.int (bl : Int)])) nd2
        have m6 := m5.ext e6
        refine ⟨_, rfl, _, rfl, _, _, rfl, rfl, _, rfl, D, _, rfl, SqL.of m6.h, fun d3 nd3 => ?_⟩
        rw [hcd] at *
        have e7 := Ext.tmp e6.w (.lst (yr'.drop (i + 1))) nd3
        refine ⟨d3, _, rfl, .inr (SqL.of upd_same), ?_, fun p np => ?_⟩
        · simp only [List.length_append, List.length_map, List.length_cons, List.length_nil, List.length_take, List.length_drop]
          exact small1000 (by omega)
        rw [List.append_nil]
        have e8 := Ext.new e7.w (.lst (.ref qa :: (yr'.take i ++ .ref d2 :: yr'.drop (i + 1)))) np
        refine k _ _ _ ((((E4.trans e5).trans e6).trans e7).trans e8) ⟨p, _, rfl, SqL.of upd_same, ?_⟩
        have hb8 : Same B3 _ := e6.b.trans e8.b
        rw [hstep, htick]
        refine .cons ⟨qa, rfl, hb8.seq hqa⟩ (paired_app ?_ (.cons ⟨d2, rfl, ?_⟩ ?_))
        · have h1 := paired_take i hyr'
          rw [List.take_left' (empt_len i)] at h1
          exact Paired.mapP h1 fun _ _ h => h.mono hb8
        · rw [List.map_append]
          exact e8.b.seq (SqL.of upd_same)
        · have h1 := paired_drop (i + 1) hyr'
          have h9 : (empt i ++ s.2.drop i : List (List Nat)).drop (i + 1) = s.2.drop (i + 1) := by
            rw [List.drop_append, empt_len, List.drop_eq_nil_of_le (by rw [empt_len]; omega), List.drop_drop, List.nil_append]
            congr 1
            omega
          rw [h9] at h1
          exact Paired.mapP h1 fun _ _ h => h.mono hb8
      · refine iteBF (decide_eq_false (by omega)) ?_
        have ht : tickR ((bd, wy) :: c.rs.drop (i + 1)) (r :: s.2.drop (i + 1)) qi bl = ((tickR (c.rs.drop (i + 1)) (s.2.drop (i + 1)) (qi ++ sent wy r) bl).1, [] :: (tickR (c.rs.drop (i + 1)) (s.2.drop (i + 1)) (qi ++ sent wy r) bl).2) := by
          conv => lhs; unfold tickR
          rw [if_neg hlt]
        rw [ht] at htick
        refine ⟨_, rfl, qa, _, rfl, .inr (e4.w.seq hqa), _, rfl, _, rfl, D, _, _, _, rfl, rfl, SqL.of m4.h, at_of (j := i + 1) (by omega) hrv2, _, rfl, B3, _, e4.w, ⟨.ref ra, r, wy, rfl, ⟨ra, rfl, hra⟩, rfl⟩, fun B5 H5 v5 e5 hv5 => ?_⟩
        obtain ⟨a5, rfl, ha5⟩ := hv5
        have m5 := m4.ext e5
        have E5 := E4.trans e5
        have hsl2 : (sent wy r).length = r.length := sent_length wy r
        have hmul2 : c.n * (i + 1 + 1) = c.n * (i + 1) + c.n := by rw [Nat.mul_succ]
        refine ⟨a5, _, rfl, .inr (e5.w.seq ha5), ?_, fun d1 nd1 => ⟨by show 0 ≤ sizeLine; decide, fun d2 nd2 => ⟨by show 2 ≤ sizeLine; decide, fun p np => ?_⟩⟩⟩
        · simp only [List.length_append, List.length_map, List.length_cons, List.length_nil]
          exact Nat.le_of_lt (small1000 (by omega))
        rw [List.append_nil] at *
        have e6 := Ext.new e5.w (.lst ((qi.map fun n : Nat => V.int (n : Int)) ++ ((sent wy r).map fun n : Nat => V.int (n : Int)))) nd1
        have e7 := Ext.new e6.w (.lst []) nd2
        have e8 := Ext.tmp e7.w (.tup [.ref d1, .ref d2]) np
        have E8 := ((E5.trans e6).trans e7).trans e8
        have m8 := ((m5.ext e6).ext e7).ext e8
        refine ⟨p, _, rfl, SqT.of upd_same, rfl, _, _, rfl, _, _, rfl, _, rfl, _, rfl, D, _, _, i + 1, rfl, rfl, m8.h, ?_, rfl, ?_⟩
        · rw [List.length_cons, hyl, show (1 : Int) + (i : Int) = ((i + 1 : Nat) : Int) by omega]
          exact ixN_at (by omega)
        have hb8 := (e5.b.trans e6.b).trans e7.b
        refine ⟨_, .ref d1, qi ++ sent wy r, yr'.set i (.ref d2), _, _, _, rfl, m8.set E8 _, m8.put _, ⟨d1, rfl, ?_⟩, ?_, ?_, ?_⟩
        · rw [List.map_append]
          exact e7.b.seq (SqL.of upd_same)
        · rw [List.length_append, hsl2]
          omega
        · have h1 : Paired (LN K _) yr' _ := Paired.mapP hyr' fun _ _ h => h.mono hb8
          have h2 := paired_set i (x := .ref d2) (y := ([] : List Nat)) h1 ⟨d2, rfl, SqL.of upd_same⟩
          have h3 : (empt i ++ s.2.drop i : List (List Nat)).set i [] = empt (i + 1) ++ s.2.drop (i + 1) := by
            rw [List.set_append, if_neg (by rw [empt_len]; omega), empt_len, Nat.sub_self, hd2, empt_succ]
            simp
          rw [h3] at h2
          exact h2
        · rw [htick, empt_succ]
          simp
    · rintro σ' H3 ⟨B3, qv, qi, yr', v6, v7, v8, rfl, e3, m3, ⟨qa, rfl, hqa⟩, hqil, hyr', htick⟩
      rw [hlr] at hqil hyr' htick
      have hmul : c.n * (c.rs.length + 1) ≤ 100 * 4 := Nat.mul_le_mul hn100 (by omega)
      have hyl : yr'.length = s.2.length := by
        have := Paired.length hyr'
        rw [this, List.length_append, empt_len, List.length_drop]
        omega
      rw [List.drop_length, List.drop_eq_nil_of_le (show s.2.length ≤ c.rs.length by omega)] at htick
      rw [List.drop_eq_nil_of_le (show s.2.length ≤ c.rs.length by omega)] at hyr'
      have htick : tickR c.rs s.2 q bl = (qi ++ [bl], empt c.rs.length ++ []) := htick
      refine ⟨_, rfl, qa, _, rfl, .inr (e3.w.seq hqa), _, rfl, ?_, fun d1 nd1 => ?_⟩
      · simp only [List.length_append, List.length_map, List.length_cons, List.length_nil]
        exact small1000 (by omega)
      have e4 := Ext.new e3.w (.lst ((qi.map fun n : Nat => V.int (n : Int)) ++ [.int (bl : Int)])) nd1
      have m4 := m3.ext e4
      refine ⟨_, rfl, 1, rfl, D, _, rfl, SqL.of m4.h, fun d2 nd2 => ?_⟩
      rw [cut1, drop1_cons] at *
      have e5 := Ext.tmp e4.w (.lst yr') nd2
      refine ⟨d2, _, rfl, .inr (SqL.of upd_same), ?_, fun p np => ?_⟩
      · simp only [List.length_append, List.length_cons, List.length_nil]
        exact small1000 (by omega)
      rw [List.append_nil]
      have e6 := Ext.new e5.w (.lst (.ref d1 :: yr')) np
      refine k _ _ _ (((e3.trans e4).trans e5).trans e6) ⟨p, _, rfl, SqL.of upd_same, ?_⟩
      rw [hstep, htick]
      refine .cons ⟨d1, rfl, ?_⟩ (Paired.mapP hyr' fun _ _ h => (h.mono e4.b).mono e6.b)
      rw [List.map_append]
      exact e6.b.seq (SqL.of upd_same)
end
end BH
end
section
set_option Elab.async false
set_option linter.all false
set_option maxRecDepth 100000
set_option maxHeartbeats 4000000
namespace BH
open PySem PySem.Spec PyProof.Rows L2 BM
theorem small2000 {i : Nat} (h : i ≤ 1999) : i < sizeLine := Nat.lt_of_lt_of_le (show i < 2000 by omega) (by decide)
structure Look where
  w : Nat
  b : Nat
  r : Nat
  p : Nat
/-- an item of a look -/
def IT (K : PySem.W.Frag) (B : Hp) (v : V) (l : Look) : Prop := ∃ a, v = .ref a ∧ SqT K B a [.int (l.w : Int), .int (l.b : Int), .int (l.r : Int), .int (l.p : Int)]
theorem IT.mono {K : PySem.W.Frag} {B B' : Hp} {v : V} {l : Look} (h : IT K B v l) (e : Same B B') : IT K B' v l := by
  obtain ⟨a, h1, h2⟩ := h
  exact ⟨a, h1, e.tup h2⟩
structure Look.Ok (l : Look) (c : Clk) : Prop where
  b : l.b < c.n
  r : l.r ≤ c.rs.length
def TI (K : PySem.W.Frag) (B : Hp) (o : Addr) (c : Clk) : Prop := ∃ dx cv co ra svs, B o = some (.ins (He.ga K "Turned") dx [("kept_clock", cv), ("kept_turn", .int (prod c.rs : Nat)), ("kept_circles", .ref co), ("kept_rows", .ref ra)]) ∧ CI K B co c ∧ SqL K B ra svs ∧ svs.length = prod c.rs ∧
  ∀ (i : Nat) (v : V), svs[i]? = some v → SG K B v (stepN c.rs i (first c))
theorem TI.mono {K : PySem.W.Frag} {B B' : Hp} {o : Addr} {c : Clk} (h : TI K B o c) (e : Same B B') : TI K B' o c := by
  obtain ⟨dx, cv, co, ra, svs, h1, h2, h3, h4, h5⟩ := h
  exact ⟨dx, cv, co, ra, svs, e _ _ h1, h2.mono e, e.seq h3, h4, fun i v h => (h5 i v h).mono e⟩
section
variable {P : Program} {w : World} {K : PySem.W.Frag} {mg : Str → Option Value} {base : Heap}
def sp_is_item (K : PySem.W.Frag) : Sp := Pu fun B vs R => ∃ (cv iv : V) (c : Clk) (l : Look), vs = [cv, iv] ∧ CK K B cv c ∧ IT K B iv l ∧ l.Ok c ∧ R = fun _ v => v = .bl true
theorem c_is_item (T : Txt w K mg) : Has P w K mg base "is_item" 3 ["clock", "value"] (sp_is_item K) := by
  refine Has.of T.f_is_item T.g_is_item sc_is_item (fun _ _ _ _ _ _ us hl => match us, hl with | [_, _], _ => rfl) (fun vs H Q E h => ?_) (fun f cdv A outer s0 H vs Q E hr h => ?_)
  · obtain ⟨B, R, hB, ⟨cv, iv, c, l, rfl, _⟩, _⟩ := h; rfl
  · obtain ⟨B, R, hB, ⟨cv, iv, c, l, rfl, ⟨a, rv, rfl, ha, ⟨b, rls, rfl, hb, hp⟩⟩, ⟨it, rfl, hit⟩, lok, rfl⟩, k⟩ := h
    have hlr : rls.length = c.rs.length := Paired.length hp
    refine ⟨_, (pss_cons (ps_if (PW.pt (pw_or (pt_not (pt_val (pe_callB (cIsi (K := K) rfl) (by rfl) T.b_isinstance (by decide +kernel) (pa_cons (pv 1) (pa_cons (pe_bltn (v := .ty "tuple") (u := .type "tuple") (by rfl) T.b_tuple (by decide +kernel) rfl) pa_nil))))) (pw_or (pt_cmpR op_ne (pe_callB (cLen (K := K) rfl) (by rfl) T.b_len (by decide +kernel) (pa_cons (pv 1) pa_nil)) pe_int (nomark _)) (pw_or1 (pt_not (pt_val (pe_callB (cr_all rfl) (by rfl) T.b_all (by decide +kernel) (pa_cons (pe_lc (own := [("part", 2)]) (g := (gName 2)) rfl sc_is_item.nd (piT (K := K) rfl (pv 1)) (blkOk_by (by kernel_rfl)) (fun _ _ _ _ _ => (pg_name (i := 2) sc_is_item.nd rfl (.inl rfl))) (fun _ _ _ _ _ => pts_nil) (fun _ _ _ _ _ => (pc (c_is_at_least T) hr (pa_cons (pv 2) (pa_cons pe_int pa_nil))))) pa_nil)))))))) (pss_one (ps_ret pe_bl)) pss_nil)
      (pss_one (ps_ret (pe_and (pe_cmpR op_lt (pe_ix (xT (K := K) rfl) (pv 1) pe_int (fun _ _ => rfl)) (pe_ix (xT (K := K) rfl) (pv 0) pe_int (fun _ _ => rfl)) (nomark _)) (pe_one (pe_cmpR op_le (pe_ix (xT (K := K) rfl) (pv 1) pe_int (fun _ _ => rfl)) (pe_callB (cLen (K := K) rfl) (by rfl) T.b_len (by decide +kernel) (pa_cons (pe_ix (xT (K := K) rfl) (pv 0) pe_int (fun _ _ => rfl)) pa_nil)) (nomark _))))))), ?_⟩
    refine ⟨_, rfl, _, _, _, _, true, rfl, .ty _, tyT (hB.tup hit), kit_ty (by decide +kernel), true, rfl, iteF ?_⟩
    refine ⟨_, rfl, it, _, rfl, .inr (hB.tup hit), rfl, _, rfl, iteBF rfl ?_⟩
    refine ⟨_, rfl, it, rfl, ⟨_, hB.tup hit⟩, fun D hD => lc_new (walk_tup _) (fun _ _ y => y = .bl true) hB (fun H' s => s.tup hit) (by show 4 ≤ 1000000; decide) hD (fun _ _ _ _ _ h => h) ?_ ?_⟩
    · intro i y B3 H3 H3' N hi e3 hy hN
      obtain ⟨rfl, hy⟩ := hy
      obtain ⟨n, rfl⟩ : ∃ n : Nat, y = .int (n : Int) := by
        have := List.mem_of_getElem? hy
        simp only [List.mem_cons, List.not_mem_nil, or_false] at this
        rcases this with h | h | h | h <;> exact ⟨_, h⟩
      refine ⟨rfl, ?_⟩
      refine ⟨_, rfl, B3, _, e3.w, ⟨_, _, rfl, rfl⟩, fun B4 H4 v4 e4 hv4 => ?_⟩
      subst hv4
      exact hN _ _ _ e4 (by simp)
    intro B1 H1 ys e1 hD1 hl hys
    have ey : ys = (List.replicate ys.length true).map V.bl := by
      apply List.ext_getElem?
      intro i
      rw [List.getElem?_map, List.getElem?_replicate]
      by_cases hi : i < ys.length
      · rw [if_pos hi, List.getElem?_eq_getElem hi]
        exact congrArg some (hys i _ (List.getElem?_eq_getElem hi))
      · rw [if_neg hi, List.getElem?_eq_none (by omega)]
        rfl
    refine ⟨D, List.replicate ys.length true, rfl, by rw [← ey]; exact e1.w.seq (SqL.of hD1), ?_⟩
    refine ⟨_, rfl, iteBF (by simp) ?_⟩
    have h1 := lok.b
    have h2 := lok.r
    refine ⟨_, rfl, it, _, 1, _, rfl, rfl, e1.bh.tup hit, atI_nat (j := 1) rfl, _, rfl, a, _, 0, _, rfl, rfl, e1.bh.tup ha, atI_nat (j := 0) rfl, _, _, rfl, rfl, _, rfl, iteB (decide_eq_true (by omega)) ?_⟩
    refine ⟨_, rfl, it, _, 2, _, rfl, rfl, e1.bh.tup hit, atI_nat (j := 2) rfl, _, rfl, a, _, 1, _, rfl, rfl, e1.bh.tup ha, atI_nat (j := 1) rfl, b, _, rfl, .inl (e1.bh.seq hb), _, _, rfl, rfl, ?_⟩
    refine k _ _ _ e1 ?_
    show V.bl _ = V.bl true
    congr 1
    exact decide_eq_true (by rw [hlr]; omega)
def LK (K : PySem.W.Frag) (B : Hp) (v : V) (l : Look) : Prop := ∃ a iv, v = .ref a ∧ SqL K B a [iv] ∧ IT K B iv l
theorem LK.mono {K : PySem.W.Frag} {B B' : Hp} {v : V} {l : Look} (h : LK K B v l) (e : Same B B') : LK K B' v l := by
  obtain ⟨a, iv, h1, h2, h3⟩ := h
  exact ⟨a, iv, h1, e.seq h2, h3.mono e⟩
def sp_require_look (K : PySem.W.Frag) : Sp := Pu fun B vs R => ∃ (cv lv : V) (c : Clk) (l : Look), vs = [cv, lv] ∧ CK K B cv c ∧ LK K B lv l ∧ l.Ok c ∧ R = fun _ v => v = .non
theorem c_require_look (T : Txt w K mg) : Has P w K mg base "require_look" 4 ["clock", "look"] (sp_require_look K) := by
  refine Has.of T.f_require_look T.g_require_look sc_require_look (fun _ _ _ _ _ _ us hl => match us, hl with | [_, _], _ => rfl) (fun vs H Q E h => ?_) (fun f cdv A outer s0 H vs Q E hr h => ?_)
  · obtain ⟨B, R, hB, ⟨cv, iv, c, l, rfl, _⟩, _⟩ := h; rfl
  · obtain ⟨B, R, hB, ⟨cv, lv, c, l, rfl, hck, ⟨la, iv, rfl, hla, hit⟩, lok, rfl⟩, k⟩ := h
    refine ⟨_, (pss_cons (ps_if (PW.pt (pw_or (pt_not (pt_val (pe_callB (cIsi (K := K) rfl) (by rfl) T.b_isinstance (by decide +kernel) (pa_cons (pv 1) (pa_cons (pe_bltn (v := .ty "list") (u := .type "list") (by rfl) T.b_list (by decide +kernel) rfl) pa_nil))))) (pw_or1 (pt_not (pt_chain op_le op_le pe_int (pe_callB (cLen (K := K) rfl) (by rfl) T.b_len (by decide +kernel) (pa_cons (pv 1) pa_nil)) (pe_glob (v := .int 8) rfl T.mostItems.choose_spec ⟨_, rfl⟩)))))) (pss_one ps_never) pss_nil)
      (pss_one (ps_for PassesOwn.never rfl (pi_enum rfl T.b_enumerate (pa_cons (pv 1) pa_nil)) (pg_tup rfl (pgs_cons (pg_name (i := 2) sc_require_look.nd rfl (.inl rfl)) (pgs_cons (pg_name (i := 3) sc_require_look.nd rfl (.inl rfl)) pgs_nil)))
      (pss_one (ps_if (pt_not (pt_val (pc (c_is_item T) hr (pa_cons (pv 0) (pa_cons (pv 3) pa_nil))))) (pss_one ps_never) pss_nil))))), ?_⟩
    refine ⟨_, rfl, _, _, _, _, true, rfl, .ty _, tyL (hB.seq hla), kit_ty (by decide +kernel), true, rfl, iteF ?_⟩
    refine ⟨_, rfl, la, _, rfl, .inl (hB.seq hla), _, _, rfl, rfl, _, rfl, iteB rfl ⟨_, _, rfl, rfl, _, rfl, iteBF rfl ?_⟩⟩
    refine ⟨_, rfl, la, _, rfl, hB.seq hla, for_it (walk_enum0 _) (fun i σ' H' => ∃ (B' : Hp) (v2 v3 : Option V), σ' = [some cv, some (.ref la), v2, v3] ∧ Ext B H B' H')
      ⟨B, none, none, rfl, Ext.refl hB⟩ (fun i σ' H' _ ⟨B', _, _, _, e⟩ => e.bh.seq hla) ?_ ?_⟩
    · rintro i y σ' H3 H3' hi ⟨B3, v2, v3, rfl, e3⟩ ⟨Tp, z, rfl, nT, rfl, hz⟩
      have hi0 : i = 0 := by simpa using hi
      subst hi0
      have hz' : iv = z := by simpa using hz
      subst hz'
      have e4 := Ext.tmp e3.w (.tup [.int (0 : Nat), iv]) nT
      have E4 := e3.trans e4
      refine ⟨Tp, _, rfl, SqT.of upd_same, rfl, _, _, rfl, _, _, rfl, rfl, ?_⟩
      refine ⟨_, rfl, _, rfl, B3, _, e4.w, ⟨cv, iv, c, l, rfl, hck.mono e3.b, hit.mono e3.b, lok, rfl⟩, fun B5 H5 v5 e5 hv5 => ?_⟩
      subst hv5
      refine ⟨_, rfl, iteF ?_⟩
      exact ⟨B5, _, _, rfl, E4.trans e5⟩
    · rintro σ' H3 ⟨B3, v2, v3, rfl, e3⟩
      exact k _ _ _ e3 rfl
def sp_Turned_init (K : PySem.W.Frag) : Sp := fun vs H Q _ => ∃ (B : Hp) (x dx : Addr) (c : Clk) (cv : V), Same B H ∧ B x = none ∧ H x = some (.ins (He.ga K "Turned") dx []) ∧ vs = [.ref x, cv] ∧ CK K B cv c ∧ c.Ok ∧
  ∀ B' H', Ext B (Wo H x) B' H' → TI K B' x c → Q .non H'
theorem c_Turned_init (T : Txt w K mg) : HasI P w K mg base "Turned" 13 ["self", "clock"] (sp_Turned_init K) := by
  refine HasI.of T.f_Turned_init T.k_Turned T.g_Turned sc_Turned_init (fun _ _ _ _ _ _ us hl => match us, hl with | [_, _], _ => rfl) (fun vs H Q E h => ?_) (fun f cdv A outer s0 H vs Q E hr h => ?_)
  · obtain ⟨B, x, dx, c, cv, hB, hbx, hx, rfl, _⟩ := h; rfl
  · obtain ⟨B, x, dx, c, cv, hB, hbx, hx, rfl, hck, ok, k⟩ := h
    obtain ⟨a, rv, rfl, ha, ⟨b, rls, rfl, hb, hp⟩⟩ := id hck
    have hlr : rls.length = c.rs.length := Paired.length hp
    have hn100 := ok.n100
    have hl3 := ok.l3
    have hp1728 := prod_1728 ok
    refine ⟨_, (pss_cons (ps_asg (pe_tup (pa_cons (pv 1) (pa_cons (pc (c_turn_of T) hr (pa_cons (pv 1) pa_nil)) pa_nil))) (pg_tup rfl (pgs_cons (pg_fld (pv 0)) (pgs_cons (pg_fld (pv 0)) pgs_nil))))
      (pss_cons (ps_fld (pv 0) (pk (c_Circles_init T) hr (pa_cons (pv 1) pa_nil)) rfl)
      (pss_cons (ps_asg (pe_tup (pa_cons (pe_lst pa_nil) (pa_cons (pe_lst (pa_cons (pe_listRg rfl rfl T.b_list (prg_1 rfl T.b_range (pe_ix (xT (K := K) rfl) (pv 1) pe_int (fun _ _ => rfl)))) (StX.pa_star (pe_lc (own := [("rail", 4)]) (g := (gName 4)) rfl sc_Turned_init.nd (piL (K := K) rfl (pe_ix (xT (K := K) rfl) (pv 1) pe_int (fun _ _ => rfl))) (blkOk_by (by kernel_rfl)) (fun _ _ _ _ _ => (pg_name (i := 4) sc_Turned_init.nd rfl (.inl rfl))) (fun _ _ _ _ _ => pts_nil) (fun _ _ _ _ _ => (pe_lst pa_nil))) pa_nil))) pa_nil))) (pg_tup rfl (pgs_cons (pg_fld (pv 0)) (pgs_cons (pg_name (i := 2) sc_Turned_init.nd rfl (.inl rfl)) pgs_nil))))
      (pss_one (ps_for PassesOwn.never rfl (pi_range1 rfl T.b_range (pa_cons (pF (K := K) rfl (pv 0)) pa_nil)) (pg_name (i := 3) sc_Turned_init.nd rfl (.inl rfl))
      (pss_cons (ps_expr (pe_bm PySem.F.plainAttrs_list PySem.F.slot_list_append PySem.F.type_list_append mt_append (pF (K := K) rfl (pv 0)) (pa_cons (pv 2) pa_nil)))
      (pss_one (ps_set (i := 2) sc_Turned_init.nd rfl (.inl rfl) (pc (c_sight_after T) hr (pa_cons (pv 1) (pa_cons (pv 2) pa_nil))))))))))), ?_⟩
    have e0 : Ext B (Wo H x) B H := ⟨Same.refl _, hB, Wo.same (Same.refl _), fun _ _ => rfl⟩
    have m0 : Mine (Wo H x) B H x (.ins (He.ga K "Turned") dx []) := ⟨Wo.at, hbx, hx⟩
    refine ⟨_, rfl, _, rfl, B, _, hB, ⟨.ref a, c, rfl, hck, ok, rfl⟩, fun B1 H1 v1 e1 hv1 => ?_⟩
    subst hv1
    refine ⟨by show 2 ≤ sizeLine; decide, fun p np => ?_⟩
    have E1 := (e0.trans e1).trans (Ext.tmp e1.w (.tup [.ref a, .int (prod c.rs : Nat)]) np)
    have m1 := (m0.ext e1).ext (Ext.tmp e1.w (.tup [.ref a, .int (prod c.rs : Nat)]) np)
    have m2 := m1.put (.ins (He.ga K "Turned") dx [("kept_clock", .ref a)])
    have E2 := m1.set E1 (.ins (He.ga K "Turned") dx [("kept_clock", .ref a)])
    have m3 := m2.put (.ins (He.ga K "Turned") dx [("kept_clock", .ref a), ("kept_turn", .int (prod c.rs : Nat))])
    have E3 := m2.set E2 (.ins (He.ga K "Turned") dx [("kept_clock", .ref a), ("kept_turn", .int (prod c.rs : Nat))])
    refine ⟨p, _, rfl, SqT.of upd_same, rfl, _, _, rfl, _, rfl, x, _, _, _, rfl, m1.h, T.c_Turned, T.n_Turned_kept_clock, by show 0 < 1000; decide, _, _, rfl, _, rfl, x, _, _, _, rfl, m2.h, T.c_Turned, T.n_Turned_kept_turn, by show 1 < 1000; decide, rfl, ?_⟩
    refine ⟨_, rfl, fun x2 dx2 nx2 ndx2 ne2 => ⟨B1, x2, dx2, c, .ref a, same_made E3.w nx2 ndx2, E3.w.free nx2, upd_same, rfl, hck.mono E3.b, ok, fun B4 H4 e4 hci => ⟨rfl, ?_⟩⟩⟩
    have e4' := Ext.made E3.w nx2 ndx2 ne2 e4
    have m4 := m3.ext e4'
    have E4 := E3.trans e4'
    refine ⟨_, rfl, x, _, _, _, rfl, m4.h, T.c_Turned, T.n_Turned_kept_circles, by show 2 < 1000; decide, ?_⟩
    have m5 := m4.put (.ins (He.ga K "Turned") dx [("kept_clock", .ref a), ("kept_turn", .int (prod c.rs : Nat)), ("kept_circles", .ref x2)])
    have E5 := m4.set E4 (.ins (He.ga K "Turned") dx [("kept_clock", .ref a), ("kept_turn", .int (prod c.rs : Nat)), ("kept_circles", .ref x2)])
    refine ⟨by show 0 ≤ sizeLine; decide, fun l nl => ?_⟩
    have e6 := Ext.tmp E5.w (.lst []) nl
    have E6 := E5.trans e6
    have m6 := m5.ext e6
    have l6 := Mine.new (o := .lst []) E5 nl
    have hxl : x ≠ l := (upd_none nl).2.symm
    refine ⟨_, rfl, a, _, 0, _, rfl, rfl, E6.bh.tup ha, atI_nat (j := 0) rfl, _, rfl, RgOk.of_le (by omega) (by omega) (by omega) (by omega), fun q nq => ?_⟩
    rw [rgV_nat]
    have e7 := Ext.new E6.w (.lst ((List.range c.n).map fun n : Nat => V.int (n : Int))) nq
    have E7 := E6.trans e7
    have m7 := m6.ext e7
    have l7 := l6.ext e7
    refine ⟨_, rfl, a, _, 1, _, rfl, rfl, E7.bh.tup ha, atI_nat (j := 1) rfl, b, rfl, ⟨_, E7.bh.seq hb⟩, fun D hD => lc_new (walk_list rls) (fun _ B y => LN K B y []) E7.w (fun H' s => s.seq (E7.b.seq hb)) (by omega) hD (fun _ _ _ _ e h => h.mono e) ?_ ?_⟩
    · intro i y B3 H3 H3' N hi e3 hy hN
      obtain ⟨rfl, hy⟩ := hy
      refine ⟨rfl, by show 0 ≤ sizeLine; decide, fun z nz => ?_⟩
      exact hN _ _ _ (Ext.new e3.w _ nz) ⟨z, rfl, SqL.of upd_same⟩
    intro B8 H8 ys e8 hD8 hl8 hys
    have E8 := E7.trans e8
    have m8 := m7.ext e8
    have l8 := l7.ext e8
    refine ⟨D, _, rfl, .inr (SqL.of (e8.w _ _ hD8)), ?_, fun sv nsv => ?_⟩
    · simp only [List.length_append, List.length_cons, List.length_nil]
      exact small1000 (by omega)
    rw [List.append_nil]
    have e9 := Ext.new e8.w (.lst (.ref q :: ys)) nsv
    have E9 := E8.trans e9
    have m9 := m8.ext e9
    have l9 := l8.ext e9
    have hsg : SG K (upd B8 sv (.lst (.ref q :: ys))) (.ref sv) (first c) := by
      refine ⟨sv, _, rfl, SqL.of upd_same, .cons ⟨q, rfl, (e8.b.trans e9.b).seq (SqL.of upd_same)⟩ ?_⟩
      refine paired_of (by rw [hl8, hlr]; exact (empt_len _).symm) fun i y row hy hrow => ?_
      have : row = [] := by
        have := List.mem_of_getElem? hrow
        exact List.eq_of_mem_replicate this
      subst this
      exact (hys i y hy).mono e9.b
    refine ⟨by show 2 ≤ sizeLine; decide, fun t nt => ?_⟩
    have e10 := Ext.tmp e9.w (.tup [.ref l, .ref sv]) nt
    have E10 := E9.trans e10
    have m10 := m9.ext e10
    have l10 := l9.ext e10
    have m11 := m10.put (.ins (He.ga K "Turned") dx [("kept_clock", .ref a), ("kept_turn", .int (prod c.rs : Nat)), ("kept_circles", .ref x2), ("kept_rows", .ref l)])
    have E11 := m10.set E10 (.ins (He.ga K "Turned") dx [("kept_clock", .ref a), ("kept_turn", .int (prod c.rs : Nat)), ("kept_circles", .ref x2), ("kept_rows", .ref l)])
    have l11 := l10.other (u := .ins (He.ga K "Turned") dx [("kept_clock", .ref a), ("kept_turn", .int (prod c.rs : Nat)), ("kept_circles", .ref x2), ("kept_rows", .ref l)]) hxl.symm
    refine ⟨t, _, rfl, SqT.of upd_same, rfl, _, _, rfl, _, rfl, x, _, _, _, rfl, m10.h, T.c_Turned, T.n_Turned_kept_rows, by show 3 < 1000; decide, _, _, rfl, rfl, ?_⟩
    refine ⟨_, rfl, x, _, _, _, _, rfl, m11.h, T.c_Turned, T.n_Turned_kept_turn, rfl, _, rfl, by omega, by omega, ?_⟩
    rw [show ((prod c.rs : Nat) : Int).toNat = prod c.rs by omega]
    refine for_it (walk_rng (prod c.rs)) (fun i σ' H' => ∃ (B' : Hp) (svs : List V) (sv : V) (v3 : Option V), σ' = [some (.ref x), some (.ref a), some sv, v3, none] ∧ Ext B (Wo H x) B' H' ∧ Mine (Wo H x) B' H' x (.ins (He.ga K "Turned") dx [("kept_clock", .ref a), ("kept_turn", .int (prod c.rs : Nat)), ("kept_circles", .ref x2), ("kept_rows", .ref l)]) ∧ Mine (Wo H x) B' H' l (.lst svs) ∧ CI K B' x2 c ∧ svs.length = i ∧ (∀ (j : Nat) (v : V), svs[j]? = some v → SG K B' v (stepN c.rs j (first c))) ∧ SG K B' sv (stepN c.rs i (first c)))
      ⟨_, [], _, none, rfl, E11, m11, l11, hci.mono ((e8.b.trans e9.b) |> fun s => (e7.b.trans s)), rfl, fun j v h => by simp at h, hsg⟩ (fun i σ' H' _ _ => trivial) ?_ ?_
    · rintro i y σ' H3 H3' hi ⟨B3, svs, sv, v3, rfl, e3, m3, l3, hci3, hsl, hall, hsv⟩ ⟨rfl, rfl⟩
      refine ⟨_, rfl, x, _, _, _, _, rfl, m3.h, T.c_Turned, T.n_Turned_kept_rows, rfl, .inl ⟨rfl, _, SqL.of l3.h⟩, _, rfl, l, _, _, rfl, rfl, l3.h, small2000 (by omega), ?_⟩
      have e4 := l3.set e3 (.lst (svs ++ [sv]))
      have l4 := l3.put (.lst (svs ++ [sv]))
      have m4 := m3.other (u := .lst (svs ++ [sv])) hxl
      refine ⟨_, rfl, _, rfl, B3, _, e4.w, ⟨.ref a, sv, c, _, rfl, hck.mono e4.b, hsv, ok, stepN_vs ok _ (first_vs ok), rfl⟩, fun B5 H5 v5 e5 hv5 => ?_⟩
      rw [← stepN_succ] at hv5
      refine ⟨B5, svs ++ [sv], v5, _, rfl, e4.trans e5, m4.ext e5, l4.ext e5, hci3.mono e5.b, by simp [hsl], fun j v h => ?_, hv5⟩
      by_cases hj : j < svs.length
      · rw [List.getElem?_append_left hj] at h
        exact (hall j v h).mono e5.b
      · have hjl := (List.getElem?_eq_some_iff.mp h).1
        rw [List.length_append, List.length_singleton] at hjl
        have hje : j = svs.length := by omega
        rw [hje, List.getElem?_append_right (Nat.le_refl _), Nat.sub_self] at h
        have : sv = v := by simpa using h
        subst this
        rw [hje, hsl]
        exact hsv.mono e5.b
    · rintro σ' H3 ⟨B3, svs, sv, v3, rfl, e3, m3, l3, hci3, hsl, hall, hsv⟩
      have e4 := m3.frz e3
      have l4 := l3.keep (q := x) (u := .ins (He.ga K "Turned") dx [("kept_clock", .ref a), ("kept_turn", .int (prod c.rs : Nat)), ("kept_circles", .ref x2), ("kept_rows", .ref l)]) hxl.symm
      have e5 := l4.frz e4
      have hb5 := m3.frz1.trans l4.frz1
      refine k _ _ e5 ⟨dx, .ref a, x2, l, svs, ?_, hci3.mono hb5, SqL.of upd_same, hsl, fun i v h => (hall i v h).mono hb5⟩
      rw [upd_ne hxl]; exact upd_same
end
end BH
end
section
set_option linter.all false
namespace BM
/-! ### looks -/
def rowsO (s : Sg Nat) : List (List Nat) := s.1 :: s.2
def placeO (c : Clk) (rest rail spot : Nat) : Option Nat := ((rowsO (stepN c.rs rest (first c)))[rail]?).bind (·[spot]?)
def SpotO (s : Sg Nat) (b r p : Nat) : Prop := ((rowsO s)[r]?).bind (·[p]?) = some b
theorem rowsO_map (f : Nat → Nat) (s : Sg Nat) : rowsO (Sg.map f s) = (rowsO s).map (List.map f) := rfl
theorem spot_iff {c : Clk} (hc : c.Ok) (t b r p : Nat) : SpotO (stepN c.rs t (first c)) b r p ↔ ∃ pl, placeO c (t % prod c.rs) r p = some pl ∧ itN (trow c) (t / prod c.rs) pl = b := by
  unfold SpotO placeO
  rw [sight_at hc t, rowsO_map, List.getElem?_map]
  cases h : (rowsO (stepN c.rs (t % prod c.rs) (first c)))[r]? with
  | none => simp
  | some row => simp [Option.map_eq_some_iff]
theorem place_lt {c : Clk} (hc : c.Ok) {rest r p pl : Nat} (h : placeO c rest r p = some pl) : pl < c.n := by
  unfold placeO at h
  obtain ⟨row, h1, h2⟩ := Option.bind_eq_some_iff.mp h
  have hv := stepN_vs hc rest (first_vs hc)
  have : pl ∈ flat (stepN c.rs rest (first c)) := by
    have : pl ∈ (rowsO (stepN c.rs rest (first c))).flatten := List.mem_flatten.mpr ⟨row, List.mem_of_getElem? h1, List.mem_of_getElem? h2⟩
    exact this
  exact List.mem_range.mp (hv.perm.mem_iff.mp this)
theorem mod_shift {k m s r : Nat} (hr : r < s) : (k + m) % s = r ↔ m % s = (((r : Int) - (k : Int)) % (s : Int)).toNat := by
  have hs : (0 : Int) < s := by omega
  have h0 := Int.emod_nonneg ((r : Int) - k) (b := (s : Int)) (by omega)
  have h1 : ((m % s : Nat) : Int) = (m : Int) % s := Int.natCast_emod m s
  have h2 : (((k + m) % s : Nat) : Int) = ((k : Int) + m) % s := by rw [Int.natCast_emod, Int.natCast_add]
  constructor
  · intro h
    have h3 : ((k : Int) + m) % s = r := by rw [← h2, h]
    have h4 : (m : Int) % s = ((r : Int) - k) % s := by
      have e : (m : Int) = ((k : Int) + m) - k := by omega
      rw [e, Int.sub_emod, h3, Int.sub_emod (r : Int) (k : Int), Int.emod_eq_of_lt (a := (r : Int)) (by omega) (by omega)]
    omega
  · intro h
    have h4 : (m : Int) % s = ((r : Int) - k) % s := by omega
    have h3 : ((k : Int) + m) % s = r := by
      rw [Int.add_emod, h4, ← Int.add_emod, show (k : Int) + ((r : Int) - k) = r by omega]
      exact Int.emod_eq_of_lt (by omega) (by omega)
    omega
/-- the turns that fit at a rest -/
structure FT (c : Clk) (wait b r p rest : Nat) (o : Option (Nat × Nat)) : Prop where
  no : o = none → ∀ m, ¬ SpotO (stepN c.rs (rest + m * prod c.rs + wait) (first c)) b r p
  yes : ∀ r' s, o = some (r', s) → r' < s ∧ s ≤ c.n ∧ ∀ m, SpotO (stepN c.rs (rest + m * prod c.rs + wait) (first c)) b r p ↔ m % s = r'
theorem tick_mod {c : Clk} (hc : c.Ok) (rest wait m : Nat) : (rest + m * prod c.rs + wait) % prod c.rs = (rest + wait) % prod c.rs ∧ (rest + m * prod c.rs + wait) / prod c.rs = (rest + wait) / prod c.rs + m := by
  have hp := prod_pos c.rs hc.two
  rw [show rest + m * prod c.rs + wait = rest + wait + m * prod c.rs by omega]
  exact ⟨Nat.add_mul_mod_self_right _ _ _, Nat.add_mul_div_right _ _ hp⟩
/-- what is found so far -/
structure Found (c : Clk) (wait b r p i : Nat) (prs : List (Nat × Nat)) : Prop where
  fit : ∀ x ∈ prs, SpotO (stepN c.rs (x.1 + wait) (first c)) b r p ∧ x.1 < prod c.rs * c.n
  all : ∀ t, t % prod c.rs < i → SpotO (stepN c.rs (t + wait) (first c)) b r p → ∃ x ∈ prs, x.1 ≤ t
theorem Found.start (c : Clk) (wait b r p : Nat) : Found c wait b r p 0 [] := ⟨fun x h => (by cases h), fun t h => absurd h (Nat.not_lt_zero _)⟩
theorem Found.skip {c : Clk} {wait b r p i : Nat} {prs : List (Nat × Nat)} (F : Found c wait b r p i prs) (h : FT c wait b r p i none) : Found c wait b r p (i + 1) prs := by
  refine ⟨F.fit, fun t ht hs => ?_⟩
  by_cases hi : t % prod c.rs = i
  · exfalso
    have h1 := Nat.div_add_mod t (prod c.rs)
    refine h.no rfl (t / prod c.rs) ?_
    rw [show i + t / prod c.rs * prod c.rs = t by rw [Nat.mul_comm]; omega]
    exact hs
  · exact F.all t (by omega) hs
theorem Found.put {c : Clk} {wait b r p i r' s : Nat} {prs : List (Nat × Nat)} (F : Found c wait b r p i prs) (hi : i < prod c.rs) (h : FT c wait b r p i (some (r', s))) : Found c wait b r p (i + 1) (prs ++ [(i + r' * prod c.rs, s * prod c.rs)]) := by
  obtain ⟨h1, h2, h3⟩ := h.yes r' s rfl
  constructor
  · intro x hx
    rcases List.mem_append.mp hx with q | q
    · exact F.fit x q
    · have e : x = (i + r' * prod c.rs, s * prod c.rs) := by simpa using q
      subst e
      refine ⟨(h3 r').mpr (Nat.mod_eq_of_lt h1), ?_⟩
      have h4 : (r' + 1) * prod c.rs ≤ c.n * prod c.rs := Nat.mul_le_mul_right _ (by omega)
      rw [Nat.add_mul, Nat.one_mul, Nat.mul_comm c.n] at h4
      show i + r' * prod c.rs < _
      omega
  · intro t ht hs
    by_cases hti : t % prod c.rs = i
    · have h4 := Nat.div_add_mod t (prod c.rs)
      have h5 : t = i + t / prod c.rs * prod c.rs := by rw [Nat.mul_comm (t / prod c.rs)]; omega
      rw [h5] at hs
      have h6 := (h3 _).mp hs
      have h7 : r' ≤ t / prod c.rs := by rw [← h6]; exact Nat.mod_le _ _
      refine ⟨_, List.mem_append.mpr (.inr List.mem_cons_self), ?_⟩
      have := Nat.mul_le_mul_right (prod c.rs) h7
      show i + r' * prod c.rs ≤ t
      omega
    · obtain ⟨x, hx, hl⟩ := F.all t (by omega) hs
      exact ⟨x, List.mem_append.mpr (.inl hx), hl⟩
theorem prod_dvd : ∀ {l : List Nat} {x : Nat}, x ∈ l → x ∣ l.foldr (· * ·) 1
  | a :: l, x, h => by
    rcases List.mem_cons.mp h with e | e
    · subst e; exact Nat.dvd_mul_right _ _
    · exact Nat.dvd_mul_left_of_dvd (prod_dvd e) a
theorem prod_pos' : ∀ {l : List Nat}, (∀ x ∈ l, 0 < x) → 0 < l.foldr (· * ·) 1
  | [], _ => Nat.one_pos
  | a :: l, h => Nat.mul_pos (h a List.mem_cons_self) (prod_pos' fun x hx => h x (List.mem_cons_of_mem _ hx))
/-- some number of turns brings all back -/
def PerEx (c : Clk) : Prop := ∃ p, 0 < p ∧ ∀ x, x < c.n → itN (trow c) p x = x
theorem Cyc.per {c : Clk} {cy : List (List Nat)} (C : Cyc (trow c) c.n cy) : PerEx c := by
  refine ⟨(cy.map List.length).foldr (· * ·) 1, prod_pos' fun x hx => ?_, fun x hx => ?_⟩
  · obtain ⟨d, hd, rfl⟩ := List.mem_map.mp hx
    exact (C.len hd).1
  · refine period_ok C (fun k d hd => ?_) hx
    exact prod_dvd (List.mem_map.mpr ⟨d, List.mem_of_getElem? hd, rfl⟩)
end BM
end
section
set_option Elab.async false
set_option linter.all false
set_option maxRecDepth 100000
set_option maxHeartbeats 4000000
namespace BH
open PySem PySem.Spec PyProof.Rows L2 BM
theorem spotO_of {s : Sg Nat} {b r p : Nat} : Spot s b r p ↔ SpotO s b r p := by
  unfold Spot SpotO
  rw [Option.bind_eq_some_iff]
  rfl
def optV : Option Nat → V
  | none => .non
  | some n => .int (n : Int)
def T2 (B : Hp) (v : V) (x : Nat × Nat) : Prop := ∃ t, v = .ref t ∧ B t = some (.tup [.int (x.1 : Int), .int (x.2 : Int)])
theorem T2.mono {B B' : Hp} (e : Same B B') {v : V} {x : Nat × Nat} (h : T2 B v x) : T2 B' v x := by
  obtain ⟨t, h1, h2⟩ := h
  exact ⟨t, h1, e _ _ h2⟩
/-- the pair that a value stands for -/
def keyP (H : Hp) : V → Int × Int
  | .ref t => match H t with
    | some (.tup [.int a, .int b]) => (a, b)
    | _ => (0, 0)
  | _ => (0, 0)
theorem keyP_of {H : Hp} {v : V} {x : Nat × Nat} (h : T2 H v x) : keyP H v = ((x.1 : Int), (x.2 : Int)) := by
  obtain ⟨t, rfl, h⟩ := h
  simp only [keyP, h]
/-- the least tick that fits -/
def LeastFit (c : Clk) (l : Look) (a : Nat) : Prop := SpotO (stepN c.rs (a + l.w) (first c)) l.b l.r l.p ∧ a < prod c.rs * c.n ∧ ∀ t, SpotO (stepN c.rs (t + l.w) (first c)) l.b l.r l.p → a ≤ t
def NoFit (c : Clk) (l : Look) : Prop := ∀ t, ¬ SpotO (stepN c.rs (t + l.w) (first c)) l.b l.r l.p
def RowsR (K : PySem.W.Frag) (B : Hp) (v : V) (c : Clk) (l : Look) : Prop := ∃ p ys, v = .ref p ∧ SqL K B p ys ∧ PerEx c ∧ ((ys = [] ∧ NoFit c l) ∨ ∃ q yr a b, ys = .ref q :: yr ∧ SqT K B q [.int ((a : Nat) : Int), .int ((b : Nat) : Int)] ∧ LeastFit c l a)
section
variable {P : Program} {w : World} {K : PySem.W.Frag} {mg : Str → Option Value} {base : Heap}
def sp_place_at (K : PySem.W.Frag) : Sp := Pu fun B vs R => ∃ (o : Addr) (c : Clk) (rest r p : Nat), vs = [.ref o, .int (rest : Int), .int (r : Int), .int (p : Int)] ∧ TI K B o c ∧ c.Ok ∧ rest < prod c.rs ∧ r ≤ c.rs.length ∧ R = fun _ v => v = optV (placeO c rest r p)
theorem c_Turned_place_at (T : Txt w K mg) : HasM P w K mg base "Turned" "place_at" 1 ["self", "rest", "rail", "spot"] (sp_place_at K) := by
  refine HasM.of T.f_Turned_place_at T.m_Turned_place_at T.c_Turned sc_Turned_place_at (fun _ _ _ _ _ _ us hl => match us, hl with | [_, _, _, _], _ => rfl) (fun vs H Q E h => ?_) (fun f cdv A outer s0 H vs Q E hr h => ?_)
  · obtain ⟨B, R, hB, ⟨o, c, rest, r, p, rfl, _⟩, _⟩ := h; rfl
  · obtain ⟨B, R, hB, ⟨o, c, rest, r, p, rfl, ⟨dx, cv, co, ra, svs, hins, hci, hra, hsl, hall⟩, ok, hrest, hrl, rfl⟩, k⟩ := h
    obtain ⟨sv, hsv⟩ : ∃ v, svs[rest]? = some v := ⟨_, List.getElem?_eq_getElem (by omega)⟩
    obtain ⟨sa, rvs, rfl, hsa, hrv⟩ := hall rest sv hsv
    have hS := (stepN_vs ok rest (first_vs ok)).len
    obtain ⟨row, hrow⟩ : ∃ row, (rowsO (stepN c.rs rest (first c)))[r]? = some row := ⟨_, List.getElem?_eq_getElem (by
      show r < (stepN c.rs rest (first c)).2.length + 1
      omega)⟩
    obtain ⟨qv, hqv, q, rfl, hq⟩ := pat2 hrv hrow
    refine ⟨_, (pss_cons (ps_set (i := 4) sc_Turned_place_at.nd rfl (.inl rfl) (pe_ix (xL (K := K) rfl) (pe_ix (xL (K := K) rfl) (pF (K := K) rfl (pv 0)) (pv 1) (fun _ _ => rfl)) (pv 2) (fun _ _ => rfl)))
      (pss_one (ps_ret (pe_ifExp (pt_cmpR op_lt (pv 3) (pe_callB (cLen (K := K) rfl) (by rfl) T.b_len (by decide +kernel) (pa_cons (pv 4) pa_nil)) (nomark _)) (pe_ix (xL (K := K) rfl) (pv 4) (pv 3) (fun _ _ => rfl)) pe_non)))), ?_⟩
    refine ⟨_, rfl, o, _, _, _, _, rfl, hB _ _ hins, T.c_Turned, T.n_Turned_kept_rows, rfl, _, rfl, ra, _, _, _, rfl, rfl, hB.seq hra, atI_nat hsv, _, rfl, sa, _, _, _, rfl, rfl, hB.seq hsa, atI_nat hqv, ?_⟩
    refine ⟨_, rfl, _, rfl, q, _, rfl, .inl (hB.seq hq), _, _, rfl, rfl, _, rfl, ?_⟩
    rw [List.length_map]
    have hpo : placeO c rest r p = row[p]? := by unfold placeO; rw [hrow]; rfl
    by_cases hp : p < row.length
    · refine iteB (decide_eq_true (by omega)) ?_
      refine ⟨_, rfl, _, rfl, q, _, _, _, rfl, rfl, hB.seq hq, atI_nat (map_getD row hp), ?_⟩
      refine Pu.val k hB ?_
      show _ = optV (placeO c rest r p)
      rw [hpo, List.getElem?_eq_getElem hp, List.getD_eq_getElem?_getD, List.getElem?_eq_getElem hp]
      rfl
    · refine iteBF (decide_eq_false (by omega)) ?_
      refine Pu.val k hB ?_
      show _ = optV (placeO c rest r p)
      rw [hpo, List.getElem?_eq_none (by omega)]
      rfl
def sp_turns_fitting (K : PySem.W.Frag) : Sp := Pu fun B vs R => ∃ (o : Addr) (iv : V) (c : Clk) (l : Look) (rest : Nat), vs = [.ref o, .int (rest : Int), iv] ∧ TI K B o c ∧ IT K B iv l ∧ l.Ok c ∧ c.Ok ∧ rest < prod c.rs ∧ R = fun B' v => ∃ r, O2n K B' v r ∧ FT c l.w l.b l.r l.p rest r
theorem c_Turned_turns_fitting (T : Txt w K mg) : HasM P w K mg base "Turned" "turns_fitting" 2 ["self", "rest", "item"] (sp_turns_fitting K) := by
  refine HasM.of T.f_Turned_turns_fitting T.m_Turned_turns_fitting T.c_Turned sc_Turned_turns_fitting (fun _ _ _ _ _ _ us hl => match us, hl with | [_, _, _], _ => rfl) (fun vs H Q E h => ?_) (fun f cdv A outer s0 H vs Q E hr h => ?_)
  · obtain ⟨B, R, hB, ⟨o, iv, c, l, rest, rfl, _⟩, _⟩ := h; rfl
  · obtain ⟨B, R, hB, ⟨o, iv, c, l, rest, rfl, hti, ⟨it, rfl, hit⟩, lok, ok, hrest, rfl⟩, k⟩ := h
    obtain ⟨dx, cv, co, ra, svs, hins, hci, hra, hsl, hall⟩ := id hti
    have hpp := prod_pos c.rs ok.two
    have hp1728 := prod_1728 ok
    have hn100 := ok.n100
    have h1 := lok.b
    have h2 := lok.r
    refine ⟨_, (pss_cons (ps_asg (pv 2) (pg_tup rfl (pgs_cons (pg_name (i := 3) sc_Turned_turns_fitting.nd rfl (.inl rfl)) (pgs_cons (pg_name (i := 4) sc_Turned_turns_fitting.nd rfl (.inl rfl)) (pgs_cons (pg_name (i := 5) sc_Turned_turns_fitting.nd rfl (.inl rfl)) (pgs_cons (pg_name (i := 6) sc_Turned_turns_fitting.nd rfl (.inl rfl)) pgs_nil))))))
      (pss_cons (ps_set (i := 7) sc_Turned_turns_fitting.nd rfl (.inl rfl) (pe_op op_add (pv 1) (pv 3)))
      (pss_cons (ps_set (i := 8) sc_Turned_turns_fitting.nd rfl (.inl rfl) (pmK (K := K) rfl (c_Turned_place_at T) hr (pv 0) (pa_cons (pe_op op_mod (pv 7) (pF (K := K) rfl (pv 0))) (pa_cons (pv 5) (pa_cons (pv 6) pa_nil)))))
      (pss_cons (ps_set (i := 9) sc_Turned_turns_fitting.nd rfl (.inl rfl) (pe_ifExp (pt_cmpR op_notN (pv 8) pe_non (nomark _)) (pmK (K := K) rfl (c_Circles_turns_to T) hr (pF (K := K) rfl (pv 0)) (pa_cons (pv 8) (pa_cons (pv 4) pa_nil))) pe_non))
      (pss_cons (ps_if (pt_cmpR op_isN (pv 9) pe_non (nomark _)) (pss_one (ps_ret pe_non)) pss_nil)
      (pss_one (ps_ret (pe_tup (pa_cons (pe_op op_mod (pe_op op_sub (pe_ix (xT (K := K) rfl) (pv 9) pe_int (fun _ _ => rfl)) (pe_op op_fdivW (pv 7) (pF (K := K) rfl (pv 0)))) (pe_ix (xT (K := K) rfl) (pv 9) pe_int (fun _ _ => rfl))) (pa_cons (pe_ix (xT (K := K) rfl) (pv 9) pe_int (fun _ _ => rfl)) pa_nil)))))))))), ?_⟩
    refine ⟨_, rfl, it, _, rfl, hB.tup hit, rfl, _, _, rfl, _, _, rfl, _, _, rfl, _, _, rfl, rfl, ?_⟩
    refine ⟨_, rfl, _, rfl, _, _, rfl, rfl, ?_⟩
    refine ⟨_, rfl, o, _, _, rfl, hB _ _ hins, rfl, _, rfl, _, rfl, o, _, _, _, _, rfl, hB _ _ hins, T.c_Turned, T.n_Turned_kept_turn, rfl, _, _, rfl, rfl, by omega, _, rfl, _, rfl, ?_⟩
    have hcast : ((rest : Int) + (l.w : Int)) % (prod c.rs : Nat) = (((rest + l.w) % prod c.rs : Nat) : Int) := by rw [← Int.natCast_add, ← Int.natCast_emod]
    refine ⟨B, _, hB, ⟨o, c, (rest + l.w) % prod c.rs, l.r, l.p, congrArg (fun z : Int => [V.ref o, V.int z, V.int (l.r : Int), V.int (l.p : Int)]) hcast, hti, ok, Nat.mod_lt _ (by omega), h2, rfl⟩, fun B1 H1 v1 e1 hv1 => ?_⟩
    cases hpl : placeO c ((rest + l.w) % prod c.rs) l.r l.p with
    | none =>
      rw [hpl] at hv1
      have e : v1 = .non := hv1
      subst e
      refine ⟨_, rfl, rfl, _, rfl, iteBF (by simp) ?_⟩
      refine ⟨_, rfl, rfl, _, rfl, iteB (by simp) ?_⟩
      refine k _ _ _ e1 ⟨none, rfl, ⟨fun _ m hm => ?_, fun _ _ h => (by cases h)⟩⟩
      obtain ⟨pl, h3, _⟩ := (spot_iff ok _ _ _ _).mp hm
      rw [(tick_mod ok rest l.w m).1, hpl] at h3
      cases h3
    | some pl =>
      rw [hpl] at hv1
      have e : v1 = .int (pl : Int) := hv1
      subst e
      have hpln := place_lt ok hpl
      refine ⟨_, rfl, rfl, _, rfl, iteB (by simp) ?_⟩
      obtain ⟨cdx, cca, cd, ccy, ckvs, cins, crest⟩ := id (hci.mono e1.b)
      refine ⟨_, rfl, o, _, _, _, _, rfl, e1.bh _ _ hins, T.c_Turned, T.n_Turned_kept_circles, rfl, co, _, _, rfl, e1.w _ _ cins, rfl, _, rfl, _, rfl, B1, _, e1.w, ⟨co, c, pl, l.b, rfl, hci.mono e1.b, hpln, h1, hn100, rfl⟩, fun B2 H2 v2 e2 hv2 => ?_⟩
      obtain ⟨r, hr2, tt⟩ := hv2
      have E2 := e1.trans e2
      have hkey : ∀ m, SpotO (stepN c.rs (rest + m * prod c.rs + l.w) (first c)) l.b l.r l.p ↔ itN (trow c) ((rest + l.w) / prod c.rs + m) pl = l.b := by
        intro m
        rw [spot_iff ok, (tick_mod ok rest l.w m).1, (tick_mod ok rest l.w m).2, hpl]
        constructor
        · rintro ⟨x, hx, hx2⟩
          obtain rfl := Option.some.inj hx
          exact hx2
        · intro h; exact ⟨pl, rfl, h⟩
      cases r with
      | none =>
        have e : v2 = .non := hr2
        subst e
        refine ⟨_, rfl, rfl, _, rfl, iteB (by simp) ?_⟩
        refine k _ _ _ E2 ⟨none, rfl, ⟨fun _ m hm => ?_, fun _ _ h => (by cases h)⟩⟩
        exact tt.no rfl _ ((hkey m).mp hm)
      | some rs =>
        obtain ⟨r, s⟩ := rs
        obtain ⟨q, rfl, hq⟩ : P2n K B2 v2 (r, s) := hr2
        obtain ⟨hrs, hsn, hiff⟩ := tt.yes r s rfl
        refine ⟨_, rfl, rfl, _, rfl, iteBF (by simp) ?_⟩
        refine ⟨_, rfl, q, _, 0, _, rfl, rfl, e2.w.tup hq, atI_nat (j := 0) rfl, _, rfl, _, rfl, o, _, _, _, _, rfl, E2.bh _ _ hins, T.c_Turned, T.n_Turned_kept_turn, rfl, _, _, rfl, rfl, ⟨by omega, ?_⟩, _, _, rfl, rfl, _, rfl, q, _, 1, _, rfl, rfl, e2.w.tup hq, atI_nat (j := 1) rfl, _, _, rfl, rfl, by show (0 : Int) < (s : Int); omega, ?_⟩
        · rw [Int.natAbs_natCast]
          exact Nat.lt_of_lt_of_le (Nat.log2_lt (by omega) |>.mpr (Nat.lt_of_le_of_lt hp1728 (show 1728 < 2 ^ 11 by decide))) (by decide)
        refine ⟨_, rfl, q, _, 1, _, rfl, rfl, e2.w.tup hq, atI_nat (j := 1) rfl, by show 2 ≤ sizeLine; decide, fun p np => ?_⟩
        have hk : ((rest : Int) + (l.w : Int)) / (prod c.rs : Nat) = (((rest + l.w) / prod c.rs : Nat) : Int) := by rw [← Int.natCast_add, ← Int.natCast_ediv]
        have h0 := Int.emod_nonneg ((r : Int) - ((rest + l.w) / prod c.rs : Nat)) (b := (s : Int)) (by omega)
        have h9 := Int.emod_lt_of_pos ((r : Int) - ((rest + l.w) / prod c.rs : Nat)) (b := (s : Int)) (by omega)
        refine k _ _ _ (E2.trans (Ext.new e2.w _ np)) ⟨some ((((r : Int) - ((rest + l.w) / prod c.rs : Nat)) % (s : Int)).toNat, s), ⟨p, rfl, SqT.of ?_⟩, ⟨fun h => (by cases h), fun r' s' h => ?_⟩⟩
        · rw [upd_same]
          show some (HO.tup [.int (((r : Int) - ((rest : Int) + (l.w : Int)) / (prod c.rs : Nat)) % (s : Int)), .int (s : Int)]) = some (HO.tup [.int ((((r : Int) - ((rest + l.w) / prod c.rs : Nat)) % (s : Int)).toNat : Int), .int (s : Int)])
          rw [hk, Int.toNat_of_nonneg h0]
        · have a1 := (Prod.mk.inj (Option.some.inj h)).1
          have a2 := (Prod.mk.inj (Option.some.inj h)).2
          subst a1; subst a2
          refine ⟨by omega, hsn, fun m => ?_⟩
          rw [hkey m, hiff]
          exact mod_shift hrs
def sp_rows_fitting (K : PySem.W.Frag) : Sp := Pu fun B vs R => ∃ (o : Addr) (lv : V) (c : Clk) (l : Look), vs = [.ref o, lv] ∧ TI K B o c ∧ LK K B lv l ∧ l.Ok c ∧ c.Ok ∧ R = fun B' v => RowsR K B' v c l
theorem c_Turned_rows_fitting (T : Txt w K mg) : HasM P w K mg base "Turned" "rows_fitting" 4 ["self", "look"] (sp_rows_fitting K) := by
  refine HasM.of T.f_Turned_rows_fitting T.m_Turned_rows_fitting T.c_Turned sc_Turned_rows_fitting (fun _ _ _ _ _ _ us hl => match us, hl with | [_, _], _ => rfl) (fun vs H Q E h => ?_) (fun f cdv A outer s0 H vs Q E hr h => ?_)
  · obtain ⟨B, R, hB, ⟨o, lv, c, l, rfl, _⟩, _⟩ := h; rfl
  · obtain ⟨B, R, hB, ⟨o, lv, c, l, rfl, hti, ⟨la, iv, rfl, hla, hit⟩, lok, ok, rfl⟩, k⟩ := h
    obtain ⟨dx, cv, co, ra, svs, hins, hci, hra, hsl, hall⟩ := id hti
    have hpp := prod_pos c.rs ok.two
    have hp1728 := prod_1728 ok
    have hn100 := ok.n100
    refine ⟨_, (pss_cons (ps_set (i := 2) sc_Turned_rows_fitting.nd rfl (.inl rfl) (pe_lst pa_nil))
      (pss_cons (ps_for PassesOwn.never rfl (pi_range1 rfl T.b_range (pa_cons (pF (K := K) rfl (pv 0)) pa_nil)) (pg_name (i := 3) sc_Turned_rows_fitting.nd rfl (.inr rfl))
      (pss_cons (ps_setLc (i := 4) (own := [("item", 6)]) (g := (gName 6)) rfl sc_Turned_rows_fitting.nd rfl rfl (sw_true rfl rfl rfl (by decide +kernel)) (piL (K := K) rfl (pv 1)) (blkOk_by (by kernel_rfl)) (fun _ _ _ _ _ => (pg_name (i := 6) sc_Turned_rows_fitting.nd rfl (.inl rfl))) (fun _ _ _ _ _ => pts_nil) (fun _ _ _ _ _ => (pmK (K := K) rfl (c_Turned_turns_fitting T) hr (pv 0) (pa_cons (pv 3) (pa_cons (pv 6) pa_nil)))))
      (pss_cons (ps_set (i := 5) sc_Turned_rows_fitting.nd rfl (.inl rfl) (pe_ifExp (pt_cmpR (op_inNone hr.units) pe_non (pv 4) rfl) pe_non (pc (c_joined_rests T) hr (pa_cons (pv 4) pa_nil))))
      (pss_one (ps_if (pt_cmpR op_notN (pv 5) pe_non (nomark _)) (pss_one (ps_expr (pe_bm PySem.F.plainAttrs_list PySem.F.slot_list_append PySem.F.type_list_append mt_append (pv 2) (pa_cons (pe_tup (pa_cons (pe_op op_add (pv 3) (pe_op op_mul (pe_ix (xT (K := K) rfl) (pv 5) pe_int (fun _ _ => rfl)) (pF (K := K) rfl (pv 0)))) (pa_cons (pe_op op_mul (pe_ix (xT (K := K) rfl) (pv 5) pe_int (fun _ _ => rfl)) (pF (K := K) rfl (pv 0))) pa_nil))) pa_nil)))) pss_nil)))))
      (pss_one (ps_ret (pe_callB cr_sortedPO (by rfl) T.b_sorted (by decide +kernel) (pa_cons (pv 2) pa_nil)))))), ?_⟩
    refine ⟨by show 0 ≤ sizeLine; decide, fun fo nfo => ?_⟩
    have e1 := Ext.tmp hB (.lst []) nfo
    have m1 := Mine.new (o := .lst []) (Ext.refl hB) nfo
    refine ⟨_, rfl, o, _, _, _, _, rfl, e1.bh _ _ hins, T.c_Turned, T.n_Turned_kept_turn, rfl, _, rfl, by omega, by omega, ?_⟩
    rw [show ((prod c.rs : Nat) : Int).toNat = prod c.rs by omega]
    refine for_it (walk_rng (prod c.rs)) (fun i σ' H' => ∃ (B' : Hp) (fvs : List V) (prs : List (Nat × Nat)) (v3 v4 v5 : Option V), σ' = [some (.ref o), some (.ref la), some (.ref fo), v3, v4, v5, none] ∧ Ext B H B' H' ∧ Mine H B' H' fo (.lst fvs) ∧ Paired (T2 B') fvs prs ∧ prs.length ≤ i ∧ Found c l.w l.b l.r l.p i prs)
      ⟨B, [], [], none, none, none, rfl, e1, m1, .nil, Nat.le_refl _, Found.start _ _ _ _ _⟩ (fun i σ' H' _ _ => trivial) ?_ ?_
    · rintro i y σ' H3 H3' hi ⟨B3, fvs, prs, v3, v4, v5, rfl, e3, m3, hpr, hprl, F⟩ ⟨rfl, rfl⟩
      refine ⟨_, rfl, la, rfl, ⟨_, e3.bh.seq hla⟩, fun D hD => lc_new (walk_list _) (fun _ B y => ∃ r, O2n K B y r ∧ FT c l.w l.b l.r l.p i r) e3.w (fun H' s => s.seq (e3.b.seq hla)) (by show 1 ≤ 1000000; decide) hD (fun _ _ _ _ e h => by obtain ⟨r, h1, h2⟩ := h; exact ⟨r, h1.mono e, h2⟩) ?_ ?_⟩
      · intro j y B4 H4 H4' N hj e4 hy hN
        obtain ⟨rfl, hy⟩ := hy
        have hj0 : j = 0 := by simpa using hj
        subst hj0
        have hy' : iv = y := by simpa using hy
        subst hy'
        refine ⟨rfl, ?_⟩
        have E4 := e3.trans e4
        refine ⟨_, rfl, o, _, _, rfl, E4.bh _ _ hins, rfl, _, rfl, _, rfl, B4, _, e4.w, ⟨o, iv, c, l, i, congrArg (fun z : Int => [V.ref o, V.int z, iv]) (Int.zero_add (i : Int)), hti.mono E4.b, hit.mono E4.b, lok, ok, hi, rfl⟩, fun B5 H5 v5 e5 hv5 => ?_⟩
        exact hN _ _ _ e5 hv5
      intro B6 H6 ys e6 hD6 hl6 hys
      have E6 := e3.trans e6
      have m6 := m3.ext e6
      obtain ⟨y0, rfl⟩ : ∃ y0, ys = [y0] := by
        cases ys with
        | nil => simp at hl6
        | cons a r => cases r with
          | nil => exact ⟨a, rfl⟩
          | cons _ _ => simp at hl6
      obtain ⟨r, hr0, ft⟩ := hys 0 y0 rfl
      refine ⟨_, rfl, D, _, rfl, rfl, SqL.of (e6.w _ _ hD6), ?_, _, rfl, ?_⟩
      · intro y hy
        have : y = y0 := by simpa using hy
        subst this
        cases r with
        | none => exact .inl hr0
        | some r =>
          obtain ⟨p, h3, h4⟩ := hr0
          exact .inr ⟨p, _, h3, e6.w.tup h4⟩
      cases r with
      | none =>
        have e : y0 = .non := hr0
        subst e
        refine iteB (by simp) ?_
        refine ⟨_, rfl, rfl, _, rfl, iteBF (by simp) ?_⟩
        exact ⟨B6, fvs, prs, _, _, _, rfl, E6, m6, Paired.mapP hpr fun _ _ h => h.mono e6.b, by omega, F.skip ft⟩
      | some rr =>
        obtain ⟨r', s⟩ := rr
        obtain ⟨h1, h2, h3⟩ := ft.yes r' s rfl
        obtain ⟨q, rfl, hq⟩ : P2n K B6 y0 (r', s) := hr0
        refine iteBF (by simp) ?_
        refine ⟨_, rfl, B6, _, e6.w, ⟨D, _, [(r', s)], rfl, SqL.of hD6, .cons ⟨q, rfl, hq⟩ .nil, by show 1 ≤ 100; decide, fun x hx => ?_, rfl⟩, fun B7 H7 v7 e7 hv7 => ?_⟩
        · have : x = (r', s) := by simpa using hx
          subst this
          exact ⟨h1, by omega⟩
        obtain ⟨oo, ho, ro⟩ := hv7
        have eo := ro.one (r', s) rfl
        subst eo
        obtain ⟨q7, rfl, hq7⟩ : P2 K B7 v7 ((r' : Int), (s : Int)) := ho
        have E7 := E6.trans e7
        have m7 := m6.ext e7
        refine ⟨_, rfl, rfl, _, rfl, iteB (by simp) ?_⟩
        refine ⟨_, rfl, .inl ⟨rfl, _, SqL.of m7.h⟩, _, rfl, _, rfl, q7, _, 0, _, rfl, rfl, e7.w.tup hq7, atI_nat (j := 0) rfl, _, rfl, o, _, _, _, _, rfl, E7.bh _ _ hins, T.c_Turned, T.n_Turned_kept_turn, rfl, _, _, rfl, rfl, .inr ⟨by omega, by omega⟩, _, _, rfl, rfl, ?_⟩
        refine ⟨_, rfl, q7, _, 1, _, rfl, rfl, e7.w.tup hq7, atI_nat (j := 1) rfl, _, rfl, o, _, _, _, _, rfl, E7.bh _ _ hins, T.c_Turned, T.n_Turned_kept_turn, rfl, _, _, rfl, rfl, .inr ⟨by omega, by omega⟩, by show 2 ≤ sizeLine; decide, fun p np => ?_⟩
        have e8 := Ext.new e7.w (.tup [.int (0 + (i : Int) + (r' : Int) * (prod c.rs : Nat)), .int ((s : Int) * (prod c.rs : Nat))]) np
        have E8 := E7.trans e8
        have m8 := m7.ext e8
        have hfl : fvs.length = prs.length := Paired.length hpr
        refine ⟨fo, _, _, rfl, rfl, m8.h, small2000 (by omega), ?_⟩
        refine ⟨_, fvs ++ [.ref p], prs ++ [(i + r' * prod c.rs, s * prod c.rs)], _, _, _, rfl, m8.set E8 _, m8.put _, paired_app (Paired.mapP hpr fun _ _ h => ((h.mono e6.b).mono e7.b).mono e8.b) (.cons ⟨p, rfl, ?_⟩ .nil), by rw [List.length_append]; simp; omega, F.put hi ft⟩
        rw [upd_same]
        show some (HO.tup [.int (0 + (i : Int) + (r' : Int) * (prod c.rs : Nat)), .int ((s : Int) * (prod c.rs : Nat))]) = some (HO.tup [.int ((i + r' * prod c.rs : Nat) : Int), .int ((s * prod c.rs : Nat) : Int)])
        rw [Int.zero_add, ← Int.natCast_mul, ← Int.natCast_mul, ← Int.natCast_add]
    · rintro σ' H3 ⟨B3, fvs, prs, v3, v4, v5, rfl, e3, m3, hpr, hprl, F⟩
      have hpe : PerEx c := by
        obtain ⟨_, _, _, cy, _, _, _, C, _⟩ := hci
        exact C.per
      have hmem : ∀ x ∈ fvs, ∃ z ∈ prs, T2 B3 x z := by
        intro x hx
        obtain ⟨i, hi⟩ := List.mem_iff_getElem?.mp hx
        obtain ⟨z, hz, ht⟩ := pat hpr hi
        exact ⟨z, List.mem_of_getElem? hz, ht⟩
      refine ⟨_, rfl, fo, fvs, keyP H3, rfl, SqL.of m3.h, fun x hx => ?_, fun ys p hs hst np => ?_⟩
      · obtain ⟨z, hz, ht⟩ := hmem x hx
        have hk := keyP_of (ht.mono e3.w)
        obtain ⟨t, rfl, h⟩ := ht.mono e3.w
        exact ⟨t, rfl, by rw [hk]; exact h⟩
      · have e4 := Ext.new e3.w (.lst ys) np
        refine k _ _ _ (e3.trans e4) ⟨p, ys, rfl, SqL.of upd_same, hpe, ?_⟩
        cases ys with
        | nil =>
          left
          refine ⟨rfl, fun t ht => ?_⟩
          have hnil : fvs = [] := (List.Perm.eq_nil hst.perm.symm)
          obtain ⟨x, hx, _⟩ := F.all t (Nat.mod_lt _ (by omega)) ht
          subst hnil
          cases hpr
          cases hx
        | cons y yr =>
          right
          have hy : y ∈ fvs := hst.perm.mem_iff.mp List.mem_cons_self
          obtain ⟨z, hz, ht⟩ := hmem y hy
          have hk := keyP_of (ht.mono e3.w)
          obtain ⟨t, rfl, h⟩ := ht
          obtain ⟨f1, f2⟩ := F.fit z hz
          refine ⟨t, yr, z.1, z.2, rfl, SqT.of (e4.b _ _ h), f1, f2, fun u hu => ?_⟩
          obtain ⟨x, hx, hxl⟩ := F.all u (Nat.mod_lt _ (by omega)) hu
          obtain ⟨xi, hxi⟩ := List.mem_iff_getElem?.mp hx
          obtain ⟨xv, hxv, hxt⟩ := pat2 hpr hxi
          have hxm : xv ∈ V.ref t :: yr := hst.perm.mem_iff.mpr (List.mem_of_getElem? hxv)
          have hkx := keyP_of (hxt.mono e3.w)
          have : z.1 ≤ x.1 := by
            rcases List.mem_cons.mp hxm with e | e
            · rw [e, hk] at hkx
              have := (Prod.mk.inj hkx).1
              omega
            · have h5 := SrtO.srtd_head hs xv e
              have h6 := SrtO.lexB_no.mp h5
              rw [hk, hkx] at h6
              omega
          omega
def sp_rows_for (K : PySem.W.Frag) : Sp := Pu fun B vs R => ∃ (cv lv : V) (c : Clk) (l : Look), vs = [cv, lv] ∧ CK K B cv c ∧ LK K B lv l ∧ l.Ok c ∧ c.Ok ∧ R = fun B' v => RowsR K B' v c l
theorem c_rows_for (T : Txt w K mg) : Has P w K mg base "rows_for" 15 ["clock", "look"] (sp_rows_for K) := by
  refine Has.of T.f_rows_for T.g_rows_for sc_rows_for (fun _ _ _ _ _ _ us hl => match us, hl with | [_, _], _ => rfl) (fun vs H Q E h => ?_) (fun f cdv A outer s0 H vs Q E hr h => ?_)
  · obtain ⟨B, R, hB, ⟨cv, lv, c, l, rfl, _⟩, _⟩ := h; rfl
  · obtain ⟨B, R, hB, ⟨cv, lv, c, l, rfl, hck, hlk, lok, ok, rfl⟩, k⟩ := h
    refine ⟨_, (pss_cons (ps_expr (pc (c_require_clock T) hr (pa_cons (pv 0) pa_nil)))
      (pss_cons (ps_expr (pc (c_require_look T) hr (pa_cons (pv 0) (pa_cons (pv 1) pa_nil))))
      (pss_one (ps_ret (pmK (K := K) rfl (c_Turned_rows_fitting T) hr (pk (c_Turned_init T) hr (pa_cons (pv 0) pa_nil)) (pa_cons (pv 1) pa_nil)))))), ?_⟩
    refine ⟨_, rfl, B, _, hB, ⟨cv, c, rfl, hck, ok, rfl⟩, fun B1 H1 v1 e1 hv1 => ?_⟩
    refine ⟨_, rfl, _, rfl, B1, _, e1.w, ⟨cv, lv, c, l, rfl, hck.mono e1.b, hlk.mono e1.b, lok, rfl⟩, fun B2 H2 v2 e2 hv2 => ?_⟩
    have E2 := e1.trans e2
    refine ⟨_, rfl, fun x dx nx ndx ne => ⟨B2, x, dx, c, cv, same_made e2.w nx ndx, e2.w.free nx, upd_same, rfl, hck.mono E2.b, ok, fun B3 H3 e3 hti => ⟨rfl, ?_⟩⟩⟩
    have e3' := Ext.made e2.w nx ndx ne e3
    have E3 := E2.trans e3'
    obtain ⟨dx', cv', co, ra, svs, hins, _⟩ := id hti
    refine ⟨x, _, _, rfl, e3.w _ _ hins, rfl, _, rfl, B3, _, e3.w, ⟨x, lv, c, l, rfl, hti, hlk.mono E3.b, lok, ok, rfl⟩, fun B4 H4 v4 e4 hv4 => ?_⟩
    exact k _ _ _ (E3.trans e4) hv4
def sp_first_fit (K : PySem.W.Frag) : Sp := Pu fun B vs R => ∃ (cv lv : V) (c : Clk) (l : Look), vs = [cv, lv] ∧ CK K B cv c ∧ LK K B lv l ∧ l.Ok c ∧ c.Ok ∧ R = fun _ v => PerEx c ∧ ((v = .non ∧ NoFit c l) ∨ ∃ a : Nat, v = .int (a : Int) ∧ LeastFit c l a)
theorem c_first_fit (T : Txt w K mg) : Has P w K mg base "first_fit" 16 ["clock", "look"] (sp_first_fit K) := by
  refine Has.of T.f_first_fit T.g_first_fit sc_first_fit (fun _ _ _ _ _ _ us hl => match us, hl with | [_, _], _ => rfl) (fun vs H Q E h => ?_) (fun f cdv A outer s0 H vs Q E hr h => ?_)
  · obtain ⟨B, R, hB, ⟨cv, lv, c, l, rfl, _⟩, _⟩ := h; rfl
  · obtain ⟨B, R, hB, ⟨cv, lv, c, l, rfl, hck, hlk, lok, ok, rfl⟩, k⟩ := h
    refine ⟨_, (pss_cons (ps_set (i := 2) sc_first_fit.nd rfl (.inl rfl) (pc (c_rows_for T) hr (pa_cons (pv 0) (pa_cons (pv 1) pa_nil))))
      (pss_one (ps_ret (pe_ifExp (pt_cmpR (op_neE hr.units0) (pv 2) (pe_lst pa_nil) (nomark _)) (pe_ix (xT (K := K) rfl) (pe_ix (xL (K := K) rfl) (pv 2) pe_int (fun _ _ => rfl)) pe_int (fun _ _ => rfl)) pe_non)))), ?_⟩
    refine ⟨_, rfl, _, rfl, B, _, hB, ⟨cv, lv, c, l, rfl, hck, hlk, lok, ok, rfl⟩, fun B1 H1 v1 e1 hv1 => ?_⟩
    obtain ⟨p, ys, rfl, hys, hpe, hor⟩ := hv1
    refine ⟨_, rfl, by show 0 ≤ sizeLine; decide, fun z nz => ?_⟩
    have e2 := Ext.tmp e1.w (.lst []) nz
    have E2 := e1.trans e2
    refine ⟨p, z, _, rfl, rfl, .inl ⟨e2.w.seq hys, SqL.of upd_same⟩, _, rfl, ?_⟩
    rcases hor with ⟨rfl, hno⟩ | ⟨q, yr, a, b, rfl, hq, hlf⟩
    · refine iteBF rfl ?_
      exact k _ _ _ E2 ⟨hpe, .inl ⟨rfl, hno⟩⟩
    · refine iteB rfl ?_
      refine ⟨_, rfl, p, _, 0, _, rfl, rfl, e2.w.seq hys, atI_nat (j := 0) rfl, q, _, 0, _, rfl, rfl, e2.w.tup hq, atI_nat (j := 0) rfl, ?_⟩
      exact k _ _ _ E2 ⟨hpe, .inr ⟨a, rfl, hlf⟩⟩
end
end BH
end
section
set_option linter.all false
namespace BM
/-! ### when the sights of two clocks part -/
def unl : List Rail → List Rail → Nat → Option Nat
  | (b, w) :: rs, (b2, w2) :: rs2, k => if b ≠ b2 then some (k * min b b2) else if w ≠ w2 ∧ 2 < b then some (k * b) else unl rs rs2 (k * b)
  | _, _, _ => none
theorem unl_same : ∀ (rs : List Rail) (k : Nat), unl rs rs k = none
  | [], _ => rfl
  | (b, w) :: rs, k => by
    unfold unl
    rw [if_neg (by simp), if_neg (by simp)]
    exact unl_same rs _
theorem unl_at : ∀ (I O : List Rail) (b b2 : Nat) (w w2 : Bool) (k : Nat), unl (I ++ (b, w) :: O) (I ++ (b2, w2) :: O) k = if b ≠ b2 then some (k * prod I * min b b2) else if w ≠ w2 ∧ 2 < b then some (k * prod I * b) else none
  | [], O, b, b2, w, w2, k => by
    show unl ((b, w) :: O) ((b2, w2) :: O) k = _
    unfold unl
    rw [show k * prod [] = k by simp [prod]]
    by_cases h : b ≠ b2
    · rw [if_pos h, if_pos h]
    · rw [if_neg h, if_neg h]
      by_cases h2 : w ≠ w2 ∧ 2 < b
      · rw [if_pos h2, if_pos h2]
      · rw [if_neg h2, if_neg h2, unl_same]
  | (bi, wi) :: I, O, b, b2, w, w2, k => by
    show unl ((bi, wi) :: (I ++ (b, w) :: O)) ((bi, wi) :: (I ++ (b2, w2) :: O)) k = _
    conv => lhs; unfold unl
    rw [if_neg (by simp), if_neg (by simp), unl_at I O b b2 w w2]
    show _ = if b ≠ b2 then some (k * (bi * prod I) * min b b2) else if w ≠ w2 ∧ 2 < b then some (k * (bi * prod I) * b) else none
    rw [Nat.mul_assoc k bi]
def zer (n : Nat) : List Nat := List.replicate n 0
theorem digs_append : ∀ (A : List Rail) (B : List Rail) (t : Nat), digs (A ++ B) t = digs A t ++ digs B (t / prod A)
  | [], B, t => by simp [digs, prod]
  | (b, w) :: A, B, t => by
    show t % b :: digs (A ++ B) (t / b) = t % b :: (digs A (t / b) ++ digs B (t / (b * prod A)))
    rw [digs_append A B, Nat.div_div_eq_div_mul]
theorem digs_zero : ∀ (rs : List Rail), digs rs 0 = zer rs.length
  | [] => rfl
  | (b, w) :: rs => by
    show 0 % b :: digs rs (0 / b) = 0 :: zer rs.length
    rw [Nat.zero_mod, Nat.zero_div, digs_zero rs]
theorem digs_mul : ∀ (A : List Rail), two A → ∀ k, digs A (prod A * k) = zer A.length
  | [], _, _ => rfl
  | (b, w) :: A, h, k => by
    have hb : 2 ≤ b := h (b, w) List.mem_cons_self
    show (b * prod A * k) % b :: digs A (b * prod A * k / b) = 0 :: zer A.length
    rw [Nat.mul_assoc, Nat.mul_mod_right, Nat.mul_div_cancel_left _ (by omega), digs_mul A (fun r hr => h r (List.mem_cons_of_mem _ hr))]
theorem fill_zer : ∀ (rr : List Rail) (q : List Nat), fill rr (zer rr.length) q = (q, empt rr.length)
  | [], q => rfl
  | (b, w) :: rr, q => by
    show ((fill rr (zer rr.length) (rep (runL rr) 0 q).2).1, (rep (runL rr) 0 q).1 :: (fill rr (zer rr.length) (rep (runL rr) 0 q).2).2) = _
    have e : rep (runL rr) 0 q = ([], q) := rfl
    rw [e, fill_zer rr q]
    rfl
theorem fill_outer : ∀ (A B : List Rail) (cb : List Nat) (q : List Nat), fill (A ++ B) (zer A.length ++ cb) q = ((fill B cb q).1, empt A.length ++ (fill B cb q).2)
  | [], B, cb, q => by simp [zer, empt]
  | (b, w) :: A, B, cb, q => by
    show ((fill (A ++ B) (zer A.length ++ cb) (rep (runL (A ++ B)) 0 q).2).1, (rep (runL (A ++ B)) 0 q).1 :: (fill (A ++ B) (zer A.length ++ cb) (rep (runL (A ++ B)) 0 q).2).2) = _
    have e : rep (runL (A ++ B)) 0 q = ([], q) := rfl
    rw [e, fill_outer A B cb q]
    rfl
theorem zer_rev (n : Nat) : (zer n).reverse = zer n := by simp [zer]
theorem zer_len (n : Nat) : (zer n).length = n := by simp [zer]
theorem digs_lt {A : List Rail} {t : Nat} (h : t < prod A) : t / prod A = 0 := Nat.div_eq_of_lt h
/-- the sight at a tick within the first turn -/
theorem first_turn {c : Clk} (hc : c.Ok) {t : Nat} (h : t < prod c.rs) : stepN c.rs t (first c) = spots c.rs (digs c.rs t) (List.range c.n) := by
  have := far_steps c.rs hc.two (List.range c.n) (by rw [List.length_range]; exact hc.need) t
  rw [Nat.mod_eq_of_lt h, Nat.div_eq_of_lt h] at this
  exact this
theorem prod_split (I O : List Rail) (b : Nat) (w : Bool) : prod (I ++ (b, w) :: O) = prod I * (b * prod O) := by
  rw [prod_append]
  rfl
theorem digs_split (I O : List Rail) (b : Nat) (w : Bool) (t : Nat) : digs (I ++ (b, w) :: O) t = digs I t ++ (t / prod I % b) :: digs O (t / prod I / b) := by
  rw [digs_append]
  rfl
/-- within its bound a rail's own bound and way do not matter -/
theorem part_same {n : Nat} {I O O2 : List Rail} {b b2 : Nat} {w w2 : Bool} (hl : O.length = O2.length) (h1 : Clk.Ok ⟨n, I ++ (b, w) :: O⟩) (h2 : Clk.Ok ⟨n, I ++ (b2, w2) :: O2⟩) {t : Nat} (ht : t < prod I * b) (ht2 : t < prod I * b2) :
    stepN (I ++ (b, w) :: O) t (first ⟨n, I ++ (b, w) :: O⟩) = stepN (I ++ (b2, w2) :: O2) t (first ⟨n, I ++ (b2, w2) :: O2⟩) := by
  have gen : ∀ (O : List Rail) (b : Nat) (w : Bool), Clk.Ok ⟨n, I ++ (b, w) :: O⟩ → t < prod I * b → stepN (I ++ (b, w) :: O) t (first ⟨n, I ++ (b, w) :: O⟩) =
      ((fill I.reverse (digs I t).reverse (rep (runL I.reverse) (t / prod I) (List.range n)).2).1, (empt O.length ++ (rep (runL I.reverse) (t / prod I) (List.range n)).1 :: (fill I.reverse (digs I t).reverse (rep (runL I.reverse) (t / prod I) (List.range n)).2).2).reverse) := by
    intro O b w ok ht
    have hpO : 1 ≤ prod O := prod_pos O fun r hr => ok.two r (List.mem_append.mpr (.inr (List.mem_cons_of_mem _ hr)))
    have hlt : t < prod (I ++ (b, w) :: O) := by
      rw [prod_split, ← Nat.mul_assoc]
      exact Nat.lt_of_lt_of_le ht (Nat.le_mul_of_pos_right _ hpO)
    have hdiv : t / prod I < b := Nat.div_lt_of_lt_mul ht
    have := first_turn ok hlt
    rw [show (Clk.mk n (I ++ (b, w) :: O)).rs = I ++ (b, w) :: O from rfl] at this
    rw [this, digs_split, Nat.mod_eq_of_lt hdiv, Nat.div_eq_of_lt hdiv, digs_zero]
    unfold spots
    have e1 : (I ++ (b, w) :: O).reverse = O.reverse ++ ((b, w) :: I.reverse) := by simp
    have e2 : (digs I t ++ t / prod I :: zer O.length).reverse = zer O.reverse.length ++ (t / prod I :: (digs I t).reverse) := by
      simp [zer]
    rw [e1, e2, fill_outer, List.length_reverse]
    rfl
  rw [gen O b w h1 ht, gen O2 b2 w2 h2 ht2, hl]
theorem cnts_first {c : Clk} (hc : c.Ok) {t : Nat} (h : t < prod c.rs) : cnts (stepN c.rs t (first c)) = digs c.rs t := by
  rw [first_turn hc h]
  exact spots_cnts hc (digs_fits _ _ hc.two) List.length_range
theorem cnts_any {c : Clk} (hc : c.Ok) (t : Nat) : cnts (stepN c.rs t (first c)) = digs c.rs (t % prod c.rs) := by
  have hp := prod_pos c.rs hc.two
  rw [sight_at hc t, cnts_map, cnts_first hc (Nat.mod_lt _ hp)]
theorem digs_mod : ∀ (rs : List Rail) (t : Nat), digs rs (t % prod rs) = digs rs t
  | [], _ => rfl
  | (b, w) :: rs, t => by
    show t % (b * prod rs) % b :: digs rs (t % (b * prod rs) / b) = t % b :: digs rs (t / b)
    rw [Nat.mod_mul_right_mod, Nat.mod_mul_right_div_self, digs_mod rs]
/-- unlike bounds: the counts differ -/
theorem part_bound {n : Nat} {I O O2 : List Rail} {b b2 : Nat} {w w2 : Bool} (h1 : Clk.Ok ⟨n, I ++ (b, w) :: O⟩) (h2 : Clk.Ok ⟨n, I ++ (b2, w2) :: O2⟩) (hb : b < b2) :
    stepN (I ++ (b, w) :: O) (prod I * b) (first ⟨n, I ++ (b, w) :: O⟩) ≠ stepN (I ++ (b2, w2) :: O2) (prod I * b) (first ⟨n, I ++ (b2, w2) :: O2⟩) := by
  intro e
  have e1 := cnts_any h1 (prod I * b)
  have e2 := cnts_any h2 (prod I * b)
  rw [digs_mod] at e1 e2
  have e3 : cnts (stepN (I ++ (b, w) :: O) (prod I * b) (first ⟨n, I ++ (b, w) :: O⟩)) = cnts (stepN (I ++ (b2, w2) :: O2) (prod I * b) (first ⟨n, I ++ (b2, w2) :: O2⟩)) := congrArg cnts e
  have e4 : digs (I ++ (b, w) :: O) (prod I * b) = digs (I ++ (b2, w2) :: O2) (prod I * b) := (e1.symm.trans e3).trans e2
  rw [digs_split, digs_split] at e4
  have e5 := List.append_cancel_left e4
  have e6 := (List.cons.inj e5).1
  have hpI : 0 < prod I := prod_pos I fun r hr => h1.two r (List.mem_append.mpr (.inl hr))
  have hb2 : 2 ≤ b := h1.two (b, w) (List.mem_append.mpr (.inr List.mem_cons_self))
  rw [Nat.mul_div_cancel_left _ hpI, Nat.mod_self, Nat.mod_eq_of_lt hb] at e6
  omega
theorem rev_ne {l : List Nat} (nd : l.Nodup) (h : 2 ≤ l.length) : l.reverse ≠ l := by
  intro e
  have h0 : l.reverse[0]? = l[0]? := by rw [e]
  rw [List.getElem?_reverse (by omega)] at h0
  rw [List.getElem?_eq_getElem (by omega), List.getElem?_eq_getElem (by omega)] at h0
  have := (List.getElem_inj nd).mp (Option.some.inj h0)
  omega
/-- unlike ways: the queue differs -/
theorem part_way {n : Nat} {I O : List Rail} {b : Nat} {w w2 : Bool} (h1 : Clk.Ok ⟨n, I ++ (b, w) :: O⟩) (h2 : Clk.Ok ⟨n, I ++ (b, w2) :: O⟩) (hw : w ≠ w2) (hb : 2 < b) :
    stepN (I ++ (b, w) :: O) (prod I * b) (first ⟨n, I ++ (b, w) :: O⟩) ≠ stepN (I ++ (b, w2) :: O) (prod I * b) (first ⟨n, I ++ (b, w2) :: O⟩) := by
  have hI2 : two I := fun r hr => h1.two r (List.mem_append.mpr (.inl hr))
  have hnr : need (I ++ (b, w) :: O) ≤ n := h1.need
  have hnI : need I.reverse + b ≤ n + 1 := by
    have e1 := need_append I ((b, w) :: O)
    have e2 : need ((b, w) :: O) = (b - 1) + need O := rfl
    have e3 := need_pos O
    rw [need_reverse]
    omega
  have hlen := rep_len (f := runL I.reverse) (m := need I.reverse) (fun l hl => runL_len _ (two_reverse hI2) l hl) (need_pos _) b (List.range n) (by rw [List.length_range]; exact hnI)
  have hperm := rep_perm (f := runL I.reverse) (m := need I.reverse) (fun l hl => runL_perm _ (two_reverse hI2) l hl) (need_pos _) b (List.range n) (by rw [List.length_range]; exact hnI)
  have hnd := hperm.nodup_iff.mpr List.nodup_range
  have hndl : (rep (runL I.reverse) b (List.range n)).1.dropLast.Nodup := ((List.nodup_append.mp hnd).1).sublist (List.dropLast_sublist _)
  have hdl : (rep (runL I.reverse) b (List.range n)).1.dropLast.length = b - 1 := by rw [List.length_dropLast, hlen.1]
  have hne : (rep (runL I.reverse) b (List.range n)).1 ≠ [] := fun z => by have := hlen.1; rw [z] at this; simp at this; omega
  have hsent : sent w (rep (runL I.reverse) b (List.range n)).1.dropLast ≠ sent w2 (rep (runL I.reverse) b (List.range n)).1.dropLast := by
    have hr := rev_ne hndl (by omega)
    intro e
    cases w <;> cases w2
    · exact hw rfl
    · exact hr e.symm
    · exact hr e
    · exact hw rfl
  -- the queue behind the run
  have queue : ∀ w, Clk.Ok ⟨n, I ++ (b, w) :: O⟩ → (stepN (I ++ (b, w) :: O) (prod I * b) (first ⟨n, I ++ (b, w) :: O⟩)).1 = (rep (runL I.reverse) b (List.range n)).2 ++ sent w (rep (runL I.reverse) b (List.range n)).1.dropLast ++ (if O = [] then [(rep (runL I.reverse) b (List.range n)).1.getLast hne] else []) := by
    intro w ok
    have hrun : runL ((b, w) :: I.reverse) (List.range n) = (rep (runL I.reverse) b (List.range n)).1.getLast hne :: ((rep (runL I.reverse) b (List.range n)).2 ++ sent w (rep (runL I.reverse) b (List.range n)).1.dropLast) := by
      conv => lhs; unfold runL
      rw [List.getLast?_eq_some_getLast hne]
    cases O with
    | nil =>
      have hp : prod I * b = prod (I ++ [(b, w)]) := by rw [prod_split]; simp [prod]
      have := turn_steps (I ++ [(b, w)]) ok.two (List.range n) (by rw [List.length_range]; exact ok.need)
      rw [hp]
      show (stepN (I ++ [(b, w)]) (prod (I ++ [(b, w)])) (List.range n, empt (I ++ [(b, w)]).length)).1 = _
      rw [this, if_pos rfl]
      show turnL (I ++ [(b, w)]) (List.range n) = _
      unfold turnL
      rw [show (I ++ [(b, w)]).reverse = (b, w) :: I.reverse by simp, hrun]
    | cons o O =>
      obtain ⟨bo, wo⟩ := o
      have hbo : 2 ≤ bo := ok.two (bo, wo) (List.mem_append.mpr (.inr (List.mem_cons_of_mem _ List.mem_cons_self)))
      have hpO : 1 ≤ prod O := prod_pos O fun r hr => ok.two r (List.mem_append.mpr (.inr (List.mem_cons_of_mem _ (List.mem_cons_of_mem _ hr))))
      have hpI : 0 < prod I := prod_pos I hI2
      have hlt : prod I * b < prod (I ++ (b, w) :: (bo, wo) :: O) := by
        rw [prod_split, ← Nat.mul_assoc]
        have : prod ((bo, wo) :: O) = bo * prod O := rfl
        rw [this]
        have h3 : 2 ≤ bo * prod O := Nat.le_trans hbo (Nat.le_mul_of_pos_right _ hpO)
        have h4 : 0 < prod I * b := Nat.mul_pos hpI (by omega)
        have h5 := Nat.mul_le_mul_left (prod I * b) h3
        omega
      have h6 := first_turn ok hlt
      rw [show (Clk.mk n (I ++ (b, w) :: (bo, wo) :: O)).rs = I ++ (b, w) :: (bo, wo) :: O from rfl] at h6
      rw [h6, digs_split, digs_mul I hI2, Nat.mul_div_cancel_left _ hpI, Nat.mod_self, Nat.div_self (by omega)]
      have h7 : digs ((bo, wo) :: O) 1 = 1 :: zer O.length := by
        show 1 % bo :: digs O (1 / bo) = _
        rw [Nat.mod_eq_of_lt (by omega), Nat.div_eq_of_lt (by omega), digs_zero]
      rw [h7]
      unfold spots
      have e1 : (I ++ (b, w) :: (bo, wo) :: O).reverse = O.reverse ++ ((bo, wo) :: (b, w) :: I.reverse) := by simp
      have e2 : (zer I.length ++ 0 :: 1 :: zer O.length).reverse = zer O.reverse.length ++ (1 :: zer ((b, w) :: I.reverse).length) := by
        simp [zer, List.replicate_succ]
      rw [e1, e2, fill_outer, if_neg (by simp)]
      show (fill ((b, w) :: I.reverse) (zer ((b, w) :: I.reverse).length) (rep (runL ((b, w) :: I.reverse)) 1 (List.range n)).2).1 = _
      rw [fill_zer]
      show (rep (runL ((b, w) :: I.reverse)) 1 (List.range n)).2 = _
      simp [rep, hrun]
  intro e
  have e1 := congrArg Prod.fst e
  rw [queue w h1, queue w2 h2] at e1
  have e2 := List.append_cancel_right e1
  exact hsent (List.append_cancel_left e2)
end BM
end
section
set_option Elab.async false
set_option linter.all false
set_option maxRecDepth 100000
set_option maxHeartbeats 4000000
namespace BH
open PySem PySem.Spec PyProof.Rows L2 BM
section
variable {P : Program} {w : World} {K : PySem.W.Frag} {mg : Str → Option Value} {base : Heap}
def sp_require_alike (K : PySem.W.Frag) : Sp := Pu fun B vs R => ∃ (v1 v2 : V) (c1 c2 : Clk), vs = [v1, v2, .bl true] ∧ CK K B v1 c1 ∧ CK K B v2 c2 ∧ c1.Ok ∧ c2.Ok ∧ c1.n = c2.n ∧ c1.rs.length = c2.rs.length ∧ R = fun _ v => v = .non
theorem c_require_alike (T : Txt w K mg) : Has P w K mg base "require_alike" 6 ["clock", "other", "with_rails"] (sp_require_alike K) := by
  refine Has.of T.f_require_alike T.g_require_alike sc_require_alike (fun _ _ _ _ _ _ us hl => match us, hl with | [_, _, _], _ => rfl) (fun vs H Q E h => ?_) (fun f cdv A outer s0 H vs Q E hr h => ?_)
  · obtain ⟨B, R, hB, ⟨v1, v2, c1, c2, rfl, _⟩, _⟩ := h; rfl
  · obtain ⟨B, R, hB, ⟨v1, v2, c1, c2, rfl, hc1, hc2, ok1, ok2, hn, hl, rfl⟩, k⟩ := h
    refine ⟨_, (pss_cons (ps_expr (pc (c_require_clock T) hr (pa_cons (pv 0) pa_nil)))
      (pss_cons (ps_expr (pc (c_require_clock T) hr (pa_cons (pv 1) pa_nil)))
      (pss_one (ps_if (PW.pt (pw_or (pt_cmpR op_ne (pe_ix (xT (K := K) rfl) (pv 0) pe_int (fun _ _ => rfl)) (pe_ix (xT (K := K) rfl) (pv 1) pe_int (fun _ _ => rfl)) (nomark _)) (pw_or1 (PW.pt (pw_and (pt_val (pv 2)) (pw_and1 (pt_cmpR op_ne (pe_callB (cLen (K := K) rfl) (by rfl) T.b_len (by decide +kernel) (pa_cons (pe_ix (xT (K := K) rfl) (pv 0) pe_int (fun _ _ => rfl)) pa_nil)) (pe_callB (cLen (K := K) rfl) (by rfl) T.b_len (by decide +kernel) (pa_cons (pe_ix (xT (K := K) rfl) (pv 1) pe_int (fun _ _ => rfl)) pa_nil)) (nomark _)))))))) (pss_one ps_never) pss_nil)))), ?_⟩
    refine ⟨_, rfl, B, _, hB, ⟨v1, c1, rfl, hc1, ok1, rfl⟩, fun B1 H1 v e1 hv => ?_⟩
    refine ⟨_, rfl, B1, _, e1.w, ⟨v2, c2, rfl, hc2.mono e1.b, ok2, rfl⟩, fun B2 H2 v' e2 hv' => ?_⟩
    have E2 := e1.trans e2
    obtain ⟨a1, rv1, rfl, ha1, ⟨b1, rls1, rfl, hb1, hp1⟩⟩ := hc1.mono E2.b
    obtain ⟨a2, rv2, rfl, ha2, ⟨b2, rls2, rfl, hb2, hp2⟩⟩ := hc2.mono E2.b
    have hlr1 : rls1.length = c1.rs.length := Paired.length hp1
    have hlr2 : rls2.length = c2.rs.length := Paired.length hp2
    refine ⟨_, rfl, a1, _, 0, _, rfl, rfl, e2.w.tup ha1, atI_nat (j := 0) rfl, _, rfl, a2, _, 0, _, rfl, rfl, e2.w.tup ha2, atI_nat (j := 0) rfl, rfl, _, rfl, iteBF (by rw [hn]; simp) ?_⟩
    refine ⟨_, rfl, _, rfl, iteT ?_⟩
    refine ⟨_, rfl, a1, _, 1, _, rfl, rfl, e2.w.tup ha1, atI_nat (j := 1) rfl, b1, _, rfl, .inl (e2.w.seq hb1), _, rfl, a2, _, 1, _, rfl, rfl, e2.w.tup ha2, atI_nat (j := 1) rfl, b2, _, rfl, .inl (e2.w.seq hb2), rfl, _, rfl, iteBF (by rw [hlr1, hlr2, hl]; simp) ?_⟩
    exact k _ _ _ E2 rfl
def sp_first_unlike (K : PySem.W.Frag) : Sp := Pu fun B vs R => ∃ (v1 v2 : V) (c1 c2 : Clk), vs = [v1, v2] ∧ CK K B v1 c1 ∧ CK K B v2 c2 ∧ c1.Ok ∧ c2.Ok ∧ c1.rs.length = c2.rs.length ∧ R = fun _ v => v = optV (unl c1.rs c2.rs 1)
theorem c_first_unlike (T : Txt w K mg) : Has P w K mg base "first_unlike" 1 ["clock", "other"] (sp_first_unlike K) := by
  refine Has.of T.f_first_unlike T.g_first_unlike sc_first_unlike (fun _ _ _ _ _ _ us hl => match us, hl with | [_, _], _ => rfl) (fun vs H Q E h => ?_) (fun f cdv A outer s0 H vs Q E hr h => ?_)
  · obtain ⟨B, R, hB, ⟨v1, v2, c1, c2, rfl, _⟩, _⟩ := h; rfl
  · obtain ⟨B, R, hB, ⟨v1, v2, c1, c2, rfl, hc1, hc2, ok1, ok2, hl, rfl⟩, k⟩ := h
    obtain ⟨a1, rv1, rfl, ha1, ⟨b1, rls1, rfl, hb1, hp1⟩⟩ := hc1
    obtain ⟨a2, rv2, rfl, ha2, ⟨b2, rls2, rfl, hb2, hp2⟩⟩ := hc2
    have hlr1 : rls1.length = c1.rs.length := Paired.length hp1
    have hlr2 : rls2.length = c2.rs.length := Paired.length hp2
    have hl3 := ok1.l3
    refine ⟨_, (pss_cons (ps_set (i := 2) sc_first_unlike.nd rfl (.inl rfl) pe_int)
      (pss_cons (ps_for PassesOwn.never rfl (pi_zip rfl T.b_zip (pa_cons (pe_ix (xT (K := K) rfl) (pv 0) pe_int (fun _ _ => rfl)) (pa_cons (pe_ix (xT (K := K) rfl) (pv 1) pe_int (fun _ _ => rfl)) pa_nil))) (pg_tup rfl (pgs_cons (pg_tup rfl (pgs_cons (pg_name (i := 3) sc_first_unlike.nd rfl (.inl rfl)) (pgs_cons (pg_name (i := 4) sc_first_unlike.nd rfl (.inl rfl)) pgs_nil))) (pgs_cons (pg_tup rfl (pgs_cons (pg_name (i := 5) sc_first_unlike.nd rfl (.inl rfl)) (pgs_cons (pg_name (i := 6) sc_first_unlike.nd rfl (.inl rfl)) pgs_nil))) pgs_nil)))
      (pss_cons (ps_if (pt_cmpR op_ne (pv 3) (pv 5) (nomark _)) (pss_one (ps_ret (pe_op op_mul (pv 2) (pe_callB (call_min2 rfl) (by rfl) T.b_min (by decide +kernel) (pa_cons (pv 3) (pa_cons (pv 5) pa_nil)))))) pss_nil)
      (pss_cons (ps_aug (i := 2) sc_first_unlike.nd rfl (.inl rfl) (pv 3) ip_mul)
      (pss_one (ps_if (PW.pt (pw_and (pt_cmpR op_ne (pv 4) (pv 6) (nomark _)) (pw_and1 (pt_cmpR op_gt (pv 3) pe_int (nomark _))))) (pss_one (ps_ret (pv 2))) pss_nil)))))
      (pss_one (ps_ret pe_non)))), ?_⟩
    refine ⟨_, rfl, a1, _, 1, _, rfl, rfl, hB.tup ha1, atI_nat (j := 1) rfl, _, rfl, a2, _, 1, _, rfl, rfl, hB.tup ha2, atI_nat (j := 1) rfl, b1, b2, rls1, rls2, rfl, hB.seq hb1, hB.seq hb2, for_it (walk_zip rls1 rls2 (by omega)) (fun i σ' H' => ∃ (kk : Nat) (v3 v4 v5 v6 : Option V), σ' = [some (.ref a1), some (.ref a2), some (.int (kk : Int)), v3, v4, v5, v6] ∧ Ext B H B H' ∧ kk ≤ 12 ^ i ∧ unl c1.rs c2.rs 1 = unl (c1.rs.drop i) (c2.rs.drop i) kk)
      ⟨1, none, none, none, none, rfl, Ext.refl hB, Nat.le_refl _, rfl⟩ (fun i σ' H' _ ⟨_, _, _, _, _, _, e, _⟩ => ⟨e.bh.seq hb1, e.bh.seq hb2⟩) ?_ ?_⟩
    · rintro i y σ' H3 H3' hi ⟨kk, v3, v4, v5, v6, rfl, e3, hkk, hun⟩ ⟨Tp, x1, x2, rfl, nT, rfl, hx1, hx2⟩
      obtain ⟨⟨bd, wy⟩, hr1, q1, rfl, hq1⟩ := pat hp1 hx1
      obtain ⟨⟨bd2, wy2⟩, hr2, q2, rfl, hq2⟩ := pat hp2 hx2
      have e4 := Ext.tmp e3.w (.tup [.ref q1, .ref q2]) nT
      have E4 := e3.trans e4
      have hd1 : c1.rs.drop i = (bd, wy) :: c1.rs.drop (i + 1) := by
        obtain ⟨h1, h2⟩ := List.getElem?_eq_some_iff.mp hr1
        rw [List.drop_eq_getElem_cons h1, h2]
      have hd2 : c2.rs.drop i = (bd2, wy2) :: c2.rs.drop (i + 1) := by
        obtain ⟨h1, h2⟩ := List.getElem?_eq_some_iff.mp hr2
        rw [List.drop_eq_getElem_cons h1, h2]
      have h12 := ok1.b12 _ (List.mem_of_getElem? hr1)
      have hk12 : kk ≤ 12 ^ 3 := Nat.le_trans hkk (Nat.pow_le_pow_right (by decide) (by omega))
      have hk12' : kk ≤ 1728 := hk12
      rw [hd1, hd2] at hun
      refine ⟨Tp, _, rfl, SqT.of upd_same, rfl, _, _, rfl, ⟨q1, _, rfl, E4.bh.tup hq1, rfl, _, _, rfl, _, _, rfl, rfl, _, _, rfl, q2, _, rfl, E4.bh.tup hq2, rfl, _, _, rfl, _, _, rfl, rfl, rfl, ?_⟩⟩
      have hun2 : unl ((bd, wy) :: c1.rs.drop (i + 1)) ((bd2, wy2) :: c2.rs.drop (i + 1)) kk = if bd ≠ bd2 then some (kk * min bd bd2) else if wy ≠ wy2 ∧ 2 < bd then some (kk * bd) else unl (c1.rs.drop (i + 1)) (c2.rs.drop (i + 1)) (kk * bd) := by
        conv => lhs; unfold unl
      rw [hun2] at hun
      by_cases hb : bd = bd2
      · subst hb
        refine ⟨_, rfl, _, rfl, rfl, _, rfl, iteBF (by simp) ?_⟩
        rw [if_neg (by simp)] at hun
        refine ⟨_, rfl, _, rfl, _, _, rfl, rfl, .inl ⟨by omega, by omega⟩, ?_⟩
        refine ⟨_, rfl, _, rfl, rfl, _, rfl, ?_⟩
        by_cases hw : wy = wy2
        · subst hw
          refine iteBF (by simp) ?_
          rw [if_neg (by simp)] at hun
          refine ⟨kk * bd, _, _, _, _, rfl, E4, ?_, hun⟩
          rw [Nat.pow_succ]
          exact Nat.mul_le_mul hkk h12
        · have hws : wayS wy ≠ wayS wy2 := by
            cases wy <;> cases wy2
            · exact absurd rfl hw
            · decide
            · decide
            · exact absurd rfl hw
          refine iteB (by simp [hws]) ?_
          refine ⟨_, rfl, _, _, rfl, rfl, _, rfl, ?_⟩
          by_cases h2 : 2 < bd
          · refine iteB (decide_eq_true (by show (2 : Int) < (bd : Int); omega)) ?_
            rw [if_pos ⟨hw, h2⟩] at hun
            refine ⟨_, rfl, k _ _ _ E4 ?_⟩
            show _ = optV (unl c1.rs c2.rs 1)
            rw [hun]
            show V.int ((kk : Int) * (bd : Int)) = V.int ((kk * bd : Nat) : Int)
            rw [Int.natCast_mul]
          · refine iteBF (decide_eq_false (by show ¬ (2 : Int) < (bd : Int); omega)) ?_
            rw [if_neg (fun z => h2 z.2)] at hun
            refine ⟨kk * bd, _, _, _, _, rfl, E4, ?_, hun⟩
            rw [Nat.pow_succ]
            exact Nat.mul_le_mul hkk h12
      · refine ⟨_, rfl, _, rfl, rfl, _, rfl, iteB (by simp; omega) ?_⟩
        rw [if_pos hb] at hun
        refine ⟨_, rfl, _, rfl, _, rfl, _, _, rfl, _, _, rfl, rfl, .inl ⟨by omega, by omega⟩, ?_⟩
        refine k _ _ _ E4 ?_
        show _ = optV (unl c1.rs c2.rs 1)
        rw [hun]
        show V.int ((kk : Int) * (if ((bd2 : Nat) : Int) < (bd : Int) then (bd2 : Int) else (bd : Int))) = V.int ((kk * min bd bd2 : Nat) : Int)
        rw [Int.natCast_mul]
        congr 2
        split <;> omega
    · rintro σ' H3 ⟨kk, v3, v4, v5, v6, rfl, e3, hkk, hun⟩
      refine k _ _ _ e3 ?_
      show _ = optV (unl c1.rs c2.rs 1)
      rw [hun, hlr1, List.drop_length]
      rfl
def sp_parting_tick (K : PySem.W.Frag) : Sp := Pu fun B vs R => ∃ (v1 v2 : V) (c1 c2 : Clk), vs = [v1, v2] ∧ CK K B v1 c1 ∧ CK K B v2 c2 ∧ c1.Ok ∧ c2.Ok ∧ c1.n = c2.n ∧ c1.rs.length = c2.rs.length ∧ R = fun _ v => v = optV (unl c1.rs c2.rs 1)
theorem c_parting_tick (T : Txt w K mg) : Has P w K mg base "parting_tick" 7 ["clock", "other"] (sp_parting_tick K) := by
  refine Has.of T.f_parting_tick T.g_parting_tick sc_parting_tick (fun _ _ _ _ _ _ us hl => match us, hl with | [_, _], _ => rfl) (fun vs H Q E h => ?_) (fun f cdv A outer s0 H vs Q E hr h => ?_)
  · obtain ⟨B, R, hB, ⟨v1, v2, c1, c2, rfl, _⟩, _⟩ := h; rfl
  · obtain ⟨B, R, hB, ⟨v1, v2, c1, c2, rfl, hc1, hc2, ok1, ok2, hn, hl, rfl⟩, k⟩ := h
    refine ⟨_, (pss_cons (ps_expr (pc (c_require_alike T) hr (pa_cons (pv 0) (pa_cons (pv 1) (pa_cons pe_bl pa_nil)))))
      (pss_one (ps_ret (pc (c_first_unlike T) hr (pa_cons (pv 0) (pa_cons (pv 1) pa_nil)))))), ?_⟩
    refine ⟨_, rfl, _, rfl, B, _, hB, ⟨v1, v2, c1, c2, rfl, hc1, hc2, ok1, ok2, hn, hl, rfl⟩, fun B1 H1 v e1 hv => ?_⟩
    refine ⟨_, rfl, _, rfl, B1, _, e1.w, ⟨v1, v2, c1, c2, rfl, hc1.mono e1.b, hc2.mono e1.b, ok1, ok2, hl, rfl⟩, fun B2 H2 v' e2 hv' => ?_⟩
    exact k _ _ _ (e1.trans e2) hv'
end
end BH
end
section
set_option Elab.async false
set_option linter.all false
set_option maxRecDepth 100000
namespace BH
open PySem PySem.Spec PyProof.Rows L2 BM
/-! ### texts -/
theorem str_ext {a b : Str} (h : a.cps.toList = b.cps.toList) : a = b := by
  obtain ⟨a⟩ := a
  obtain ⟨b⟩ := b
  exact congrArg Str.mk (Array.toList_inj.mp h)
theorem cps_app (a b : Str) : (a ++ b).cps.toList = a.cps.toList ++ b.cps.toList := cps_toList_append a b
theorem len_app (a b : Str) : (a ++ b).length = a.length + b.length := by
  show (a ++ b).cps.size = a.cps.size + b.cps.size
  rw [← Array.length_toList, cps_app, List.length_append]
  rfl
theorem app_assoc (a b c : Str) : a ++ b ++ c = a ++ (b ++ c) := by
  apply str_ext
  simp only [cps_app, List.append_assoc]
/-- the text of a number -/
def dg (n : Nat) : Str := toString (n : Int)
theorem dg_signs (n : Nat) : (dg n).cps.toList = (Nat.toDigits 10 n).map Char.toNat := by
  unfold dg
  rw [signs_ofString]
  show (Nat.repr n).toList.map Char.toNat = _
  rw [Nat.toList_repr]
theorem dg_all (n : Nat) : NumText.AllDigits (dg n).cps.toList := by
  intro c hc
  rw [dg_signs] at hc
  obtain ⟨ch, hch, e⟩ := List.mem_map.mp hc
  have h := Nat.isDigit_of_mem_toDigits (by decide) (by decide) hch
  rw [← e]
  have h2 : (48 ≤ ch.val && ch.val ≤ 57) = true := h
  rw [Bool.and_eq_true] at h2
  exact ⟨of_decide_eq_true h2.1, of_decide_eq_true h2.2⟩
theorem dg_ne (n : Nat) : (dg n).cps.toList ≠ [] := by
  rw [dg_signs]
  intro e
  have := List.map_eq_nil_iff.mp e
  have h : 0 < (Nat.toDigits 10 n).length := Nat.length_toDigits_pos
  rw [this] at h
  exact absurd h (by decide)
theorem dg_len {n k : Nat} (hk : 0 < k) (h : n < 10 ^ k) : (dg n).length ≤ k := toString_length_le (by omega) hk (by exact_mod_cast h)
theorem dg_val (n : Nat) : NumText.digitsVal (dg n).cps.toList = n := by
  rw [dg_signs]
  exact PySem.W.KIN.val_back n
theorem dg_inj {a b : Nat} (h : dg a = dg b) : a = b := by
  rw [← dg_val a, h, dg_val]
theorem dg_int {n : Nat} (h : (dg n).length ≤ 4300) : intText? (dg n) = some (n : Int) := by
  rw [intText_digits (dg_all n) (dg_ne n) h, dg_val]
theorem dg_head (n : Nat) : (dg n).cps.toList.head? = some 48 → n = 0 := by
  rw [dg_signs]
  induction n using Nat.strongRecOn with
  | _ m ih =>
    intro h
    by_cases hm : m < 10
    · rw [Nat.toDigits_of_lt_base hm] at h
      have h' : (Nat.digitChar m).toNat = 48 := by simpa using h
      have : ∀ d : Nat, d < 10 → (Nat.digitChar d).toNat = 48 → d = 0 := by decide
      exact this m hm h'
    · exfalso
      have t : Nat.toDigits 10 (m / 10) ++ Nat.toDigits 10 (m % 10) = Nat.toDigits 10 (10 * (m / 10) + m % 10) := Nat.toDigits_append_toDigits (by decide) (by omega) (Nat.mod_lt _ (by decide))
      rw [Nat.div_add_mod] at t
      rw [← t, List.map_append] at h
      have hne : (Nat.toDigits 10 (m / 10)).map Char.toNat ≠ [] := by
        have := dg_ne (m / 10)
        rwa [dg_signs] at this
      have h' : ((Nat.toDigits 10 (m / 10)).map Char.toNat).head? = some 48 := by
        cases hq : (Nat.toDigits 10 (m / 10)).map Char.toNat with
        | nil => exact absurd hq hne
        | cons a r => rw [hq] at h; exact h
      have := ih (m / 10) (by omega) h'
      omega
theorem dg_free {n c : Nat} (h : c < 48 ∨ 57 < c) : c ∉ (dg n).cps.toList := by
  intro hc
  have := dg_all n c hc
  omega
theorem dg_zero : dg 0 = "0" := by decide +kernel
/-! ### words -/
def sp1 : Str := " "
theorem sp1_cps : sp1 = ⟨#[32]⟩ := by decide +kernel
theorem join_cps : ∀ (ws : List Str), (Str.join sp1 ws).cps.toList = ((ws.map fun w => w.cps.toList).intersperse [32]).flatten
  | [] => by decide +kernel
  | [x] => by simp [Str.join]
  | x :: y :: r => by
    show (x ++ sp1 ++ Str.join sp1 (y :: r)).cps.toList = _
    rw [cps_app, cps_app, join_cps (y :: r), sp1_cps]
    simp [List.intersperse]
def Free (w : Str) : Prop := 32 ∉ w.cps.toList
theorem split_head32 : ∀ (x y : List Nat) (a b : List Nat), 32 ∉ x → 32 ∉ y → x ++ 32 :: a = y ++ 32 :: b → x = y ∧ a = b
  | [], [], a, b, _, _, h => ⟨rfl, by simpa using h⟩
  | [], d :: y, a, b, _, hy, h => by
    have : 32 = d := (List.cons.inj h).1
    subst this
    exact absurd List.mem_cons_self hy
  | d :: x, [], a, b, hx, _, h => by
    have : d = 32 := (List.cons.inj h).1
    subst this
    exact absurd List.mem_cons_self hx
  | d :: x, e :: y, a, b, hx, hy, h => by
    obtain ⟨h1, h2⟩ := List.cons.inj h
    subst h1
    obtain ⟨h3, h4⟩ := split_head32 x y a b (fun z => hx (List.mem_cons_of_mem _ z)) (fun z => hy (List.mem_cons_of_mem _ z)) h2
    exact ⟨by rw [h3], h4⟩
theorem join_inj : ∀ {l m : List Str}, l ≠ [] → m ≠ [] → (∀ w ∈ l, Free w) → (∀ w ∈ m, Free w) → Str.join sp1 l = Str.join sp1 m → l = m
  | [], _, h, _, _, _, _ => absurd rfl h
  | _, [], _, h, _, _, _ => absurd rfl h
  | [x], [y], _, _, _, _, h => by
    have : x = y := h
    rw [this]
  | [x], y :: z :: r, _, _, hl, _, h => by
    exfalso
    have h1 : x = y ++ sp1 ++ Str.join sp1 (z :: r) := h
    have h2 := hl x List.mem_cons_self
    apply h2
    rw [h1, cps_app, cps_app, sp1_cps]
    simp
  | x :: z :: r, [y], _, _, _, hm, h => by
    exfalso
    have h1 : x ++ sp1 ++ Str.join sp1 (z :: r) = y := h
    have h2 := hm y List.mem_cons_self
    apply h2
    rw [← h1, cps_app, cps_app, sp1_cps]
    simp
  | x :: a :: r, y :: b :: q, _, _, hl, hm, h => by
    have h1 : x ++ sp1 ++ Str.join sp1 (a :: r) = y ++ sp1 ++ Str.join sp1 (b :: q) := h
    have h2 := congrArg (fun z : Str => z.cps.toList) h1
    simp only [cps_app, sp1_cps] at h2
    rw [List.append_assoc, List.append_assoc] at h2
    obtain ⟨h3, h4⟩ := split_head32 _ _ _ _ (hl x List.mem_cons_self) (hm y List.mem_cons_self) h2
    have h5 : Str.join sp1 (a :: r) = Str.join sp1 (b :: q) := str_ext h4
    rw [str_ext h3, join_inj (by simp) (by simp) (fun w hw => hl w (List.mem_cons_of_mem _ hw)) (fun w hw => hm w (List.mem_cons_of_mem _ hw)) h5]
/-- split and join -/
theorem split_join {ws : List Str} (hne : ws ≠ []) (hf : ∀ w ∈ ws, Free w) : Txt.split (Str.join sp1 ws) sp1 = ws := by
  have h1 := StrLaws.join_split (Str.join sp1 ws) sp1
  have h2 : ∀ w ∈ Txt.split (Str.join sp1 ws) sp1, Free w := by
    rw [sp1_cps]
    exact StrLaws.split_free _ 32
  have h3 : Txt.split (Str.join sp1 ws) sp1 ≠ [] := by
    intro e
    have := split_pos (Str.join sp1 ws) sp1
    rw [e] at this
    exact absurd this (by decide)
  exact join_inj h3 hne h2 hf h1
theorem join_len : ∀ (ws : List Str) (k : Nat), (∀ w ∈ ws, w.length ≤ k) → (Str.join sp1 ws).length ≤ ws.length * (k + 1)
  | [], _, _ => by simp [Str.join]; decide +kernel
  | [x], k, h => by
    have := h x List.mem_cons_self
    show x.length ≤ _
    simp
    omega
  | x :: y :: r, k, h => by
    have h1 := h x List.mem_cons_self
    have h2 := join_len (y :: r) k fun w hw => h w (List.mem_cons_of_mem _ hw)
    show (x ++ sp1 ++ Str.join sp1 (y :: r)).length ≤ _
    rw [len_app, len_app, show sp1.length = 1 by decide +kernel]
    rw [show (x :: y :: r).length = (y :: r).length + 1 from rfl, Nat.add_mul, Nat.one_mul]
    omega
/-- a clock's words -/
def wayC (w : Bool) : Str := if w then "b" else "t"
def railW (r : Rail) : Str := dg r.1 ++ wayC r.2
def clockW (c : Clk) : List Str := (dg c.n ++ ":") :: c.rs.map railW
def clockT (c : Clk) : Str := Str.join sp1 (clockW c)
theorem free_app {a b : Str} (ha : Free a) (hb : Free b) : Free (a ++ b) := by
  unfold Free
  rw [cps_app, List.mem_append]
  rintro (h | h)
  · exact ha h
  · exact hb h
theorem free_dg (n : Nat) : Free (dg n) := dg_free (.inl (by decide))
theorem clockW_free (c : Clk) : ∀ w ∈ clockW c, Free w := by
  intro w hw
  rcases List.mem_cons.mp hw with e | e
  · rw [e]
    exact free_app (free_dg _) (by unfold Free; decide +kernel)
  · obtain ⟨r, _, rfl⟩ := List.mem_map.mp e
    refine free_app (free_dg _) ?_
    cases r.2 <;> (unfold Free wayC; decide +kernel)
/-- a sight's words -/
def rowsW (rows : List (List Nat)) : List Str := rows.flatMap fun row => "|" :: row.map dg
def sightW (s : Sg Nat) : List Str := s.1.map dg ++ rowsW s.2
def sightT (s : Sg Nat) : Str := Str.join sp1 (sightW s)
theorem sightW_free (s : Sg Nat) : ∀ w ∈ sightW s, Free w := by
  intro w hw
  rcases List.mem_append.mp hw with e | e
  · obtain ⟨b, _, rfl⟩ := List.mem_map.mp e
    exact free_dg b
  · obtain ⟨row, _, h⟩ := List.mem_flatMap.mp e
    rcases List.mem_cons.mp h with e | e
    · rw [e]; unfold Free; decide +kernel
    · obtain ⟨b, _, rfl⟩ := List.mem_map.mp e
      exact free_dg b
theorem dg_bar (n : Nat) : dg n ≠ "|" := by
  intro e
  have : 124 ∉ (dg n).cps.toList := dg_free (.inr (by decide))
  rw [e] at this
  exact this (by decide +kernel)
theorem words_inj : ∀ {q q' : List Nat} {R R' : List (List Nat)}, q.map dg ++ rowsW R = q'.map dg ++ rowsW R' → q = q' ∧ R = R'
  | [], [], [], [], _ => ⟨rfl, rfl⟩
  | [], [], [], r :: R, h => by simp [rowsW] at h
  | [], [], r :: R, [], h => by simp [rowsW] at h
  | [], [], r :: R, r' :: R', h => by
    have h1 : r.map dg ++ rowsW R = r'.map dg ++ rowsW R' := by
      have h2 : (("|" : Str) :: (r.map dg ++ rowsW R)) = ("|" : Str) :: (r'.map dg ++ rowsW R') := by simpa [rowsW] using h
      exact (List.cons.inj h2).2
    obtain ⟨a, b⟩ := words_inj h1
    exact ⟨rfl, by rw [a, b]⟩
  | x :: q, y :: q', R, R', h => by
    obtain ⟨h1, h2⟩ := List.cons.inj h
    obtain ⟨a, b⟩ := words_inj (q := q) (q' := q') h2
    exact ⟨by rw [dg_inj h1, a], b⟩
  | [], y :: q', [], R', h => by simp [rowsW] at h
  | [], y :: q', r :: R, R', h => by
    exfalso
    have : ("|" : Str) = dg y := (List.cons.inj h).1
    exact dg_bar y this.symm
  | x :: q, [], R, [], h => by simp [rowsW] at h
  | x :: q, [], R, r' :: R', h => by
    exfalso
    have : dg x = ("|" : Str) := (List.cons.inj h).1
    exact dg_bar x this
  termination_by q _ R _ => q.length + (R.map fun r => r.length + 1).sum
theorem sightT_inj {s s' : Sg Nat} (h0 : s.1 ≠ []) (h0' : s'.1 ≠ []) (h : sightT s = sightT s') : s = s' := by
  have hne : ∀ s : Sg Nat, s.1 ≠ [] → sightW s ≠ [] := by
    intro s h e
    have := (List.append_eq_nil_iff.mp e).1
    exact h (List.map_eq_nil_iff.mp this)
  have h1 := join_inj (hne s h0) (hne s' h0') (sightW_free s) (sightW_free s') h
  obtain ⟨a, b⟩ := words_inj (q := s.1) (q' := s'.1) (R := s.2) (R' := s'.2) h1
  exact Prod.ext a b
end BH
end
section
set_option Elab.async false
set_option linter.all false
set_option maxRecDepth 100000
set_option maxHeartbeats 4000000
namespace BH
open PySem PySem.Spec PyProof.Rows L2 BM
theorem digits_cps : ("0123456789" : Str).cps.toList = List.range' 48 10 := by decide +kernel
theorem zero_cps : ("0" : Str) = ⟨#[48]⟩ := by decide +kernel
theorem one_str {c d : Nat} (h : (⟨#[c]⟩ : Str) = ⟨#[d]⟩) : c = d := by
  have := Str.mk.inj h
  simpa using this
section
variable {P : Program} {w : World} {K : PySem.W.Frag} {mg : Str → Option Value} {base : Heap}
def sp_natural_of : Sp := Pu fun B vs R => ∃ n : Nat, vs = [.str (dg n)] ∧ n < 10 ^ 30 ∧ R = fun _ v => v = .int (n : Int)
theorem c_natural_of (T : Txt w K mg) : Has P w K mg base "natural_of" 1 ["word"] sp_natural_of := by
  refine Has.of T.f_natural_of T.g_natural_of sc_natural_of (fun _ _ _ _ _ _ us hl => match us, hl with | [_], _ => rfl) (fun vs H Q E h => ?_) (fun f cdv A outer s H vs Q E hr h => ?_)
  · obtain ⟨B, R, hB, ⟨n, rfl, _⟩, _⟩ := h; rfl
  · obtain ⟨B, R, hB, ⟨n, rfl, hn, rfl⟩, k⟩ := h
    have hlen : (dg n).length ≤ 30 := dg_len (by decide) hn
    have hls : (dg n).length ≤ sizeLine := Nat.le_of_lt (small1000 (by omega))
    refine ⟨_, (pss_cons (ps_if (PW.pt (pw_or (pt_cmpR op_eq (pv 0) pe_str (nomark _)) (pw_or (pt_cmpR op_gt (pe_callB call_len_str (by rfl) T.b_len (by decide +kernel) (pa_cons (pv 0) pa_nil)) (pe_glob (v := .int 30) rfl T.mostDigits.choose_spec ⟨_, rfl⟩) (nomark _)) (pw_or1 (pt_not (pt_val (pe_callB (cr_all rfl) (by rfl) T.b_all (by decide +kernel) (pa_cons (pe_lc (own := [("sign", 1)]) (g := (gName 1)) rfl sc_natural_of.nd (pi_str (pv 0)) (blkOk_by (by kernel_rfl)) (fun _ _ _ _ _ => (pg_name (i := 1) sc_natural_of.nd rfl (.inl rfl))) (fun _ _ _ _ _ => pts_nil) (fun _ _ _ _ _ => (pe_cmpR op_in_sign (pv 1) (pe_glob (v := .str "0123456789") rfl T.digits.choose_spec ⟨_, rfl⟩) rfl))) pa_nil)))))))) (pss_one (ps_ret pe_non)) pss_nil)
      (pss_one (ps_ret (pe_ifExp (PW.pt (pw_and (pt_cmpR op_eq (pe_ix ix_str (pv 0) pe_int (fun _ _ => rfl)) pe_str (nomark _)) (pw_and1 (pt_cmpR op_ne (pv 0) pe_str (nomark _))))) pe_non (pe_callTy call_int_str (by rfl) T.b_int (by decide +kernel) (pa_cons (pv 0) pa_nil)))))), ?_⟩
    refine ⟨_, rfl, rfl, _, rfl, iteBF ?_ ?_⟩
    · refine decide_eq_false fun h => ?_
      have := V.str.inj h
      exact dg_ne n (by rw [this]; decide +kernel)
    refine ⟨_, rfl, _, rfl, hls, _, _, rfl, rfl, _, rfl, iteBF (decide_eq_false (by omega)) ?_⟩
    refine ⟨_, rfl, _, rfl, fun D hD => lc_new (walk_str _) (fun _ _ y => y = .bl true) hB (fun _ _ => trivial) (by show (dg n).length ≤ _; omega) hD (fun _ _ _ _ _ h => h) ?_ ?_⟩
    · intro i y B3 H3 H3' N hi e3 hy hN
      obtain ⟨rfl, c, hc, rfl⟩ := hy
      refine ⟨rfl, ?_⟩
      refine ⟨_, rfl, c, _, rfl, rfl, ?_⟩
      refine hN _ _ _ (Ext.refl e3.w) ?_
      have hm : c ∈ (dg n).cps.toList := by
        rw [← Array.getElem?_toList] at hc
        exact List.mem_of_getElem? hc
      have := dg_all n c hm
      show V.bl (decide (c ∈ ("0123456789" : Str).cps.toList)) = V.bl true
      rw [digits_cps]
      exact congrArg V.bl (decide_eq_true (by rw [List.mem_range'_1]; omega))
    intro B1 H1 ys e1 hD1 hl hys
    have ey : ys = (List.replicate ys.length true).map V.bl := by
      apply List.ext_getElem?
      intro i
      rw [List.getElem?_map, List.getElem?_replicate]
      by_cases hi : i < ys.length
      · rw [if_pos hi, List.getElem?_eq_getElem hi]
        exact congrArg some (hys i _ (List.getElem?_eq_getElem hi))
      · rw [if_neg hi, List.getElem?_eq_none (by omega)]
        rfl
    refine ⟨D, List.replicate ys.length true, rfl, by rw [← ey]; exact e1.w.seq (SqL.of hD1), ?_⟩
    refine ⟨_, rfl, iteBF (by simp) ?_⟩
    obtain ⟨c, hc⟩ : ∃ c, (dg n).cps.toList[0]? = some c := by
      cases h : (dg n).cps.toList with
      | nil => exact absurd h (dg_ne n)
      | cons a r => exact ⟨a, rfl⟩
    refine ⟨_, rfl, _, 0, c, rfl, rfl, hls, atI_nat (j := 0) hc, rfl, _, rfl, ?_⟩
    have fin : ∃ v, [some (V.str (dg n)), none][0]? = some (some v) ∧ ∃ a n_1, [v] = [V.str a] ∧ intText? a = some n_1 ∧ a.length ≤ 640 ∧ Q (.int n_1) H1 :=
      ⟨_, rfl, dg n, (n : Int), rfl, dg_int (by omega), by omega, k _ _ _ e1 rfl⟩
    by_cases h48 : c = 48
    · subst h48
      have hn0 : n = 0 := dg_head n (by rw [List.head?_eq_getElem?]; exact hc)
      refine iteB (decide_eq_true (by rw [zero_cps])) ?_
      refine ⟨_, rfl, rfl, _, rfl, iteBF (by rw [hn0, dg_zero]; simp) ?_⟩
      exact fin
    · refine iteBF (decide_eq_false (by
        rw [zero_cps]
        intro h
        exact h48 (one_str (V.str.inj h)))) ?_
      exact fin
theorem log_small {n k : Nat} (h : n < 2 ^ k) (hk : k ≤ 1920) (h0 : 0 < k) : ((n : Int)).natAbs.log2 < 1920 := by
  rw [Int.natAbs_natCast]
  exact Nat.lt_of_lt_of_le (PySem.Flt.log2_lt_of h0 h) hk
theorem cut_first {n : Nat} {c : Nat} (hc : (dg n).cps.toList[0]? = some c) : cutS (dg n) none (some 1) = ⟨#[c]⟩ := by
  apply str_ext
  show ((dg n).cps.toList.drop (HT.sIx (dg n).length 0 none)).take (HT.sIx (dg n).length (dg n).length (some 1) - HT.sIx (dg n).length 0 none) = [c]
  have hl : 0 < (dg n).length := by
    have := (List.getElem?_eq_some_iff.mp hc).1
    show 0 < (dg n).cps.size
    rwa [← Array.length_toList]
  rw [HT.sIx_none, show HT.sIx (dg n).length (dg n).length (some 1) = min 1 (dg n).length from HT.sIx_nat _ _ 1, Nat.min_eq_left hl, List.drop_zero, Nat.sub_zero]
  cases h : (dg n).cps.toList with
  | nil => exact absurd h (dg_ne n)
  | cons a r =>
    rw [h] at hc
    have : a = c := by simpa using hc
    rw [this]
    rfl
def sp_integer_of : Sp := Pu fun B vs R => ∃ n : Nat, vs = [.str (dg n)] ∧ n < 10 ^ 30 ∧ R = fun _ v => v = .int (n : Int)
theorem c_integer_of (T : Txt w K mg) : Has P w K mg base "integer_of" 2 ["word"] sp_integer_of := by
  refine Has.of T.f_integer_of T.g_integer_of sc_integer_of (fun _ _ _ _ _ _ us hl => match us, hl with | [_], _ => rfl) (fun vs H Q E h => ?_) (fun f cdv A outer s H vs Q E hr h => ?_)
  · obtain ⟨B, R, hB, ⟨n, rfl, _⟩, _⟩ := h; rfl
  · obtain ⟨B, R, hB, ⟨n, rfl, hn, rfl⟩, k⟩ := h
    have hlen : (dg n).length ≤ 30 := dg_len (by decide) hn
    have hls : (dg n).length ≤ sizeLine := Nat.le_of_lt (small1000 (by omega))
    obtain ⟨c, hc⟩ : ∃ c, (dg n).cps.toList[0]? = some c := by
      cases h : (dg n).cps.toList with
      | nil => exact absurd h (dg_ne n)
      | cons a r => exact ⟨a, rfl⟩
    refine ⟨_, (pss_cons (ps_if (pt_cmpR op_ne (pe_slice sl_str (pv 0) po_none (po_some pe_int)) pe_str (nomark _)) (pss_one (ps_ret (pc (c_natural_of T) hr (pa_cons (pv 0) pa_nil)))) pss_nil)
      (pss_cons (ps_set (i := 1) sc_integer_of.nd rfl (.inl rfl) (pc (c_natural_of T) hr (pa_cons (pe_slice sl_str (pv 0) (po_some pe_int) po_none) pa_nil)))
      (pss_one (ps_ret (pe_ifExp (PW.pt (pw_or (pt_cmpR op_isN (pv 1) pe_non (nomark _)) (pw_or1 (pt_cmpR op_eq (pv 1) pe_int (nomark _))))) pe_non (pe_un un_neg (pv 1))))))), ?_⟩
    refine ⟨_, rfl, 1, rfl, _, rfl, hls, rfl, _, rfl, iteB ?_ ?_⟩
    · show (!decide (V.str (cutS (dg n) none (some 1)) = V.str "-")) = true
      rw [cut_first hc, Bool.not_eq_true', decide_eq_false_iff_not]
      intro h
      have h2 := V.str.inj h
      have h3 : ("-" : Str) = ⟨#[45]⟩ := by decide +kernel
      rw [h3] at h2
      have := one_str h2
      have := dg_all n c (List.mem_of_getElem? hc)
      omega
    exact ⟨_, rfl, B, _, hB, ⟨n, rfl, hn, rfl⟩, k⟩
def sp_words_of (K : PySem.W.Frag) : Sp := Pu fun B vs R => ∃ ws : List Str, vs = [.str (Str.join sp1 ws)] ∧ ws ≠ [] ∧ (∀ w ∈ ws, Free w) ∧ (Str.join sp1 ws).length ≤ 100000 ∧ R = fun B' v => ∃ a, v = .ref a ∧ SqL K B' a (ws.map V.str)
theorem c_words_of (T : Txt w K mg) : Has P w K mg base "words_of" 1 ["text"] (sp_words_of K) := by
  refine Has.of T.f_words_of T.g_words_of sc_words_of (fun _ _ _ _ _ _ us hl => match us, hl with | [_], _ => rfl) (fun vs H Q E h => ?_) (fun f cdv A outer s H vs Q E hr h => ?_)
  · obtain ⟨B, R, hB, ⟨ws, rfl, _⟩, _⟩ := h; rfl
  · obtain ⟨B, R, hB, ⟨ws, rfl, hne, hf, hl, rfl⟩, k⟩ := h
    refine ⟨_, (pss_cons (ps_if (pt_not (pt_val (pe_callB (cIsi (K := K) rfl) (by rfl) T.b_isinstance (by decide +kernel) (pa_cons (pv 0) (pa_cons (pe_bltn (v := .ty "str") (u := .type "str") (by rfl) T.b_str (by decide +kernel) rfl) pa_nil))))) (pss_one ps_never) pss_nil)
      (pss_one (ps_ret (pe_split (pv 0) pe_str)))), ?_⟩
    refine ⟨_, rfl, _, _, _, _, true, rfl, .ty _, .base (.str _), kit_ty (by decide +kernel), true, rfl, iteF ?_⟩
    refine ⟨_, rfl, ⟨_, rfl⟩, _, _, rfl, rfl, by decide +kernel, Nat.le_trans (Nat.add_le_add_right hl 2) (by decide), fun p np => ?_⟩
    refine k _ _ _ (Ext.new hB _ np) ⟨p, rfl, SqL.of ?_⟩
    rw [upd_same]
    have := split_join hne hf
    exact congrArg (fun z : List Str => some (HO.lst (z.map V.str))) this
def optT : Option Nat → Str
  | none => "none"
  | some n => dg n
def sp_value_text : Sp := Pu fun B vs R => ∃ o : Option Nat, vs = [optV o] ∧ (∀ n, o = some n → n < 2 ^ 1900) ∧ R = fun _ v => v = .str (optT o)
theorem c_value_text (T : Txt w K mg) : Has P w K mg base "value_text" 1 ["value"] sp_value_text := by
  refine Has.of T.f_value_text T.g_value_text sc_value_text (fun _ _ _ _ _ _ us hl => match us, hl with | [_], _ => rfl) (fun vs H Q E h => ?_) (fun f cdv A outer s H vs Q E hr h => ?_)
  · obtain ⟨B, R, hB, ⟨o, rfl, _⟩, _⟩ := h; rfl
  · obtain ⟨B, R, hB, ⟨o, rfl, ho, rfl⟩, k⟩ := h
    refine ⟨_, (pss_one (ps_ret (pe_ifExp (pt_cmpR op_isN (pv 0) pe_non (nomark _)) pe_str (pe_callTy call_str_int (by rfl) T.b_str (by decide +kernel) (pa_cons (pv 0) pa_nil))))), ?_⟩
    cases o with
    | none =>
      refine ⟨_, rfl, rfl, _, rfl, iteB (by simp [optV]) ?_⟩
      exact Pu.val k hB rfl
    | some n =>
      refine ⟨_, rfl, rfl, _, rfl, iteBF (by simp [optV]) ?_⟩
      refine ⟨_, rfl, _, rfl, log_small (ho n rfl) (by decide) (by decide), ?_⟩
      exact Pu.val k hB rfl
theorem ys_str {α : Type} {l : List α} {f : α → Str} {ys : List V} (hl : ys.length = l.length) (h : ∀ (i : Nat) (y : V), ys[i]? = some y → ∀ x, l[i]? = some x → y = .str (f x)) : ys = (l.map f).map V.str := by
  apply List.ext_getElem?
  intro i
  by_cases hi : i < ys.length
  · rw [List.getElem?_eq_getElem hi, List.getElem?_map, List.getElem?_map, List.getElem?_eq_getElem (show i < l.length by omega)]
    exact congrArg some (h i _ (List.getElem?_eq_getElem hi) _ (List.getElem?_eq_getElem (by omega)))
  · rw [List.getElem?_eq_none (by omega), List.getElem?_eq_none (by simp; omega)]
theorem sum_len : ∀ (ws : List Str) (k : Nat), (∀ w ∈ ws, w.length ≤ k) → (ws.map (·.length)).sum ≤ ws.length * k
  | [], _, _ => Nat.zero_le _
  | w :: ws, k, h => by
    have h1 := h w List.mem_cons_self
    have h2 := sum_len ws k fun x hx => h x (List.mem_cons_of_mem _ hx)
    rw [List.map_cons, List.sum_cons, List.length_cons, Nat.add_mul, Nat.one_mul]
    omega
/-- the limit of a join -/
theorem join_ok (ws : List Str) (k : Nat) (hk : ∀ w ∈ ws, w.length ≤ k) (hl : ws.length ≤ 1000) (hk2 : k ≤ 1000) : (ws.map (·.length)).sum + ws.length * sp1.length ≤ 16777216 := by
  have h1 := sum_len ws k hk
  have h2 : ws.length * k ≤ 1000 * 1000 := Nat.mul_le_mul hl hk2
  rw [show sp1.length = 1 by decide +kernel]
  omega
def numsT (ns : List Nat) : Str := Str.join sp1 (ns.map dg)
def sp_numbers_text (K : PySem.W.Frag) : Sp := Pu fun B vs R => ∃ (a : Addr) (ns : List Nat), vs = [.ref a] ∧ (SqL K B a (ns.map fun n : Nat => V.int (n : Int)) ∨ SqT K B a (ns.map fun n : Nat => V.int (n : Int))) ∧ ns.length ≤ 1000 ∧ (∀ n ∈ ns, n < 10 ^ 30) ∧ R = fun _ v => v = .str (numsT ns)
theorem lt30 {n : Nat} (h : n < 10 ^ 30) : n < 2 ^ 100 := Nat.lt_of_lt_of_le h (by decide)
theorem c_numbers_text (T : Txt w K mg) : Has P w K mg base "numbers_text" 1 ["numbers"] (sp_numbers_text K) := by
  refine Has.of T.f_numbers_text T.g_numbers_text sc_numbers_text (fun _ _ _ _ _ _ us hl => match us, hl with | [_], _ => rfl) (fun vs H Q E h => ?_) (fun f cdv A outer s H vs Q E hr h => ?_)
  · obtain ⟨B, R, hB, ⟨a, ns, rfl, _⟩, _⟩ := h; rfl
  · obtain ⟨B, R, hB, ⟨a, ns, rfl, ha, hl, hn, rfl⟩, k⟩ := h
    have fin : ∀ (B1 H1 : Hp) (ys : List V) (D : Addr), Ext B H B1 H1 → B1 D = some (.lst ys) → ys.length = ns.length → (∀ (i : Nat) (y : V), ys[i]? = some y → ∀ x, ns[i]? = some x → y = .str (dg x)) → ∃ a p, ∃ ws : List Str, V.str sp1 = V.str a ∧ [V.ref D] = [V.ref p] ∧ (SqL K H1 p (ws.map V.str) ∨ SqT K H1 p (ws.map V.str)) ∧
        (ws.map (·.length)).sum + ws.length * a.length ≤ 16777216 ∧ Q (.str (Txt.join a ws)) H1 := by
      intro B1 H1 ys D e1 hD hyl hys
      have ey := ys_str hyl hys
      refine ⟨sp1, D, ns.map dg, rfl, rfl, .inl (e1.w.seq (SqL.of (by rw [hD, ey]))), ?_, ?_⟩
      · refine join_ok _ 30 (fun w hw => ?_) (by rw [List.length_map]; exact hl) (by decide)
        obtain ⟨n, hm, rfl⟩ := List.mem_map.mp hw
        exact dg_len (by decide) (hn n hm)
      · refine k _ _ _ e1 ?_
        exact congrArg V.str (TL.join_eq _ _)
    rcases ha with ha | ha
    · refine ⟨_, (pss_one (ps_ret (pe_join pe_str (pe_lc (own := [("number", 1)]) (g := (gName 1)) rfl sc_numbers_text.nd (piL (K := K) rfl (pv 0)) (blkOk_by (by kernel_rfl)) (fun _ _ _ _ _ => (pg_name (i := 1) sc_numbers_text.nd rfl (.inl rfl))) (fun _ _ _ _ _ => pts_nil) (fun _ _ _ _ _ => (pe_callTy call_str_int (by rfl) T.b_str (by decide +kernel) (pa_cons (pv 1) pa_nil))))))), ?_⟩
      refine ⟨⟨_, rfl⟩, _, rfl, a, rfl, ⟨_, hB.seq ha⟩, fun D hD => lc_new (walk_list _) (fun i _ y => ∀ x, ns[i]? = some x → y = .str (dg x)) hB (fun H' s => s.seq ha) (by rw [List.length_map]; omega) hD (fun _ _ _ _ _ h => h) ?_ ?_⟩
      · intro i y B3 H3 H3' N hi e3 hy hN
        obtain ⟨rfl, hy⟩ := hy
        rw [List.getElem?_map] at hy
        obtain ⟨n, hn1, rfl⟩ := Option.map_eq_some_iff.mp hy
        refine ⟨rfl, ?_⟩
        refine ⟨_, rfl, _, rfl, log_small (lt30 (hn n (List.mem_of_getElem? hn1))) (by decide) (by decide), ?_⟩
        refine hN _ _ _ (Ext.refl e3.w) fun x hx => ?_
        rw [hn1] at hx
        obtain rfl := Option.some.inj hx
        rfl
      · intro B1 H1 ys e1 hD1 hl1 hys
        rw [List.length_map] at hl1
        exact fin B1 H1 ys D e1 hD1 hl1 hys
    · refine ⟨_, (pss_one (ps_ret (pe_join pe_str (pe_lc (own := [("number", 1)]) (g := (gName 1)) rfl sc_numbers_text.nd (piT (K := K) rfl (pv 0)) (blkOk_by (by kernel_rfl)) (fun _ _ _ _ _ => (pg_name (i := 1) sc_numbers_text.nd rfl (.inl rfl))) (fun _ _ _ _ _ => pts_nil) (fun _ _ _ _ _ => (pe_callTy call_str_int (by rfl) T.b_str (by decide +kernel) (pa_cons (pv 1) pa_nil))))))), ?_⟩
      refine ⟨⟨_, rfl⟩, _, rfl, a, rfl, ⟨_, hB.tup ha⟩, fun D hD => lc_new (walk_tup _) (fun i _ y => ∀ x, ns[i]? = some x → y = .str (dg x)) hB (fun H' s => s.tup ha) (by rw [List.length_map]; omega) hD (fun _ _ _ _ _ h => h) ?_ ?_⟩
      · intro i y B3 H3 H3' N hi e3 hy hN
        obtain ⟨rfl, hy⟩ := hy
        rw [List.getElem?_map] at hy
        obtain ⟨n, hn1, rfl⟩ := Option.map_eq_some_iff.mp hy
        refine ⟨rfl, ?_⟩
        refine ⟨_, rfl, _, rfl, log_small (lt30 (hn n (List.mem_of_getElem? hn1))) (by decide) (by decide), ?_⟩
        refine hN _ _ _ (Ext.refl e3.w) fun x hx => ?_
        rw [hn1] at hx
        obtain rfl := Option.some.inj hx
        rfl
      · intro B1 H1 ys e1 hD1 hl1 hys
        rw [List.length_map] at hl1
        exact fin B1 H1 ys D e1 hD1 hl1 hys
end
end BH
end
section
set_option Elab.async false
set_option linter.all false
set_option maxRecDepth 100000
set_option maxHeartbeats 4000000
namespace BH
open PySem PySem.Spec PyProof.Rows L2 BM
theorem ip_sub {X : Cx} : PIp X .Sub (rI0 fun i j => .int (i - j)) := iop_sub
theorem ip_add {X : Cx} : PIp X .Add (rI0 fun i j => .int (i + j)) := iop_add
theorem empty_app (a : Str) : Str.empty ++ a = a := by
  apply str_ext
  rw [cps_app]
  rfl
theorem wayC_cps (w : Bool) : wayC w = ⟨#[if w then 98 else 116]⟩ := by cases w <;> decide +kernel
theorem wayS_first (w : Bool) : (wayS w).cps.toList[0]? = some (if w then 98 else 116) := by cases w <;> decide +kernel
theorem wayS_len (w : Bool) : (wayS w).length ≤ sizeLine := by cases w <;> decide +kernel
theorem len1 (c : Nat) : (⟨#[c]⟩ : Str).length = 1 := rfl
theorem cut_init (a : Str) (c : Nat) : cutS (a ++ ⟨#[c]⟩) none (some (-1)) = a := by
  apply str_ext
  have hl : (a ++ ⟨#[c]⟩ : Str).length = a.length + 1 := by rw [len_app, len1]
  show ((a ++ ⟨#[c]⟩ : Str).cps.toList.drop (HT.sIx (a ++ ⟨#[c]⟩ : Str).length 0 none)).take (HT.sIx (a ++ ⟨#[c]⟩ : Str).length (a ++ ⟨#[c]⟩ : Str).length (some (-1)) - HT.sIx (a ++ ⟨#[c]⟩ : Str).length 0 none) = a.cps.toList
  have e : HT.sIx (a ++ ⟨#[c]⟩ : Str).length (a ++ ⟨#[c]⟩ : Str).length (some (-1)) = a.length := by
    show (if (-1 : Int) < 0 then ((-1 : Int) + ((a ++ ⟨#[c]⟩ : Str).length : Int)).toNat else min (-1 : Int).toNat (a ++ ⟨#[c]⟩ : Str).length) = _
    rw [if_pos (by decide), hl]
    omega
  rw [e, HT.sIx_none, List.drop_zero, Nat.sub_zero, cps_app]
  show (a.cps.toList ++ [c]).take a.cps.size = _
  rw [← Array.length_toList, List.take_left']
  rfl
theorem cut_last (a : Str) (c : Nat) : cutS (a ++ ⟨#[c]⟩) (some (-1)) none = ⟨#[c]⟩ := by
  apply str_ext
  have hl : (a ++ ⟨#[c]⟩ : Str).length = a.length + 1 := by rw [len_app, len1]
  show ((a ++ ⟨#[c]⟩ : Str).cps.toList.drop (HT.sIx (a ++ ⟨#[c]⟩ : Str).length 0 (some (-1)))).take (HT.sIx (a ++ ⟨#[c]⟩ : Str).length (a ++ ⟨#[c]⟩ : Str).length none - HT.sIx (a ++ ⟨#[c]⟩ : Str).length 0 (some (-1))) = [c]
  have e : HT.sIx (a ++ ⟨#[c]⟩ : Str).length 0 (some (-1)) = a.length := by
    show (if (-1 : Int) < 0 then ((-1 : Int) + ((a ++ ⟨#[c]⟩ : Str).length : Int)).toNat else min (-1 : Int).toNat (a ++ ⟨#[c]⟩ : Str).length) = _
    rw [if_pos (by decide), hl]
    omega
  rw [e, HT.sIx_none, cps_app, hl, Nat.add_sub_cancel_left]
  show ((a.cps.toList ++ [c]).drop a.cps.size).take 1 = _
  rw [← Array.length_toList, List.drop_left']
  · rfl
  · rfl
theorem railW_len {r : Rail} (h : r.1 ≤ 12) : (railW r).length ≤ 3 := by
  unfold railW
  rw [len_app, wayC_cps, len1]
  have := dg_len (n := r.1) (k := 2) (by decide) (by omega)
  omega
theorem clockW_len {c : Clk} (ok : c.Ok) : ∀ w ∈ clockW c, w.length ≤ 4 := by
  intro w hw
  rcases List.mem_cons.mp hw with e | e
  · rw [e, len_app, show (":" : Str).length = 1 by decide +kernel]
    have := dg_len (n := c.n) (k := 3) (by decide) (by have := ok.n100; omega)
    omega
  · obtain ⟨r, hr, rfl⟩ := List.mem_map.mp e
    have := railW_len (ok.b12 r hr)
    omega
theorem clockW_count {c : Clk} (ok : c.Ok) : (clockW c).length ≤ 4 := by
  unfold clockW
  rw [List.length_cons, List.length_map]
  have := ok.l3
  omega
section
variable {P : Program} {w : World} {K : PySem.W.Frag} {mg : Str → Option Value} {base : Heap}
def sp_format_clock (K : PySem.W.Frag) : Sp := Pu fun B vs R => ∃ (v : V) (c : Clk), vs = [v] ∧ CK K B v c ∧ c.Ok ∧ R = fun _ v => v = .str (clockT c)
theorem c_format_clock (T : Txt w K mg) : Has P w K mg base "format_clock" 1 ["clock"] (sp_format_clock K) := by
  refine Has.of T.f_format_clock T.g_format_clock sc_format_clock (fun _ _ _ _ _ _ us hl => match us, hl with | [_], _ => rfl) (fun vs H Q E h => ?_) (fun f cdv A outer s H vs Q E hr h => ?_)
  · obtain ⟨B, R, hB, ⟨v, c, rfl, _⟩, _⟩ := h; rfl
  · obtain ⟨B, R, hB, ⟨v, c, rfl, ⟨a, rv, rfl, ha, ⟨b, rls, rfl, hb, hp⟩⟩, ok, rfl⟩, k⟩ := h
    have hlr : rls.length = c.rs.length := Paired.length hp
    have hl3 := ok.l3
    have hn100 := ok.n100
    have hdl : (dg c.n).length ≤ 3 := dg_len (by decide) (by omega)
    refine ⟨_, (pss_one (ps_ret (pe_join pe_str (pe_lst (pa_cons (pe_joined (.cons (pe_fmt (pe_ix (xT (K := K) rfl) (pv 0) pe_int (fun _ _ => rfl))) (.cons pe_str .nil))) (StX.pa_star (pe_lc (own := [("bound", 1), ("way", 2)]) (g := (gTup K 2 (gCons (gName 1) (gCons (gName 2) gNil)))) rfl sc_format_clock.nd (piL (K := K) rfl (pe_ix (xT (K := K) rfl) (pv 0) pe_int (fun _ _ => rfl))) (blkOk_by (by kernel_rfl)) (fun _ _ _ _ _ => (pg_tup rfl (pgs_cons (pg_name (i := 1) sc_format_clock.nd rfl (.inl rfl)) (pgs_cons (pg_name (i := 2) sc_format_clock.nd rfl (.inl rfl)) pgs_nil)))) (fun _ _ _ _ _ => pts_nil) (fun _ _ _ _ _ => (pe_joined (.cons (pe_fmt (pv 1)) (.cons (pe_fmt (pe_ix ix_str (pv 2) pe_int (fun _ _ => rfl))) .nil))))) pa_nil)))))), ?_⟩
    refine ⟨⟨_, rfl⟩, _, rfl, a, _, 0, _, rfl, rfl, hB.tup ha, atI_nat (j := 0) rfl, .inr ⟨_, rfl, log_small (k := 10) (by omega) (by decide) (by decide), _, rfl, ?_, _, rfl, ?_, ?_⟩⟩
    · rw [empty_app]
      exact Nat.le_of_lt (small1000 (by have : (toString (c.n : Int) : Str).length ≤ 3 := hdl; omega))
    · rw [empty_app, len_app, show (":" : Str).length = 1 by decide +kernel]
      exact Nat.le_of_lt (small1000 (by have : (toString (c.n : Int) : Str).length ≤ 3 := hdl; omega))
    rw [empty_app]
    refine ⟨_, rfl, a, _, 1, _, rfl, rfl, hB.tup ha, atI_nat (j := 1) rfl, b, rfl, ⟨_, hB.seq hb⟩, fun D hD => lc_new (te := fun σ H Q => tJs _ Str.empty σ H fun out H1 => Q (.str out) H1) (walk_list rls) (fun i _ y => ∀ r, c.rs[i]? = some r → y = .str (railW r)) hB (fun H' s => s.seq hb) (by omega) hD (fun _ _ _ _ _ h => h) ?_ ?_⟩
    · intro i y B3 H3 H3' N hi e3 hy hN
      obtain ⟨rfl, hy⟩ := hy
      obtain ⟨r, hr1, q, rfl, hq⟩ := pat hp hy
      have h12 := ok.b12 r (List.mem_of_getElem? hr1)
      have hd2 : (dg r.1).length ≤ 2 := dg_len (by decide) (by omega)
      refine ⟨q, _, rfl, e3.bh.tup hq, rfl, _, _, rfl, _, _, rfl, rfl, rfl, ?_⟩
      refine ⟨_, rfl, .inr ⟨_, rfl, log_small (k := 10) (by omega) (by decide) (by decide), _, rfl, ?_, _, rfl, _, 0, _, rfl, rfl, wayS_len r.2, atI_nat (j := 0) (wayS_first r.2), .inl ⟨_, rfl, by rw [len1]; decide, _, rfl, ?_, ?_⟩⟩⟩
      · rw [empty_app]
        exact Nat.le_of_lt (small1000 (by have : (toString (r.1 : Int) : Str).length ≤ 2 := hd2; omega))
      · rw [empty_app, len_app, len1]
        exact Nat.le_of_lt (small1000 (by have : (toString (r.1 : Int) : Str).length ≤ 2 := hd2; omega))
      · refine hN _ _ _ (Ext.refl e3.w) fun r2 hr2 => ?_
        rw [hr1] at hr2
        obtain rfl := Option.some.inj hr2
        rw [empty_app]
        unfold railW
        rw [wayC_cps]
        rfl
    · intro B1 H1 ys e1 hD1 hl1 hys
      have ey := ys_str (f := railW) (l := c.rs) (by rw [hl1, hlr]) hys
      refine ⟨D, _, rfl, .inr (SqL.of (e1.w _ _ hD1)), ?_, fun p np => ?_⟩
      · simp only [List.length_append, List.length_cons, List.length_nil]
        exact small1000 (by omega)
      rw [List.append_nil]
      refine ⟨sp1, p, clockW c, rfl, rfl, .inl (SqL.of ?_), ?_, ?_⟩
      · rw [upd_same, ey]
        rfl
      · exact join_ok _ 4 (clockW_len ok) (by have := clockW_count ok; omega) (by decide)
      · exact k _ _ _ (e1.trans (Ext.tmp e1.w _ np)) (congrArg V.str (TL.join_eq _ _))
end
end BH
end
section
set_option Elab.async false
set_option linter.all false
set_option maxRecDepth 100000
set_option maxHeartbeats 4000000
namespace BH
open PySem PySem.Spec PyProof.Rows L2 BM
theorem rows_bounds {c : Clk} {s : Sg Nat} (ok : c.Ok) (vs : VS c s) : ∀ row ∈ rowsOf s, row.length ≤ c.n ∧ ∀ x ∈ row, x < c.n := by
  have hfl : (flat s).length = c.n := by rw [vs.perm.length_eq, List.length_range]
  intro row hrow
  constructor
  · have h1 := (List.sublist_flatten_of_mem hrow).length_le
    rw [rowsOf_flat, hfl] at h1
    exact h1
  · intro x hx
    exact List.mem_range.mp (vs.perm.mem_iff.mp (List.mem_flatten.mpr ⟨row, hrow, hx⟩))
theorem rowsW_app (a b : List (List Nat)) : rowsW (a ++ b) = rowsW a ++ rowsW b := by unfold rowsW; rw [List.flatMap_append]
theorem rowsW_one (r : List Nat) : rowsW [r] = ("|" : Str) :: r.map dg := by unfold rowsW; simp
theorem rowsW_len (rows : List (List Nat)) : (rowsW rows).length = rows.length + rows.flatten.length := by
  induction rows with
  | nil => rfl
  | cons r rows ih =>
    show ((("|" : Str) :: r.map dg) ++ rowsW rows).length = _
    rw [List.length_append, List.length_cons, List.length_map, ih, List.length_cons, List.flatten_cons, List.length_append]
    omega
theorem sightW_len {c : Clk} {s : Sg Nat} (ok : c.Ok) (vs : VS c s) : (sightW s).length ≤ 103 ∧ ∀ w ∈ sightW s, w.length ≤ 3 := by
  have hfl : (flat s).length = c.n := by rw [vs.perm.length_eq, List.length_range]
  have hn := ok.n100
  have hl := vs.len
  have hl3 := ok.l3
  constructor
  · unfold sightW
    rw [List.length_append, List.length_map, rowsW_len]
    unfold flat at hfl
    rw [List.length_append] at hfl
    omega
  · intro w hw
    have key : ∀ row ∈ rowsOf s, ∀ x ∈ row, (dg x).length ≤ 3 := by
      intro row hrow x hx
      have := (rows_bounds ok vs row hrow).2 x hx
      exact dg_len (by decide) (by omega)
    rcases List.mem_append.mp hw with e | e
    · obtain ⟨b, hb, rfl⟩ := List.mem_map.mp e
      exact key s.1 List.mem_cons_self b hb
    · obtain ⟨row, hrow, h⟩ := List.mem_flatMap.mp e
      rcases List.mem_cons.mp h with e | e
      · rw [e]; decide +kernel
      · obtain ⟨b, hb, rfl⟩ := List.mem_map.mp e
        exact key row (List.mem_cons_of_mem _ hrow) b hb
section
variable {P : Program} {w : World} {K : PySem.W.Frag} {mg : Str → Option Value} {base : Heap}
def sp_format_sight (K : PySem.W.Frag) : Sp := Pu fun B vs R => ∃ (v : V) (c : Clk) (s : Sg Nat), vs = [v] ∧ SG K B v s ∧ c.Ok ∧ VS c s ∧ R = fun _ v => v = .str (sightT s)
theorem c_format_sight (T : Txt w K mg) : Has P w K mg base "format_sight" 1 ["sight"] (sp_format_sight K) := by
  refine Has.of T.f_format_sight T.g_format_sight sc_format_sight (fun _ _ _ _ _ _ us hl => match us, hl with | [_], _ => rfl) (fun vs H Q E h => ?_) (fun f cdv A outer s0 H vs Q E hr h => ?_)
  · obtain ⟨B, R, hB, ⟨v, c, s, rfl, _⟩, _⟩ := h; rfl
  · obtain ⟨B, R, hB, ⟨v, c, s, rfl, ⟨x, rvs, rfl, hx, hps⟩, ok, vs, rfl⟩, k⟩ := h
    have hn100 := ok.n100
    have hl3 := ok.l3
    have hvl := vs.len
    have hrb := rows_bounds ok vs
    have hsw := sightW_len ok vs
    cases hps with
    | @cons q0 _ rvs _ hq0 hps =>
    obtain ⟨a0, rfl, ha0⟩ := hq0
    have hls : rvs.length = s.2.length := Paired.length hps
    have hb0 := hrb s.1 List.mem_cons_self
    refine ⟨_, (pss_cons (ps_setLc (i := 1) (own := [("ball", 3)]) (g := (gName 3)) rfl sc_format_sight.nd rfl rfl (sw_true rfl rfl rfl (by decide +kernel)) (piL (K := K) rfl (pe_ix (xL (K := K) rfl) (pv 0) pe_int (fun _ _ => rfl))) (blkOk_by (by kernel_rfl)) (fun _ _ _ _ _ => (pg_name (i := 3) sc_format_sight.nd rfl (.inl rfl))) (fun _ _ _ _ _ => pts_nil) (fun _ _ _ _ _ => (pe_callTy call_str_int (by rfl) T.b_str (by decide +kernel) (pa_cons (pv 3) pa_nil))))
      (pss_cons (ps_for PassesOwn.never rfl (piL (K := K) rfl (pe_slice (slL (K := K) rfl) (pv 0) (po_some pe_int) po_none)) (pg_name (i := 2) sc_format_sight.nd rfl (.inl rfl))
      (pss_one (ps_expr (pe_bm PySem.F.plainAttrs_list PySem.F.slot_list_extend PySem.F.type_list_extend mt_extend (pv 1) (pa_cons (pe_lst (pa_cons pe_str (StX.pa_star (pe_lc (own := [("ball", 3)]) (g := (gName 3)) rfl sc_format_sight.nd (piL (K := K) rfl (pv 2)) (blkOk_by (by kernel_rfl)) (fun _ _ _ _ _ => (pg_name (i := 3) sc_format_sight.nd rfl (.inl rfl))) (fun _ _ _ _ _ => pts_nil) (fun _ _ _ _ _ => (pe_callTy call_str_int (by rfl) T.b_str (by decide +kernel) (pa_cons (pv 3) pa_nil)))) pa_nil))) pa_nil)))))
      (pss_one (ps_ret (pe_join pe_str (pv 1)))))), ?_⟩
    refine ⟨_, rfl, x, _, 0, _, rfl, rfl, hB.seq hx, atI_nat (j := 0) rfl, a0, rfl, ⟨_, hB.seq ha0⟩, fun D hD => lc_mine (walk_list _) (fun i _ y => ∀ b, s.1[i]? = some b → y = .str (dg b)) hB (fun H' e => e.seq ha0) (by rw [List.length_map]; omega) hD (fun _ _ _ _ _ h => h) ?_ ?_⟩
    · intro i y B3 H3 H3' N hi e3 hy hN
      obtain ⟨rfl, hy⟩ := hy
      rw [List.getElem?_map] at hy
      obtain ⟨b, hb, rfl⟩ := Option.map_eq_some_iff.mp hy
      have hbn := hb0.2 b (List.mem_of_getElem? hb)
      refine ⟨rfl, ?_⟩
      refine ⟨_, rfl, _, rfl, log_small (k := 10) (by omega) (by decide) (by decide), ?_⟩
      refine hN _ _ _ (Ext.refl e3.w) fun b2 hb2 => ?_
      rw [hb] at hb2
      obtain rfl := Option.some.inj hb2
      rfl
    intro B1 H1 ys e1 m1 hl1 hys
    rw [List.length_map] at hl1
    obtain rfl := ys_str (f := dg) (l := s.1) hl1 hys
    refine ⟨_, rfl, 1, rfl, x, _, rfl, e1.bh.seq hx, fun d nd => ?_⟩
    have e2 := Ext.new e1.w (.lst (cutV (.ref a0 :: rvs) (some 1) none)) nd
    have E2 := e1.trans e2
    have m2 := m1.ext e2
    rw [cut1, drop1_cons] at *
    refine ⟨d, rfl, ⟨_, SqL.of upd_same⟩, for_it (walk_list rvs) (fun i σ' H' => ∃ (B' : Hp) (v2 : Option V), σ' = [some (.ref x), some (.ref D), v2, none] ∧ Ext B H B' H' ∧ B' d = some (.lst rvs) ∧ Mine H B' H' D (.lst ((s.1.map dg ++ rowsW (s.2.take i)).map V.str)))
      ⟨_, none, rfl, E2, upd_same, ?_⟩ (fun i σ' H' _ ⟨B', _, _, e, hd, _⟩ => e.w.seq (SqL.of hd)) ?_ ?_⟩
    · rw [List.take_zero, show rowsW [] = [] from rfl, List.append_nil]
      exact m2
    · rintro i y σ' H3 H3' hi ⟨B3, v2, rfl, e3, hd3, m3⟩ ⟨rfl, hy⟩
      obtain ⟨row, hrow, ra, rfl, hra⟩ := pat hps hy
      have hrb1 := hrb row (List.mem_cons_of_mem _ (List.mem_of_getElem? hrow))
      refine ⟨_, rfl, .inl ⟨rfl, _, SqL.of m3.h⟩, _, rfl, ra, rfl, ⟨_, e3.bh.seq hra⟩, fun D2 hD2 => lc_new (walk_list _) (fun i _ y => ∀ b, row[i]? = some b → y = .str (dg b)) e3.w (fun H' e => e.seq (e3.b.seq hra)) (by rw [List.length_map]; omega) hD2 (fun _ _ _ _ _ h => h) ?_ ?_⟩
      · intro j y B4 H4 H4' N hj e4 hy hN
        obtain ⟨rfl, hy⟩ := hy
        rw [List.getElem?_map] at hy
        obtain ⟨b, hb, rfl⟩ := Option.map_eq_some_iff.mp hy
        have hbn := hrb1.2 b (List.mem_of_getElem? hb)
        refine ⟨rfl, ?_⟩
        refine ⟨_, rfl, _, rfl, log_small (k := 10) (by omega) (by decide) (by decide), ?_⟩
        refine hN _ _ _ (Ext.refl e4.w) fun b2 hb2 => ?_
        rw [hb] at hb2
        obtain rfl := Option.some.inj hb2
        rfl
      intro B4 H4 ys e4 hD4 hl4 hys
      rw [List.length_map] at hl4
      obtain rfl := ys_str (f := dg) (l := row) hl4 hys
      have m4 := m3.ext e4
      have E4 := e3.trans e4
      refine ⟨D2, _, rfl, .inr (SqL.of (e4.w _ _ hD4)), ?_, fun p np => ?_⟩
      · simp only [List.length_append, List.length_cons, List.length_nil, List.length_map]
        exact small1000 (by omega)
      rw [List.append_nil]
      have e5 := Ext.tmp e4.w (.lst (.str "|" :: (row.map dg).map V.str)) np
      have m5 := m4.ext e5
      have E5 := E4.trans e5
      have hnew : s.1.map dg ++ rowsW (s.2.take (i + 1)) = (s.1.map dg ++ rowsW (s.2.take i)) ++ (("|" : Str) :: row.map dg) := by
        rw [take_snoc hrow, rowsW_app, rowsW_one, List.append_assoc]
      have hlw : (s.1.map dg ++ rowsW (s.2.take (i + 1))).length ≤ (sightW s).length := by
        have : sightW s = (s.1.map dg ++ rowsW (s.2.take (i + 1))) ++ rowsW (s.2.drop (i + 1)) := by
          unfold sightW
          rw [List.append_assoc, ← rowsW_app, List.take_append_drop]
        rw [this]
        simp only [List.length_append]
        omega
      rw [hnew, List.length_append] at hlw
      refine ⟨D, p, _, _, rfl, rfl, m5.h, upd_same, ?_, ?_⟩
      · simp only [List.length_cons, List.length_map, List.length_append] at hlw ⊢
        exact Nat.le_of_lt (small1000 (by omega))
      · refine ⟨B4, _, rfl, m5.set E5 _, e4.b _ _ hd3, ?_⟩
        rw [hnew, List.map_append (l₁ := s.1.map dg ++ rowsW (s.2.take i)) (l₂ := ("|" : Str) :: row.map dg)]
        exact m5.put _
    · rintro σ' H3 ⟨B3, v2, rfl, e3, hd3, m3⟩
      rw [List.take_of_length_le (show s.2.length ≤ rvs.length by omega)] at m3
      refine ⟨⟨_, rfl⟩, _, rfl, sp1, D, sightW s, rfl, rfl, .inl (SqL.of m3.h), join_ok _ 3 hsw.2 (by omega) (by decide), ?_⟩
      exact k _ _ _ (m3.frz e3) (congrArg V.str (TL.join_eq _ _))
def sp_rail_of (K : PySem.W.Frag) : Sp := Pu fun B vs R => ∃ r : Rail, vs = [.str (railW r)] ∧ 2 ≤ r.1 ∧ r.1 ≤ 12 ∧ R = fun B' v => RL K B' v r
theorem c_rail_of (T : Txt w K mg) : Has P w K mg base "rail_of" 2 ["word"] (sp_rail_of K) := by
  refine Has.of T.f_rail_of T.g_rail_of sc_rail_of (fun _ _ _ _ _ _ us hl => match us, hl with | [_], _ => rfl) (fun vs H Q E h => ?_) (fun f cdv A outer s0 H vs Q E hr h => ?_)
  · obtain ⟨B, R, hB, ⟨r, rfl, _⟩, _⟩ := h; rfl
  · obtain ⟨B, R, hB, ⟨r, rfl, h2, h12, rfl⟩, k⟩ := h
    obtain ⟨bd, wy⟩ := r
    have hls : (railW (bd, wy)).length ≤ sizeLine := Nat.le_of_lt (small1000 (by have := railW_len (r := (bd, wy)) h12; omega))
    have hrw : railW (bd, wy) = dg bd ++ ⟨#[if wy then 98 else 116]⟩ := by unfold railW; rw [wayC_cps]
    refine ⟨_, (pss_cons (ps_par (i := 1) (j := 2) rfl sc_rail_of.nd rfl rfl (by decide) rfl rfl (pa_cons (pc (c_natural_of T) hr (pa_cons (pe_slice sl_str (pv 0) po_none (po_some (pe_un un_neg pe_int))) pa_nil)) (pa_cons (pe_getK T.kdL.choose_spec.choose_spec (pe_glob (v := .ref (He.ga K "LETTERS")) rfl T.g_LETTERS rfl) (pe_slice sl_str (pv 0) (po_some (pe_un un_neg pe_int)) po_none)) pa_nil)) (by rfl))
      (pss_one (ps_ret (pe_ifExp (PW.pt (pw_or (pt_cmpR op_isN (pv 1) pe_non (nomark _)) (pw_or (pt_cmpR op_lt (pv 1) pe_int (nomark _)) (pw_or1 (pt_cmpR op_isN (pv 2) pe_non (nomark _)))))) pe_non (pe_tup (pa_cons (pv 1) (pa_cons (pv 2) pa_nil))))))), ?_⟩
    refine ⟨_, rfl, _, rfl, _, rfl, _, rfl, hls, ?_⟩
    rw [hrw, cut_init]
    refine ⟨B, _, hB, ⟨bd, rfl, Nat.lt_of_le_of_lt h12 (by decide), rfl⟩, fun B1 H1 v1 e1 hv1 => ?_⟩
    subst hv1
    refine ⟨rfl, _, rfl, _, rfl, _, rfl, _, rfl, by rw [← hrw]; exact hls, ?_⟩
    rw [cut_last]
    have h2' : (2 : Int) ≤ (bd : Int) := by have : 2 ≤ bd := h2; omega
    have hget : ∃ r : Option Value, PySem.W.nsIn K (He.ga K "LETTERS") ⟨#[if wy then 98 else 116]⟩ = some r ∧ L2.RelV (.str (wayS wy)) (r.getD .none) := by
      cases wy with
      | true =>
        obtain ⟨t, ht⟩ := T.letB
        exact ⟨_, by rw [show (⟨#[if true then 98 else 116]⟩ : Str) = "b" by decide +kernel]; exact ht, ⟨t, rfl⟩⟩
      | false =>
        obtain ⟨t, ht⟩ := T.letT
        exact ⟨_, by rw [show (⟨#[if false then 98 else 116]⟩ : Str) = "t" by decide +kernel]; exact ht, ⟨t, rfl⟩⟩
    obtain ⟨r, hr1, hr2⟩ := hget
    refine ⟨_, r, .str (wayS wy), rfl, hr1, hr2, _, _, rfl, ?_⟩
    refine ⟨_, rfl, rfl, _, rfl, iteBF (by simp) ?_⟩
    refine ⟨_, rfl, _, _, rfl, rfl, _, rfl, iteBF (decide_eq_false (by omega)) ?_⟩
    refine ⟨_, rfl, rfl, _, rfl, iteBF (by simp) ?_⟩
    refine ⟨_, rfl, _, rfl, by show 2 ≤ sizeLine; decide, fun p np => ?_⟩
    exact k _ _ _ (e1.trans (Ext.new e1.w _ np)) ⟨p, rfl, SqT.of upd_same⟩
def lefts (rs : List Rail) : Nat := (rs.map fun r => r.1 - 1).sum
theorem need_lefts (rs : List Rail) : need rs = lefts rs + 1 := by
  induction rs with
  | nil => rfl
  | cons r rs ih =>
    obtain ⟨b, w⟩ := r
    show (b - 1) + need rs = (b - 1) + lefts rs + 1
    omega
theorem lefts_take {rs : List Rail} {i : Nat} {r : Rail} (h : rs[i]? = some r) : lefts (rs.take (i + 1)) = lefts (rs.take i) + (r.1 - 1) := by
  unfold lefts
  rw [take_snoc h, List.map_append, List.sum_append]
  simp
theorem lefts_le (rs : List Rail) (i : Nat) : lefts (rs.take i) ≤ lefts rs := by
  have : lefts rs = lefts (rs.take i) + lefts (rs.drop i) := by
    unfold lefts
    rw [← List.sum_append, ← List.map_append, List.take_append_drop]
  omega
def sp_parse_clock (K : PySem.W.Frag) : Sp := Pu fun B vs R => ∃ c : Clk, vs = [.str (clockT c)] ∧ c.Ok ∧ R = fun B' v => CK K B' v c
theorem c_parse_clock (T : Txt w K mg) : Has P w K mg base "parse_clock" 3 ["text"] (sp_parse_clock K) := by
  refine Has.of T.f_parse_clock T.g_parse_clock sc_parse_clock (fun _ _ _ _ _ _ us hl => match us, hl with | [_], _ => rfl) (fun vs H Q E h => ?_) (fun f cdv A outer s0 H vs Q E hr h => ?_)
  · obtain ⟨B, R, hB, ⟨c, rfl, _⟩, _⟩ := h; rfl
  · obtain ⟨B, R, hB, ⟨c, rfl, ok, rfl⟩, k⟩ := h
    have hn100 := ok.n100
    have hn2 := ok.n2
    have hl3 := ok.l3
    have hnd := ok.need
    rw [need_lefts] at hnd
    have hcl := clockW_len ok
    have hcc := clockW_count ok
    have hjl : (Str.join sp1 (clockW c)).length ≤ 100000 := by
      have := join_len (clockW c) 4 hcl
      omega
    refine ⟨_, (pss_cons (ps_set (i := 1) sc_parse_clock.nd rfl (.inl rfl) (pc (c_words_of T) hr (pa_cons (pv 0) pa_nil)))
      (pss_cons (ps_set (i := 2) sc_parse_clock.nd rfl (.inl rfl) (pe_ifExp (pt_cmpR op_eq (pe_slice sl_str (pe_ix (xL (K := K) rfl) (pv 1) pe_int (fun _ _ => rfl)) (po_some (pe_un un_neg pe_int)) po_none) pe_str (nomark _)) (pc (c_natural_of T) hr (pa_cons (pe_slice sl_str (pe_ix (xL (K := K) rfl) (pv 1) pe_int (fun _ _ => rfl)) po_none (po_some (pe_un un_neg pe_int))) pa_nil)) pe_non))
      (pss_cons (ps_if (PW.pt (pw_or (pt_cmpR op_isN (pv 2) pe_non (nomark _)) (pw_or1 (pt_not (pt_chain op_le op_le pe_int (pv 2) (pe_glob (v := .int 100) rfl T.mostBalls.choose_spec ⟨_, rfl⟩)))))) (pss_one ps_never) pss_nil)
      (pss_cons (ps_par (i := 3) (j := 4) rfl sc_parse_clock.nd rfl rfl (by decide) rfl rfl (pa_cons (pe_lst pa_nil) (pa_cons (pe_op op_sub (pv 2) pe_int) pa_nil)) (by rfl))
      (pss_cons (ps_for PassesOwn.never rfl (pi_enum1 rfl T.b_enumerate (pe_slice (slL (K := K) rfl) (pv 1) (po_some pe_int) po_none)) (pg_tup rfl (pgs_cons (pg_name (i := 5) sc_parse_clock.nd rfl (.inl rfl)) (pgs_cons (pg_name (i := 6) sc_parse_clock.nd rfl (.inl rfl)) pgs_nil)))
      (pss_cons (ps_set (i := 7) sc_parse_clock.nd rfl (.inl rfl) (pc (c_rail_of T) hr (pa_cons (pv 6) pa_nil)))
      (pss_cons (ps_if (PW.pt (pw_or (pt_cmpR op_isN (pv 7) pe_non (nomark _)) (pw_or1 (pt_cmpR op_gt (pe_op op_sub (pe_ix (xT (K := K) rfl) (pv 7) pe_int (fun _ _ => rfl)) pe_int) (pv 4) (nomark _))))) (pss_one ps_never) pss_nil)
      (pss_cons (ps_expr (pe_bm PySem.F.plainAttrs_list PySem.F.slot_list_append PySem.F.type_list_append mt_append (pv 3) (pa_cons (pv 7) pa_nil)))
      (pss_one (ps_aug (i := 4) sc_parse_clock.nd rfl (.inl rfl) (pe_op op_sub (pe_ix (xT (K := K) rfl) (pv 7) pe_int (fun _ _ => rfl)) pe_int) ip_sub))))))
      (pss_cons (ps_if (pt_cmpR (op_eqE hr.units0) (pv 3) (pe_lst pa_nil) (nomark _)) (pss_one ps_never) pss_nil)
      (pss_one (ps_ret (pe_tup (pa_cons (pv 2) (pa_cons (pv 3) pa_nil))))))))))), ?_⟩
    refine ⟨_, rfl, B, _, hB, ⟨clockW c, rfl, by simp [clockW], clockW_free c, hjl, rfl⟩, fun B1 H1 v1 e1 hv1 => ?_⟩
    obtain ⟨wa, rfl, hwa⟩ := hv1
    have hw0 : dg c.n ++ (":" : Str) = dg c.n ++ ⟨#[58]⟩ := by rw [show (":" : Str) = ⟨#[58]⟩ by decide +kernel]
    have hat0 : ((clockW c).map V.str)[0]? = some (.str (dg c.n ++ ⟨#[58]⟩)) := by rw [← hw0]; rfl
    have hls : (dg c.n ++ ⟨#[58]⟩ : Str).length ≤ sizeLine := by
      rw [← hw0]
      exact Nat.le_of_lt (small1000 (by have := hcl _ (List.mem_cons_self (a := dg c.n ++ (":" : Str)) (l := c.rs.map railW)); omega))
    -- balls
    refine ⟨_, rfl, wa, _, 0, _, rfl, rfl, e1.w.seq hwa, atI_nat (j := 0) hat0, _, rfl, _, rfl, _, rfl, hls, rfl, _, rfl, iteB ?_ ?_⟩
    · rw [cut_last]
      exact decide_eq_true (by rw [show (":" : Str) = ⟨#[58]⟩ by decide +kernel])
    refine ⟨_, rfl, wa, _, 0, _, rfl, rfl, e1.w.seq hwa, atI_nat (j := 0) hat0, _, rfl, _, rfl, _, rfl, hls, ?_⟩
    rw [cut_init]
    refine ⟨B1, _, e1.w, ⟨c.n, rfl, Nat.lt_of_le_of_lt hn100 (by decide), rfl⟩, fun B2 H2 v2 e2 hv2 => ?_⟩
    subst hv2
    have E2 := e1.trans e2
    refine ⟨_, rfl, rfl, _, rfl, iteBF (by simp) ?_⟩
    refine ⟨_, rfl, _, _, rfl, rfl, _, rfl, iteB (decide_eq_true (by omega)) ⟨_, _, rfl, rfl, _, rfl, iteBF (by rw [decide_eq_true (by omega)]; rfl) ?_⟩⟩
    -- rails, left
    refine ⟨by show 0 ≤ sizeLine; decide, fun l nl => ?_⟩
    have e3 := Ext.tmp e2.w (.lst []) nl
    have E3 := E2.trans e3
    have m3 := Mine.new (o := .lst []) E2 nl
    refine ⟨_, rfl, _, _, rfl, rfl, _, _, rfl, ?_⟩
    have hdrop : ((clockW c).map V.str).drop 1 = c.rs.map fun r => V.str (railW r) := by
      unfold clockW
      rw [List.map_cons, drop1_cons, List.map_map]
      rfl
    refine ⟨_, rfl, 1, rfl, wa, _, rfl, e3.w.seq (e2.b.seq hwa), fun d nd => ?_⟩
    have e4 := Ext.new e3.w (.lst (cutV ((clockW c).map V.str) (some 1) none)) nd
    have E4 := E3.trans e4
    have m4 := m3.ext e4
    rw [cut1, hdrop] at *
    refine ⟨d, _, rfl, SqL.of upd_same, for_it (walk_enum1 _) (fun i σ' H' => ∃ (B' : Hp) (rvs : List V) (v5 v6 v7 : Option V), σ' = [some (.str (clockT c)), some (.ref wa), some (.int (c.n : Int)), some (.ref l), some (.int ((c.n - 1 - lefts (c.rs.take i) : Nat) : Int)), v5, v6, v7] ∧ Ext B H B' H' ∧ B' d = some (.lst (c.rs.map fun r => V.str (railW r))) ∧ Mine H B' H' l (.lst rvs) ∧ Paired (RL K B') rvs (c.rs.take i))
      ⟨_, [], none, none, none, ?_, E4, upd_same, m4, .nil⟩ (fun i σ' H' _ ⟨B', _, _, _, _, _, e, hd, _⟩ => e.w.seq (SqL.of hd)) ?_ ?_⟩
    · have e : (c.n : Int) - 1 = ((c.n - 1 - lefts (c.rs.take 0) : Nat) : Int) := by
        show _ = ((c.n - 1 - 0 : Nat) : Int)
        omega
      rw [← e]
      rfl
    · rintro i y σ' H3 H3' hi ⟨B3, rvs, v5, v6, v7, rfl, e5, hd5, m5, hpr⟩ ⟨Tp, z, rfl, nT, rfl, hz⟩
      rw [List.getElem?_map] at hz
      obtain ⟨r, hr1, rfl⟩ := Option.map_eq_some_iff.mp hz
      have h2 := ok.two r (List.mem_of_getElem? hr1)
      have h12 := ok.b12 r (List.mem_of_getElem? hr1)
      have hlt := lefts_take hr1
      have hle := lefts_le c.rs (i + 1)
      have e6 := Ext.tmp e5.w (.tup [.int (1 + (i : Nat)), .str (railW r)]) nT
      have E6 := e5.trans e6
      have m6 := m5.ext e6
      refine ⟨Tp, _, rfl, SqT.of upd_same, rfl, _, _, rfl, _, _, rfl, rfl, ?_⟩
      refine ⟨_, rfl, B3, _, e6.w, ⟨r, rfl, h2, h12, rfl⟩, fun B7 H7 v7 e7 hv7 => ?_⟩
      obtain ⟨q, rfl, hq⟩ := hv7
      have E7 := E6.trans e7
      have m7 := m6.ext e7
      refine ⟨_, rfl, rfl, _, rfl, iteBF (by simp) ?_⟩
      refine ⟨_, rfl, q, _, 0, _, rfl, rfl, e7.w.tup hq, atI_nat (j := 0) rfl, _, _, rfl, rfl, _, rfl, _, _, rfl, rfl, _, rfl, iteBF (decide_eq_false (by omega)) ?_⟩
      have hrl : rvs.length ≤ 3 := by
        rw [Paired.length hpr, List.length_take]
        omega
      refine ⟨_, rfl, .inl ⟨rfl, _, SqL.of m7.h⟩, _, rfl, l, _, _, rfl, rfl, m7.h, small1000 (by omega), ?_⟩
      have e8 := m7.set E7 (.lst (rvs ++ [.ref q]))
      have m8 := m7.put (.lst (rvs ++ [.ref q]))
      refine ⟨_, rfl, _, rfl, q, _, 0, _, rfl, rfl, e8.w.tup hq, atI_nat (j := 0) rfl, _, _, rfl, rfl, _, _, rfl, rfl, ?_⟩
      refine ⟨B7, rvs ++ [.ref q], some (.int (1 + (i : Int))), some (.str (railW r)), some (.ref q), ?_, e8, e7.b _ _ hd5, m8, ?_⟩
      · have e : ((c.n - 1 - lefts (c.rs.take i) : Nat) : Int) - ((r.1 : Int) - 1) = ((c.n - 1 - lefts (c.rs.take (i + 1)) : Nat) : Int) := by omega
        rw [← e]
        rfl
      · rw [take_snoc hr1]
        exact paired_app (Paired.mapP hpr fun _ _ h => h.mono e7.b) (.cons ⟨q, rfl, hq⟩ .nil)
    · rintro σ' H3 ⟨B3, rvs, v5, v6, v7, rfl, e5, hd5, m5, hpr⟩
      rw [List.take_of_length_le (by rw [List.length_map]; exact Nat.le_refl _)] at hpr
      refine ⟨_, rfl, by show 0 ≤ sizeLine; decide, fun z nz => ?_⟩
      have e6 := Ext.tmp e5.w (.lst []) nz
      have E6 := e5.trans e6
      have m6 := m5.ext e6
      have ne : rvs.isEmpty = false := by
        cases rvs with
        | nil =>
          have := Paired.length hpr
          exact absurd (List.length_eq_zero_iff.mp this.symm) ok.ne
        | cons _ _ => rfl
      refine ⟨l, z, rvs, rfl, rfl, .inl ⟨SqL.of m6.h, SqL.of upd_same⟩, _, rfl, iteBF (by rw [ne]; rfl) ?_⟩
      refine ⟨_, rfl, _, rfl, by show 2 ≤ sizeLine; decide, fun p np => ?_⟩
      have e7 := m6.frz E6
      have hb7 := m6.frz1
      have e8 := e7.trans (Ext.new e7.w (.tup [.int (c.n : Int), .ref l]) np)
      have hb8 : Same (upd B3 l (.lst rvs)) (upd (upd B3 l (.lst rvs)) p (.tup [.int (c.n : Int), .ref l])) := (Ext.new e7.w (.tup [.int (c.n : Int), .ref l]) np).b
      exact k _ _ _ e8 ⟨p, _, rfl, SqT.of upd_same, l, rvs, rfl, hb8.seq (SqL.of upd_same), Paired.mapP hpr fun _ _ h => (h.mono hb7).mono hb8⟩
def sp_clock_values (K : PySem.W.Frag) : Sp := Pu fun B vs R => ∃ c : Clk, vs = [.str (clockT c)] ∧ c.Ok ∧ R = fun B' v => ∃ a cv, v = .ref a ∧ SqL K B' a [cv] ∧ CK K B' cv c
theorem c_clock_values (T : Txt w K mg) : Has P w K mg base "clock_values" 4 ["text"] (sp_clock_values K) := by
  refine Has.of T.f_clock_values T.g_clock_values sc_clock_values (fun _ _ _ _ _ _ us hl => match us, hl with | [_], _ => rfl) (fun vs H Q E h => ?_) (fun f cdv A outer s0 H vs Q E hr h => ?_)
  · obtain ⟨B, R, hB, ⟨c, rfl, _⟩, _⟩ := h; rfl
  · obtain ⟨B, R, hB, ⟨c, rfl, ok, rfl⟩, k⟩ := h
    refine ⟨_, (pss_one (ps_try_thru0 (pss_one (ps_ret (pe_lst (pa_cons (pc (c_parse_clock T) hr (pa_cons (pv 0) pa_nil)) pa_nil)))))), ?_⟩
    refine ⟨_, rfl, B, _, hB, ⟨c, rfl, ok, rfl⟩, fun B1 H1 v1 e1 hv1 => ?_⟩
    refine ⟨by show 1 ≤ sizeLine; decide, fun p np => ?_⟩
    have e2 := Ext.new e1.w (.lst [v1]) np
    exact k _ _ _ (e1.trans e2) ⟨p, v1, rfl, SqL.of upd_same, hv1.mono e2.b⟩
def sp_ball_written (K : PySem.W.Frag) : Sp := fun vs H Q _ => ∃ (B : Hp) (cv : V) (c : Clk) (b : Nat) (d : Addr) (l : List Nat), Same B H ∧ vs = [cv, .str (dg b), .ref d] ∧ CK K B cv c ∧ b < c.n ∧ c.n ≤ 100 ∧ b ∉ l ∧ H d = some (.dK (seenK l)) ∧ ∀ B' H', Ext B H B' H' → Q (.int (b : Int)) H'
theorem c_ball_written (T : Txt w K mg) : Has P w K mg base "ball_written" 2 ["clock", "word", "seen"] (sp_ball_written K) := by
  refine Has.of T.f_ball_written T.g_ball_written sc_ball_written (fun _ _ _ _ _ _ us hl => match us, hl with | [_, _, _], _ => rfl) (fun vs H Q E h => ?_) (fun f cdv A outer s0 H vs Q E hr h => ?_)
  · obtain ⟨B, cv, c, b, d, l, hB, rfl, _⟩ := h; rfl
  · obtain ⟨B, cv, c, b, d, l, hB, rfl, ⟨a, rv, rfl, ha, hrv⟩, hb, hn, hbl, hd, k⟩ := h
    have hu := hu_of hr
    refine ⟨_, (pss_cons (ps_set (i := 3) sc_ball_written.nd rfl (.inl rfl) (pc (c_natural_of T) hr (pa_cons (pv 1) pa_nil)))
      (pss_one (ps_ret (pe_ifExp (PW.pt (pw_or (pt_cmpR op_isN (pv 3) pe_non (nomark _)) (pw_or (pt_cmpR op_ge (pv 3) (pe_ix (xT (K := K) rfl) (pv 0) pe_int (fun _ _ => rfl)) (nomark _)) (pw_or1 (pt_cmp (pc_din hu (pv 3) (pv 2))))))) pe_non (pv 3))))), ?_⟩
    refine ⟨_, rfl, B, _, hB, ⟨b, rfl, Nat.lt_trans (show b < 100 by omega) (by decide), rfl⟩, fun B1 H1 v1 e1 hv1 => ?_⟩
    subst hv1
    refine ⟨_, rfl, rfl, _, rfl, iteBF (by simp) ?_⟩
    refine ⟨_, rfl, _, rfl, a, _, 0, _, rfl, rfl, e1.bh.tup ha, atI_nat (j := 0) rfl, _, _, rfl, rfl, _, rfl, iteBF (decide_eq_false (by omega)) ?_⟩
    refine ⟨_, rfl, _, rfl, d, _, rfl, DGet.k (k := Sum.inl (b : Int)) (e1.h _ _ hd), _, rfl, iteBF (by rw [seen_not hbl]; rfl) ?_⟩
    exact ⟨_, rfl, k _ _ e1⟩
end
end BH
end
section
set_option Elab.async false
set_option linter.all false
set_option maxRecDepth 100000
set_option maxHeartbeats 4000000
namespace BH
open PySem PySem.Spec PyProof.Rows L2 BM
theorem atI_last {xs : List V} {x : V} : atI (xs ++ [x]) (-1) = some x := by
  unfold atI ixN
  rw [if_neg (by decide), List.length_append, List.length_singleton, if_pos (by omega)]
  show (xs ++ [x])[((-1 : Int) + ((xs.length + 1 : Nat) : Int)).toNat]? = some x
  rw [show ((-1 : Int) + ((xs.length + 1 : Nat) : Int)).toNat = xs.length by omega, List.getElem?_append_right (Nat.le_refl _), Nat.sub_self]
  rfl
theorem lefts_sum : ∀ {rs : List Rail}, two rs → (rs.map fun r : Rail => (r.1 : Int) - 1).sum = (lefts rs : Nat)
  | [], _ => rfl
  | r :: rs, h => by
    have h1 := h r List.mem_cons_self
    have h2 := lefts_sum (rs := rs) fun x hx => h x (List.mem_cons_of_mem _ hx)
    rw [List.map_cons, List.sum_cons, h2]
    show (r.1 : Int) - 1 + (lefts rs : Nat) = ((r.1 - 1 + lefts rs : Nat) : Int)
    omega
theorem fits_rest : ∀ {rs : List Rail} {R : List (List Nat)}, fits rs (R.map List.length) → R.flatten.length ≤ lefts rs
  | [], [], _ => Nat.le_refl _
  | [], _ :: _, h => h.elim
  | _ :: _, [], h => h.elim
  | (b, w) :: rs, r :: R, h => by
    have h1 := fits_rest h.2
    have h2 : r.length < b := h.1
    rw [List.flatten_cons, List.length_append]
    show _ ≤ (b - 1) + lefts rs
    omega
theorem fits_drop : ∀ {rs : List Rail} {cs : List Nat} (i : Nat), fits rs cs → fits (rs.drop i) (cs.drop i)
  | _, _, 0, h => h
  | [], [], _ + 1, _ => trivial
  | [], _ :: _, _, h => h.elim
  | _ :: _, [], _, h => h.elim
  | _ :: _, _ :: _, i + 1, h => fits_drop i h.2
theorem lefts_drop {rs : List Rail} {i : Nat} {r : Rail} (h : rs[i]? = some r) : lefts (rs.drop i) = (r.1 - 1) + lefts (rs.drop (i + 1)) := by
  obtain ⟨h1, h2⟩ := List.getElem?_eq_some_iff.mp h
  rw [List.drop_eq_getElem_cons h1, h2]
  rfl
section
variable {P : Program} {w : World} {K : PySem.W.Frag} {mg : Str → Option Value} {base : Heap}
def sp_parse_sight (K : PySem.W.Frag) : Sp := Pu fun B vs R => ∃ (cv : V) (c : Clk) (s : Sg Nat), vs = [cv, .str (sightT s)] ∧ CK K B cv c ∧ c.Ok ∧ VS c s ∧ R = fun B' v => SG K B' v s
theorem c_parse_sight (T : Txt w K mg) : Has P w K mg base "parse_sight" 6 ["clock", "text"] (sp_parse_sight K) := by
  refine Has.of T.f_parse_sight T.g_parse_sight sc_parse_sight (fun _ _ _ _ _ _ us hl => match us, hl with | [_, _], _ => rfl) (fun vs H Q E h => ?_) (fun f cdv A outer s0 H vs Q E hr h => ?_)
  · obtain ⟨B, R, hB, ⟨cv, c, s, rfl, _⟩, _⟩ := h; rfl
  · obtain ⟨B, R, hB, ⟨cv, c, s, rfl, hck, ok, vs, rfl⟩, k⟩ := h
    obtain ⟨a, rv, rfl, ha, ⟨b, rls, rfl, hb, hp⟩⟩ := id hck
    have hu := hu_of hr
    have hlr : rls.length = c.rs.length := Paired.length hp
    have hn100 := ok.n100
    have hl3 := ok.l3
    have hvl := vs.len
    have hsw := sightW_len ok vs
    have hrb := rows_bounds ok vs
    have hfl : (flat s).length = c.n := by rw [vs.perm.length_eq, List.length_range]
    have hnd : (flat s).Nodup := vs.perm.nodup_iff.mpr List.nodup_range
    have hsne : sightW s ≠ [] := by
      intro e
      have := (List.append_eq_nil_iff.mp e).1
      exact VS.head ok vs (List.map_eq_nil_iff.mp this)
    have hjl : (Str.join sp1 (sightW s)).length ≤ 100000 := by
      have := join_len (sightW s) 3 hsw.2
      omega
    refine ⟨_, (pss_cons (ps_expr (pc (c_require_clock T) hr (pa_cons (pv 0) pa_nil)))
      (pss_cons (ps_asg (pv 0) (pg_tup rfl (pgs_cons (pg_name (i := 2) sc_parse_sight.nd rfl (.inl rfl)) (pgs_cons (pg_name (i := 3) sc_parse_sight.nd rfl (.inl rfl)) pgs_nil))))
      (pss_cons (ps_par3 (i := 4) (j := 5) (l := 6) rfl sc_parse_sight.nd rfl rfl rfl (by decide) (by decide) (by decide) rfl rfl rfl (pa_cons (pe_lst (pa_cons (pe_lst pa_nil) pa_nil)) (pa_cons pe_dnewK (pa_cons (pc (c_words_of T) hr (pa_cons (pv 1) pa_nil)) pa_nil))) (by rfl))
      (pss_cons (ps_set (i := 7) sc_parse_sight.nd rfl (.inl rfl) (pe_callB (cr_sum rfl) (by rfl) T.b_sum (by decide +kernel) (pa_cons (pe_lc (own := [("bound", 11), ("way", 12)]) (g := (gTup K 2 (gCons (gName 11) (gCons (gName 12) gNil)))) rfl sc_parse_sight.nd (piL (K := K) rfl (pv 3)) (blkOk_by (by kernel_rfl)) (fun _ _ _ _ _ => (pg_tup rfl (pgs_cons (pg_name (i := 11) sc_parse_sight.nd rfl (.inl rfl)) (pgs_cons (pg_name (i := 12) sc_parse_sight.nd rfl (.inl rfl)) pgs_nil)))) (fun _ _ _ _ _ => pts_nil) (fun _ _ _ _ _ => (pe_op op_sub (pv 11) pe_int))) pa_nil)))
      (pss_cons (ps_for PassesOwn.never rfl (pi_enum rfl T.b_enumerate (pa_cons (pv 6) pa_nil)) (pg_tup rfl (pgs_cons (pg_name (i := 8) sc_parse_sight.nd rfl (.inl rfl)) (pgs_cons (pg_name (i := 9) sc_parse_sight.nd rfl (.inl rfl)) pgs_nil)))
      (pss_one (ps_if (pt_cmpR op_eq (pv 9) pe_str (nomark _)) (pss_cons (ps_if (PW.pt (pw_or (pt_cmpR op_gt (pe_callB (cLen (K := K) rfl) (by rfl) T.b_len (by decide +kernel) (pa_cons (pv 4) pa_nil)) (pe_callB (cLen (K := K) rfl) (by rfl) T.b_len (by decide +kernel) (pa_cons (pv 3) pa_nil)) (nomark _)) (pw_or1 (pt_cmpR op_gt (pe_op op_sub (pv 2) (pe_callB call_lenD (by rfl) T.b_len (by decide +kernel) (pa_cons (pv 5) pa_nil))) (pv 7) (nomark _))))) (pss_one ps_never) pss_nil)
      (pss_cons (ps_aug (i := 7) sc_parse_sight.nd rfl (.inl rfl) (pe_op op_sub (pe_ix (xT (K := K) rfl) (pe_ix (xL (K := K) rfl) (pv 3) (pe_op op_sub (pe_callB (cLen (K := K) rfl) (by rfl) T.b_len (by decide +kernel) (pa_cons (pv 4) pa_nil)) pe_int) (fun _ _ => rfl)) pe_int (fun _ _ => rfl)) pe_int) ip_sub)
      (pss_one (ps_expr (pe_bm PySem.F.plainAttrs_list PySem.F.slot_list_append PySem.F.type_list_append mt_append (pv 4) (pa_cons (pe_lst pa_nil) pa_nil)))))) (pss_cons (ps_set (i := 10) sc_parse_sight.nd rfl (.inl rfl) (pc (c_ball_written T) hr (pa_cons (pv 0) (pa_cons (pv 9) (pa_cons (pv 5) pa_nil)))))
      (pss_cons (ps_if (PW.pt (pw_or (pt_cmpR op_isN (pv 10) pe_non (nomark _)) (pw_or1 (PW.pt (pw_and (pt_cmpR op_gt (pe_callB (cLen (K := K) rfl) (by rfl) T.b_len (by decide +kernel) (pa_cons (pv 4) pa_nil)) pe_int (nomark _)) (pw_and1 (pt_cmpR op_gt (pe_callB (cLen (K := K) rfl) (by rfl) T.b_len (by decide +kernel) (pa_cons (pe_ix (xL (K := K) rfl) (pv 4) (pe_un un_neg pe_int) (fun _ _ => rfl)) pa_nil)) (pe_op op_sub (pe_ix (xT (K := K) rfl) (pe_ix (xL (K := K) rfl) (pv 3) (pe_op op_sub (pe_callB (cLen (K := K) rfl) (by rfl) T.b_len (by decide +kernel) (pa_cons (pv 4) pa_nil)) pe_int) (fun _ _ => rfl)) pe_int (fun _ _ => rfl)) pe_int) (nomark _)))))))) (pss_one ps_never) pss_nil)
      (pss_cons (ps_dput hu (pv 5) (pv 10) pe_bl rfl)
      (pss_one (ps_expr (pe_bm PySem.F.plainAttrs_list PySem.F.slot_list_append PySem.F.type_list_append mt_append (pe_ix (xL (K := K) rfl) (pv 4) (pe_un un_neg pe_int) (fun _ _ => rfl)) (pa_cons (pv 10) pa_nil))))))))))
      (pss_cons (ps_if (PW.pt (pw_or (pt_cmpR op_le (pe_callB (cLen (K := K) rfl) (by rfl) T.b_len (by decide +kernel) (pa_cons (pv 4) pa_nil)) (pe_callB (cLen (K := K) rfl) (by rfl) T.b_len (by decide +kernel) (pa_cons (pv 3) pa_nil)) (nomark _)) (pw_or1 (pt_cmpR op_lt (pe_callB call_lenD (by rfl) T.b_len (by decide +kernel) (pa_cons (pv 5) pa_nil)) (pv 2) (nomark _))))) (pss_one ps_never) pss_nil)
      (pss_one (ps_ret (pv 4))))))))), ?_⟩
    refine ⟨_, rfl, B, _, hB, ⟨.ref a, c, rfl, hck, ok, rfl⟩, fun B1 H1 v1 e1 hv1 => ?_⟩
    refine ⟨_, rfl, a, _, rfl, e1.bh.tup ha, rfl, _, _, rfl, _, _, rfl, rfl, ?_⟩
    refine ⟨by show 0 ≤ sizeLine; decide, fun c0 nc0 => ⟨by show 1 ≤ sizeLine; decide, fun l nl => fun d nd => ?_⟩⟩
    have f1 := Ext.tmp e1.w (.lst []) nc0
    have F1 := e1.trans f1
    have mc1 := Mine.new (o := .lst []) e1 nc0
    have f2 := Ext.tmp F1.w (.lst [.ref c0]) nl
    have F2 := F1.trans f2
    have mc2 := mc1.ext f2
    have ml2 := Mine.new (o := .lst [.ref c0]) F1 nl
    have f3 := Ext.tmp F2.w (.dK []) nd
    have F3 := F2.trans f3
    have mc3 := mc2.ext f3
    have ml3 := ml2.ext f3
    have md3 := Mine.new (o := .dK []) F2 nd
    refine ⟨_, rfl, B1, _, F3.w, ⟨sightW s, rfl, hsne, sightW_free s, hjl, rfl⟩, fun B4 H4 v4 e4 hv4 => ?_⟩
    obtain ⟨wa, rfl, hwa⟩ := hv4
    have F4 := F3.trans e4
    have mc4 := mc3.ext e4
    have ml4 := ml3.ext e4
    have md4 := md3.ext e4
    refine ⟨_, _, _, rfl, ?_⟩
    -- room
    refine ⟨_, rfl, b, rfl, ⟨_, F4.bh.seq hb⟩, fun D hD => lc_new (walk_list rls) (fun i _ y => ∀ r, c.rs[i]? = some r → y = .int ((r.1 : Int) - 1)) F4.w (fun H' e => e.seq (F4.b.seq hb)) (by omega) hD (fun _ _ _ _ _ h => h) ?_ ?_⟩
    · intro i y B3 H3 H3' N hi e3 hy hN
      obtain ⟨rfl, hy⟩ := hy
      obtain ⟨r, hr1, q, rfl, hq⟩ := pat hp hy
      refine ⟨q, _, rfl, e3.bh.tup (F4.b.tup hq), rfl, _, _, rfl, _, _, rfl, rfl, rfl, ?_⟩
      refine ⟨_, rfl, _, _, rfl, rfl, ?_⟩
      refine hN _ _ _ (Ext.refl e3.w) fun r2 hr2 => ?_
      rw [hr1] at hr2
      obtain rfl := Option.some.inj hr2
      rfl
    intro B5 H5 ys e5 hD5 hl5 hys
    have ey : ys = (c.rs.map fun r : Rail => (r.1 : Int) - 1).map V.int := by
      apply List.ext_getElem?
      intro i
      by_cases hi : i < ys.length
      · rw [List.getElem?_eq_getElem hi, List.getElem?_map, List.getElem?_map, List.getElem?_eq_getElem (show i < c.rs.length by omega)]
        exact congrArg some (hys i _ (List.getElem?_eq_getElem hi) _ (List.getElem?_eq_getElem (by omega)))
      · rw [List.getElem?_eq_none (by omega), List.getElem?_eq_none (by simp; omega)]
    refine ⟨D, _, rfl, SqL.of (by rw [e5.w _ _ hD5, ey]), ?_⟩
    rw [lefts_sum ok.two]
    have F5 := F4.trans e5
    have mc5 := mc4.ext e5
    have ml5 := ml4.ext e5
    have md5 := md4.ext e5
    have hwa5 : SqL K B5 wa ((sightW s).map V.str) := e5.b.seq hwa
    have hcl : c0 ≠ l := fun z => by subst z; have := mc5.h; rw [ml5.h] at this; cases this
    have hcd : c0 ≠ d := fun z => by subst z; have := mc5.h; rw [md5.h] at this; cases this
    have hld : l ≠ d := fun z => by subst z; have := ml5.h; rw [md5.h] at this; cases this
    refine ⟨_, rfl, wa, _, rfl, e5.w.seq hwa5, for_it (walk_enum0 _) (fun i σ' H' => ∃ (B' : Hp) (c0 : Addr) (done : List (List Nat)) (cur restRow : List Nat) (restRows : List (List Nat)) (rvs : List V) (v8 v9 v10 : Option V),
        σ' = [some (.ref a), some (.str (sightT s)), some (.int (c.n : Int)), some (.ref b), some (.ref l), some (.ref d), some (.ref wa), some (.int (lefts (c.rs.drop done.length) : Nat)), v8, v9, v10, none, none] ∧ Ext B H B' H' ∧ Same B5 B' ∧
        Mine H B' H' l (.lst (rvs ++ [.ref c0])) ∧ Mine H B' H' d (.dK (seenK (done.flatten ++ cur))) ∧ Mine H B' H' c0 (.lst (cur.map fun n : Nat => V.int (n : Int))) ∧ c0 ≠ l ∧ c0 ≠ d ∧ Paired (LN K B') rvs done ∧
        rowsOf s = done ++ (cur ++ restRow) :: restRows ∧ (sightW s).drop i = restRow.map dg ++ rowsW restRows)
      ⟨B5, c0, [], [], s.1, s.2, [], none, none, none, rfl, F5, Same.refl _, ml5, md5, mc5, hcl, hcd, .nil, rfl, rfl⟩ (fun i σ' H' _ ⟨B', _, _, _, _, _, _, _, _, _, _, e, s', _⟩ => e.w.seq (s'.seq hwa5)) ?_ ?_⟩
    · rintro i y σ' H6 H6' hi ⟨B6, c1, done, cur, restRow, restRows, rvs, v8, v9, v10, rfl, e6, s6, ml6, md6, mc6, hcl6, hcd6, hpr, hrows, hdrop⟩ ⟨Tp, z, rfl, nT, rfl, hz⟩
      rw [List.getElem?_map] at hz
      obtain ⟨x, hx, rfl⟩ := Option.map_eq_some_iff.mp hz
      have hdx : (sightW s).drop i = x :: (sightW s).drop (i + 1) := by
        obtain ⟨h1, h2⟩ := List.getElem?_eq_some_iff.mp hx
        rw [List.drop_eq_getElem_cons h1, h2]
      rw [hdx] at hdrop
      have e7 := Ext.tmp e6.w (.tup [.int (i : Nat), .str x]) nT
      have E7 := e6.trans e7
      have ml7 := ml6.ext e7
      have md7 := md6.ext e7
      have mc7 := mc6.ext e7
      have hrvl : rvs.length = done.length := Paired.length hpr
      have hrl : done.length + (restRows.length + 1) = c.rs.length + 1 := by
        have := congrArg List.length hrows
        rw [List.length_append, List.length_cons] at this
        have h2 : (rowsOf s).length = s.2.length + 1 := rfl
        omega
      have hflat : (done.flatten ++ cur).length + restRow.length + restRows.flatten.length = c.n := by
        have h1 := congrArg (fun z : List (List Nat) => z.flatten.length) hrows
        simp only [List.flatten_append, List.flatten_cons, List.length_append] at h1
        rw [rowsOf_flat, hfl] at h1
        simp only [List.length_append]
        omega
      refine ⟨Tp, _, rfl, SqT.of upd_same, rfl, _, _, rfl, _, _, rfl, rfl, ?_⟩
      cases restRow with
      | nil =>
        cases restRows with
        | nil => rw [show ([] : List Nat).map dg ++ rowsW [] = [] from rfl] at hdrop; cases hdrop
        | cons r rs' =>
          have hd2 : x :: (sightW s).drop (i + 1) = ("|" : Str) :: (r.map dg ++ rowsW rs') := hdrop
          obtain ⟨hxe, hdn⟩ := List.cons.inj hd2
          subst hxe
          have hdl : done.length < c.rs.length := by rw [List.length_cons] at hrl; omega
          obtain ⟨rl, hrail⟩ : ∃ rl, c.rs[done.length]? = some rl := ⟨_, List.getElem?_eq_getElem hdl⟩
          obtain ⟨rlv, hrlv, q2, rfl, hq2⟩ := pat2 hp hrail
          have hld2 := lefts_drop hrail
          have h2r := ok.two rl (List.mem_of_getElem? hrail)
          have hrest : (r :: rs').flatten.length ≤ lefts (c.rs.drop done.length) := by
            have h1 := fits_drop done.length vs.fits
            have h3 : (cnts s).drop done.length = (r :: rs').map List.length := by
              unfold cnts
              rw [← List.map_drop]
              congr 1
              have h4 : (rowsOf s).drop (done.length + 1) = r :: rs' := by
                rw [hrows, ← List.drop_drop, List.drop_left' rfl]
                rfl
              exact h4
            rw [h3] at h1
            exact fits_rest h1
          rw [List.length_nil] at hflat
          refine ⟨_, rfl, rfl, _, rfl, iteB (by simp) ?_⟩
          refine ⟨_, rfl, l, _, rfl, .inl (SqL.of ml7.h), _, rfl, b, _, rfl, .inl (E7.bh.seq hb), _, _, rfl, rfl, _, rfl, iteBF (decide_eq_false ?_) ?_⟩
          · rw [List.length_append, List.length_singleton]; omega
          refine ⟨_, rfl, _, rfl, d, _, rfl, md7.h, _, _, rfl, rfl, _, rfl, _, _, rfl, rfl, _, rfl, iteBF (decide_eq_false ?_) ?_⟩
          · rw [seen_len]; omega
          refine ⟨_, rfl, _, rfl, _, rfl, l, _, rfl, .inl (SqL.of ml7.h), _, _, rfl, rfl, b, _, _, _, rfl, rfl, E7.bh.seq hb, at_of (j := done.length) (by rw [List.length_append, List.length_singleton]; omega) hrlv, q2, _, 0, _, rfl, rfl, E7.bh.tup hq2, atI_nat (j := 0) rfl, _, _, rfl, rfl, _, _, rfl, rfl, ?_⟩
          refine ⟨_, rfl, .inl ⟨rfl, _, SqL.of ml7.h⟩, by show 0 ≤ sizeLine; decide, fun c2 nc2 => ?_⟩
          have e8 := Ext.tmp e7.w (.lst []) nc2
          have E8 := E7.trans e8
          have ml8 := ml7.ext e8
          have md8 := md7.ext e8
          have mc8 := mc7.ext e8
          have k8 := Mine.new (o := .lst []) E7 nc2
          have hcl2 : c2 ≠ l := fun z => by subst z; rw [ml7.h] at nc2; cases nc2
          have hcd2 : c2 ≠ d := fun z => by subst z; rw [md7.h] at nc2; cases nc2
          have hcc2 : c2 ≠ c1 := fun z => by subst z; rw [mc7.h] at nc2; cases nc2
          refine ⟨l, _, _, rfl, rfl, ml8.h, small1000 (by rw [List.length_append, List.length_singleton]; omega), ?_⟩
          have e9 := ml8.set E8 (.lst (rvs ++ [.ref c1] ++ [.ref c2]))
          have ml9 := ml8.put (.lst (rvs ++ [.ref c1] ++ [.ref c2]))
          have md9 := md8.other (u := .lst (rvs ++ [.ref c1] ++ [.ref c2])) hld.symm
          have mc9 := mc8.other (u := .lst (rvs ++ [.ref c1] ++ [.ref c2])) hcl6
          have k9 := k8.other (u := .lst (rvs ++ [.ref c1] ++ [.ref c2])) hcl2
          have e10 := mc9.frz e9
          have hb10 := mc9.frz1
          refine ⟨_, c2, done ++ [cur], [], r, rs', rvs ++ [.ref c1], some (.int (i : Nat)), some (.str "|"), v10, ?_, e10, s6.trans hb10, ml9.keep (Ne.symm hcl6), ?_, k9.keep hcc2, hcl2, hcd2, ?_, ?_, hdn⟩
          · have e : ((lefts (c.rs.drop done.length) : Nat) : Int) - ((rl.1 : Int) - 1) = ((lefts (c.rs.drop (done ++ [cur]).length) : Nat) : Int) := by
              rw [List.length_append, List.length_singleton]
              omega
            rw [← e]
            rfl
          · rw [List.flatten_append, List.append_nil]
            simpa using md9.keep (Ne.symm hcd6)
          · exact paired_app (Paired.mapP hpr fun _ _ h => h.mono hb10) (.cons ⟨c1, rfl, SqL.of upd_same⟩ .nil)
          · rw [hrows]; simp
      | cons bl rr =>
        have hd2 : x :: (sightW s).drop (i + 1) = dg bl :: (rr.map dg ++ rowsW restRows) := hdrop
        obtain ⟨hxe, hdn⟩ := List.cons.inj hd2
        subst hxe
        have hrowm : cur ++ bl :: rr ∈ rowsOf s := by rw [hrows]; simp
        have hbln : bl < c.n := (hrb _ hrowm).2 bl (by simp)
        have hfresh : bl ∉ done.flatten ++ cur := by
          have h1 : flat s = (done.flatten ++ cur) ++ (bl :: (rr ++ restRows.flatten)) := by
            rw [← rowsOf_flat, hrows]
            simp
          rw [h1, List.nodup_append] at hnd
          intro hm
          exact hnd.2.2 bl hm bl List.mem_cons_self rfl
        have hdl : done.length ≤ c.rs.length := by omega
        have hbar : V.str (dg bl) ≠ V.str "|" := fun z => dg_bar bl (V.str.inj z)
        refine ⟨_, rfl, rfl, _, rfl, iteBF (decide_eq_false hbar) ?_⟩
        refine ⟨_, rfl, _, rfl, _, rfl, B6, .ref a, c, bl, d, _, e7.w, rfl, hck.mono E7.b, hbln, hn100, hfresh, md7.h, fun B8 H8 e8 => ?_⟩
        have E8 := E7.trans e8
        have ml8 := ml7.ext e8
        have md8 := md7.ext e8
        have mc8 := mc7.ext e8
        refine ⟨_, rfl, rfl, _, rfl, iteBF (by simp) ?_⟩
        have hsl : (seenK (done.flatten ++ cur)).length < sizeLine := by
          rw [seen_len]
          exact small1000 (by rw [List.length_append]; rw [List.length_append] at hflat; omega)
        refine ⟨_, rfl, l, _, rfl, .inl (SqL.of ml8.h), _, _, rfl, rfl, _, rfl, ?_⟩
        have hlen2 : (rvs ++ [V.ref c1]).length = done.length + 1 := by rw [List.length_append, List.length_singleton, hrvl]
        have hcurl : (cur ++ bl :: rr).length ≤ c.n := (hrb _ hrowm).1
        rw [List.length_append, List.length_cons] at hcurl
        by_cases hdn1 : 1 ≤ done.length
        case' pos =>
          obtain ⟨rl, hrail⟩ : ∃ rl, c.rs[done.length - 1]? = some rl := ⟨_, List.getElem?_eq_getElem (by omega)⟩
          obtain ⟨rlv, hrlv, q2, rfl, hq2⟩ := pat2 hp hrail
          have hlt : (cur ++ bl :: rr).length < rl.1 := by
            refine fits_get vs.fits hrail ?_
            unfold cnts
            have h1 : (rowsOf s)[done.length]? = some (cur ++ bl :: rr) := by
              rw [hrows, List.getElem?_append_right (Nat.le_refl _), Nat.sub_self]
              rfl
            have h2 : (rowsOf s)[done.length]? = s.2[done.length - 1]? := by
              obtain ⟨m, hm⟩ : ∃ m, done.length = m + 1 := ⟨done.length - 1, by omega⟩
              rw [hm]
              rfl
            rw [List.getElem?_map, ← h2, h1]
            rfl
          rw [List.length_append, List.length_cons] at hlt
          refine iteB (decide_eq_true (by omega)) ?_
          refine ⟨_, rfl, _, rfl, l, _, _, _, rfl, rfl, SqL.of ml8.h, atI_last, c1, _, rfl, .inl (SqL.of mc8.h), _, rfl, _, rfl, l, _, rfl, .inl (SqL.of ml8.h), _, _, rfl, rfl, b, _, _, _, rfl, rfl, E8.bh.seq hb, at_of (j := done.length - 1) (by omega) hrlv, q2, _, 0, _, rfl, rfl, E8.bh.tup hq2, atI_nat (j := 0) rfl, _, _, rfl, rfl, _, _, rfl, rfl, _, rfl, iteBF (decide_eq_false (by rw [List.length_map]; omega)) ?_⟩
        case' neg =>
          refine iteBF (decide_eq_false (by omega)) ?_
        all_goals
          refine ⟨_, rfl, _, rfl, d, _, rfl, DPut.k (k := Sum.inl (bl : Int)) md8.h hsl, ?_⟩
          rw [seen_put hfresh]
          have e9 := md8.set E8 (.dK (seenK (done.flatten ++ cur ++ [bl])))
          have md9 := md8.put (.dK (seenK (done.flatten ++ cur ++ [bl])))
          have ml9 := ml8.other (u := .dK (seenK (done.flatten ++ cur ++ [bl]))) hld
          have mc9 := mc8.other (u := .dK (seenK (done.flatten ++ cur ++ [bl]))) hcd6
          refine ⟨_, rfl, _, rfl, l, _, _, _, rfl, rfl, SqL.of ml9.h, atI_last, .inl ⟨rfl, _, SqL.of mc9.h⟩, _, rfl, c1, _, _, rfl, rfl, mc9.h, small1000 (by rw [List.length_map]; omega), ?_⟩
          refine ⟨B8, c1, done, cur ++ [bl], rr, restRows, rvs, _, _, _, rfl, mc9.set e9 _, s6.trans e8.b, ml9.other (Ne.symm hcl6), ?_, ?_, hcl6, hcd6, Paired.mapP hpr fun _ _ h => h.mono e8.b, ?_, hdn⟩
          · rw [← List.append_assoc]
            exact md9.other (Ne.symm hcd6)
          · rw [List.map_append]
            exact mc9.put _
          · rw [hrows]; simp
    · rintro σ' H6 ⟨B6, c1, done, cur, restRow, restRows, rvs, v8, v9, v10, rfl, e6, s6, ml6, md6, mc6, hcl6, hcd6, hpr, hrows, hdrop⟩
      rw [List.drop_eq_nil_of_le (by rw [List.length_map]; exact Nat.le_refl _)] at hdrop
      obtain ⟨hrr, hRR⟩ := List.append_eq_nil_iff.mp hdrop.symm
      have hrr : restRow = [] := List.map_eq_nil_iff.mp hrr
      have hRR : restRows = [] := by
        cases restRows with
        | nil => rfl
        | cons r rs => simp [rowsW] at hRR
      subst hrr; subst hRR
      have hrvl : rvs.length = done.length := Paired.length hpr
      have hrl : done.length = c.rs.length := by
        have := congrArg List.length hrows
        rw [List.length_append] at this
        have h2 : (rowsOf s).length = s.2.length + 1 := rfl
        simp at this
        omega
      have hall : (done.flatten ++ cur).length = c.n := by
        have h1 := congrArg (fun z : List (List Nat) => z.flatten.length) hrows
        simp only [List.flatten_append, List.flatten_cons, List.length_append] at h1
        rw [rowsOf_flat, hfl] at h1
        simp at h1
        rw [List.length_append, List.length_flatten]
        omega
      refine ⟨_, rfl, l, _, rfl, .inl (SqL.of ml6.h), _, rfl, b, _, rfl, .inl (e6.bh.seq hb), _, _, rfl, rfl, _, rfl, iteBF (decide_eq_false ?_) ?_⟩
      · rw [List.length_append, List.length_singleton]; omega
      refine ⟨_, rfl, d, _, rfl, md6.h, _, rfl, _, _, rfl, rfl, _, rfl, iteBF (decide_eq_false ?_) ?_⟩
      · rw [seen_len, hall]; omega
      have e7 := mc6.frz e6
      have ml7 := ml6.keep (q := c1) (u := .lst (cur.map fun n : Nat => V.int (n : Int))) (Ne.symm hcl6)
      have e8 := ml7.frz e7
      have hb8 := ml7.frz1
      refine ⟨_, rfl, k _ _ _ e8 ⟨l, _, rfl, SqL.of upd_same, ?_⟩⟩
      show Paired _ _ (rowsOf s)
      rw [hrows, List.append_nil]
      exact paired_app (Paired.mapP hpr fun _ _ h => (h.mono mc6.frz1).mono hb8) (.cons ⟨c1, rfl, hb8.seq (SqL.of upd_same)⟩ .nil)
end
end BH
end
section
set_option linter.all false
namespace BM
/-! ### exchanges -/
def swp (a b x : Nat) : Nat := if x = a then b else if x = b then a else x
theorem swp_lt {a b x n : Nat} (ha : a < n) (hb : b < n) (hx : x < n) : swp a b x < n := by
  unfold swp
  split
  · exact hb
  · split
    · exact ha
    · exact hx
theorem swp_swp (a b x : Nat) : swp a b (swp a b x) = x := by
  unfold swp
  by_cases h1 : x = a
  · rw [if_pos h1]
    by_cases h2 : b = a
    · rw [if_pos h2, h1, h2]
    · rw [if_neg h2, if_pos rfl, h1]
  · rw [if_neg h1]
    by_cases h2 : x = b
    · rw [if_pos h2, if_pos rfl, h2]
    · rw [if_neg h2, if_neg h1, if_neg h2]
theorem swp_perm {a b n : Nat} (ha : a < n) (hb : b < n) : ((List.range n).map (swp a b)).Perm (List.range n) := by
  have nd : ((List.range n).map (swp a b)).Nodup := by
    unfold List.Nodup
    rw [List.pairwise_map]
    refine List.Pairwise.imp ?_ (List.nodup_range (n := n))
    intro x y hxy h
    have := congrArg (swp a b) h
    rw [swp_swp, swp_swp] at this
    exact hxy this
  rw [List.perm_ext_iff_of_nodup nd List.nodup_range]
  intro x
  rw [List.mem_range, List.mem_map]
  constructor
  · rintro ⟨y, hy, rfl⟩
    exact swp_lt ha hb (List.mem_range.mp hy)
  · intro hx
    exact ⟨swp a b x, List.mem_range.mpr (swp_lt ha hb hx), swp_swp a b x⟩
theorem swap_vs {c : Clk} {s : Sg Nat} {a b : Nat} (ha : a < c.n) (hb : b < c.n) (h : VS c s) : VS c (Sg.map (swp a b) s) :=
  ⟨by rw [cnts_map]; exact h.fits, by rw [flat_map]; exact (h.perm.map (swp a b)).trans (swp_perm ha hb)⟩
end BM
end
section
set_option Elab.async false
set_option linter.all false
set_option maxRecDepth 100000
set_option maxHeartbeats 4000000
namespace BH
open PySem PySem.Spec PyProof.Rows L2 BM
/-- the calls of a live clock, and the sight behind them -/
def Calls (K : PySem.W.Frag) (B : Hp) (c : Clk) (s : Sg Nat) (cvs : List V) : Prop :=
  (cvs = [] ∧ s = first c) ∨ ∃ (pre : List V) (t : Addr) (call sv : V) (m : Int), cvs = pre ++ [.ref t] ∧ SqT K B t [call, sv, .int m] ∧ SG K B sv s
theorem Calls.mono {K : PySem.W.Frag} {B B' : Hp} {c : Clk} {s : Sg Nat} {cvs : List V} (h : Calls K B c s cvs) (e : Same B B') : Calls K B' c s cvs := by
  rcases h with h | ⟨pre, t, call, sv, m, h1, h2, h3⟩
  · exact .inl h
  · exact .inr ⟨pre, t, call, sv, m, h1, e.tup h2, h3.mono e⟩
/-- a live clock at lo -/
structure LV (K : PySem.W.Frag) (B H : Hp) (lo : Addr) (c : Clk) (s : Sg Nat) (q : Nat) : Prop where
  b : B lo = none
  ex : ∃ dx kc cl cvs, H lo = some (.ins (He.ga K "BallClock") dx [("kept_clock", .ref kc), ("kept_calls", .ref cl)]) ∧ CK K B (.ref kc) c ∧ SqL K B cl cvs ∧ cvs.length = q ∧ Calls K B c s cvs
  ok : c.Ok
  vs : VS c s
theorem LV.ext {K : PySem.W.Frag} {B H B1 H1 : Hp} {lo : Addr} {c : Clk} {s : Sg Nat} {q : Nat} (l : LV K B H lo c s q) (e : Ext B H B1 H1) : LV K B1 H1 lo c s q := by
  obtain ⟨hb, ⟨dx, kc, cl, cvs, h1, h2, h3, h4, h5⟩, ok, vs⟩ := l
  exact ⟨by rw [e.n lo (by rw [h1]; exact fun z => nomatch z)]; exact hb, ⟨dx, kc, cl, cvs, e.h _ _ h1, h2.mono e.b, e.b.seq h3, h4, h5.mono e.b⟩, ok, vs⟩
theorem LV.wo {K : PySem.W.Frag} {B H B1 H1 : Hp} {lo d : Addr} {c : Clk} {s : Sg Nat} {q : Nat} (l : LV K B H lo c s q) (n : lo ≠ d) (e : Ext B (Wo H d) B1 H1) : LV K B1 H1 lo c s q := by
  obtain ⟨hb, ⟨dx, kc, cl, cvs, h1, h2, h3, h4, h5⟩, ok, vs⟩ := l
  have h1' : Wo H d lo = some (.ins (He.ga K "BallClock") dx [("kept_clock", .ref kc), ("kept_calls", .ref cl)]) := by rw [Wo.other n]; exact h1
  exact ⟨by rw [e.n lo (by rw [h1']; exact fun z => nomatch z)]; exact hb, ⟨dx, kc, cl, cvs, e.h _ _ h1', h2.mono e.b, e.b.seq h3, h4, h5.mono e.b⟩, ok, vs⟩
section
variable {P : Program} {w : World} {K : PySem.W.Frag} {mg : Str → Option Value} {base : Heap}
def sp_BallClock_init (K : PySem.W.Frag) : Sp := fun vs H Q _ => ∃ (B : Hp) (x dx : Addr) (c : Clk) (cv : V), Same B H ∧ B x = none ∧ H x = some (.ins (He.ga K "BallClock") dx []) ∧ vs = [.ref x, cv] ∧ CK K B cv c ∧ c.Ok ∧
  ∀ B' H', Ext B (Wo H x) B' H' → LV K B' H' x c (first c) 0 → Q .non H'
theorem c_BallClock_init (T : Txt w K mg) : HasI P w K mg base "BallClock" 6 ["self", "clock"] (sp_BallClock_init K) := by
  refine HasI.of T.f_BallClock_init T.k_BallClock T.g_BallClock sc_BallClock_init (fun _ _ _ _ _ _ us hl => match us, hl with | [_, _], _ => rfl) (fun vs H Q E h => ?_) (fun f cdv A outer s0 H vs Q E hr h => ?_)
  · obtain ⟨B, x, dx, c, cv, hB, hbx, hx, rfl, _⟩ := h; rfl
  · obtain ⟨B, x, dx, c, cv, hB, hbx, hx, rfl, hck, ok, k⟩ := h
    obtain ⟨a, rv, rfl, ha, hrv⟩ := id hck
    obtain ⟨b, rls, rfl, hb, hp⟩ := id hrv
    refine ⟨_, (pss_cons (ps_expr (pc (c_require_clock T) hr (pa_cons (pv 1) pa_nil)))
      (pss_cons (ps_fld (pv 0) (pe_tup (pa_cons (pe_ix (xT (K := K) rfl) (pv 1) pe_int (fun _ _ => rfl)) (pa_cons (pe_callTy (cLst (K := K) rfl) (by rfl) T.b_list (by decide +kernel) (pa_cons (pe_ix (xT (K := K) rfl) (pv 1) pe_int (fun _ _ => rfl)) pa_nil)) pa_nil))) rfl)
      (pss_one (ps_fld (pv 0) (pe_lst pa_nil) rfl)))), ?_⟩
    have e0 : Ext B (Wo H x) B H := ⟨Same.refl _, hB, Wo.same (Same.refl _), fun _ _ => rfl⟩
    have m0 : Mine (Wo H x) B H x (.ins (He.ga K "BallClock") dx []) := ⟨Wo.at, hbx, hx⟩
    refine ⟨_, rfl, B, _, hB, ⟨.ref a, c, rfl, hck, ok, rfl⟩, fun B1 H1 v1 e1 hv1 => ?_⟩
    have E1 := e0.trans e1
    have m1 := m0.ext e1
    refine ⟨_, rfl, a, _, 0, _, rfl, rfl, E1.bh.tup ha, atI_nat (j := 0) rfl, _, rfl, a, _, 1, _, rfl, rfl, E1.bh.tup ha, atI_nat (j := 1) rfl, b, _, rfl, .inl (E1.bh.seq hb), fun l nl => ?_⟩
    have e2 := Ext.new E1.w (.lst rls) nl
    refine ⟨by show 2 ≤ sizeLine; decide, fun p np => ?_⟩
    have e3 := Ext.new e2.w (.tup [.int (c.n : Int), .ref l]) np
    have E3 := (E1.trans e2).trans e3
    have m3 := (m1.ext e2).ext e3
    refine ⟨_, rfl, x, _, _, _, rfl, m3.h, T.c_BallClock, T.n_BallClock_kept_clock, by show 0 < 1000; decide, ?_⟩
    have e4 := m3.set E3 (.ins (He.ga K "BallClock") dx [("kept_clock", .ref p)])
    have m4 := m3.put (.ins (He.ga K "BallClock") dx [("kept_clock", .ref p)])
    refine ⟨by show 0 ≤ sizeLine; decide, fun z nz => ?_⟩
    have e5 := Ext.new e4.w (.lst []) nz
    have E5 := e4.trans e5
    have m5 := m4.ext e5
    refine ⟨_, rfl, x, _, _, _, rfl, m5.h, T.c_BallClock, T.n_BallClock_kept_calls, by show 1 < 1000; decide, ?_⟩
    have e6 := m5.set E5 (.ins (He.ga K "BallClock") dx [("kept_clock", .ref p), ("kept_calls", .ref z)])
    refine k _ _ e6 ⟨m5.b, ⟨dx, p, z, [], upd_same, ⟨p, _, rfl, e5.b.tup (SqT.of upd_same), l, rls, rfl, e5.b.seq (e3.b.seq (SqL.of upd_same)), Paired.mapP hp fun _ _ h => (((h.mono E1.b).mono e2.b).mono e3.b).mono e5.b⟩, SqL.of upd_same, rfl, .inl ⟨rfl, rfl⟩⟩, ok, first_vs ok⟩
def sp_sight_now (K : PySem.W.Frag) : Sp := fun vs H Q _ => ∃ (B : Hp) (lo : Addr) (c : Clk) (s : Sg Nat) (q : Nat), Same B H ∧ vs = [.ref lo] ∧ LV K B H lo c s q ∧ ∀ B' H' v, Ext B H B' H' → SG K B' v s → Q v H'
theorem c_BallClock_sight_now (T : Txt w K mg) : HasM P w K mg base "BallClock" "sight_now" 1 ["self"] (sp_sight_now K) := by
  refine HasM.of T.f_BallClock_sight_now T.m_BallClock_sight_now T.c_BallClock sc_BallClock_sight_now (fun _ _ _ _ _ _ us hl => match us, hl with | [_], _ => rfl) (fun vs H Q E h => ?_) (fun f cdv A outer s0 H vs Q E hr h => ?_)
  · obtain ⟨B, lo, c, s, q, hB, rfl, _⟩ := h; rfl
  · obtain ⟨B, lo, c, s, q, hB, rfl, L, k⟩ := h
    obtain ⟨hlb, ⟨dx, kc, cl, cvs, hins, hck, hcl, hq, hcalls⟩, ok, vs⟩ := id L
    obtain ⟨a, rv, eka, ha, ⟨b, rls, rfl, hb, hp⟩⟩ := hck
    obtain rfl := V.ref.inj eka
    have hlr : rls.length = c.rs.length := Paired.length hp
    have hn100 := ok.n100
    have hl3 := ok.l3
    refine ⟨_, (pss_cons (ps_if (pt_cmpR (op_eqE hr.units0) (pF (K := K) rfl (pv 0)) (pe_lst pa_nil) (nomark _)) (pss_one (ps_ret (pe_lst (pa_cons (pe_listRg rfl rfl T.b_list (prg_1 rfl T.b_range (pe_ix (xT (K := K) rfl) (pF (K := K) rfl (pv 0)) pe_int (fun _ _ => rfl)))) (StX.pa_star (pe_lc (own := [("rail", 1)]) (g := (gName 1)) rfl sc_BallClock_sight_now.nd (piL (K := K) rfl (pe_ix (xT (K := K) rfl) (pF (K := K) rfl (pv 0)) pe_int (fun _ _ => rfl))) (blkOk_by (by kernel_rfl)) (fun _ _ _ _ _ => (pg_name (i := 1) sc_BallClock_sight_now.nd rfl (.inl rfl))) (fun _ _ _ _ _ => pts_nil) (fun _ _ _ _ _ => (pe_lst pa_nil))) pa_nil))))) pss_nil)
      (pss_one (ps_ret (pe_ix (xT (K := K) rfl) (pe_ix (xL (K := K) rfl) (pF (K := K) rfl (pv 0)) (pe_un un_neg pe_int) (fun _ _ => rfl)) pe_int (fun _ _ => rfl))))), ?_⟩
    refine ⟨_, rfl, lo, _, _, _, _, rfl, hins, T.c_BallClock, T.n_BallClock_kept_calls, rfl, by show 0 ≤ sizeLine; decide, fun z nz => ?_⟩
    have e1 := Ext.tmp hB (.lst []) nz
    refine ⟨cl, z, cvs, rfl, rfl, .inl ⟨e1.bh.seq hcl, SqL.of upd_same⟩, _, rfl, ?_⟩
    rcases hcalls with ⟨rfl, rfl⟩ | ⟨pre, t, call, sv, m, rfl, ht, hsv⟩
    · refine iteB rfl ?_
      refine ⟨_, rfl, lo, _, _, _, _, rfl, e1.h _ _ hins, T.c_BallClock, T.n_BallClock_kept_clock, rfl, kc, _, 0, _, rfl, rfl, e1.bh.tup ha, atI_nat (j := 0) rfl, _, rfl, RgOk.of_le (by omega) (by omega) (by omega) (by omega), fun q nq => ?_⟩
      rw [rgV_nat]
      have e7 := Ext.new e1.w (.lst ((List.range c.n).map fun n : Nat => V.int (n : Int))) nq
      have E7 := e1.trans e7
      refine ⟨_, rfl, lo, _, _, _, _, rfl, E7.h _ _ hins, T.c_BallClock, T.n_BallClock_kept_clock, rfl, kc, _, 1, _, rfl, rfl, E7.bh.tup ha, atI_nat (j := 1) rfl, b, rfl, ⟨_, E7.bh.seq hb⟩, fun D hD => lc_new (walk_list rls) (fun _ B y => LN K B y []) E7.w (fun H' s => s.seq (E7.b.seq hb)) (by omega) hD (fun _ _ _ _ e h => h.mono e) ?_ ?_⟩
      · intro i y B3 H3 H3' N hi e3 hy hN
        obtain ⟨rfl, hy⟩ := hy
        refine ⟨rfl, by show 0 ≤ sizeLine; decide, fun z nz => ?_⟩
        exact hN _ _ _ (Ext.new e3.w _ nz) ⟨z, rfl, SqL.of upd_same⟩
      intro B8 H8 ys e8 hD8 hl8 hys
      have E8 := E7.trans e8
      refine ⟨D, _, rfl, .inr (SqL.of (e8.w _ _ hD8)), ?_, fun sv nsv => ?_⟩
      · simp only [List.length_append, List.length_cons, List.length_nil]
        exact small1000 (by omega)
      rw [List.append_nil]
      have e9 := Ext.new e8.w (.lst (.ref q :: ys)) nsv
      refine k _ _ _ (E8.trans e9) ⟨sv, _, rfl, SqL.of upd_same, .cons ⟨q, rfl, (e8.b.trans e9.b).seq (SqL.of upd_same)⟩ ?_⟩
      refine paired_of (by rw [hl8, hlr]; exact (empt_len _).symm) fun i y row hy hrow => ?_
      have : row = [] := List.eq_of_mem_replicate (List.mem_of_getElem? hrow)
      subst this
      exact (hys i y hy).mono e9.b
    · refine iteBF (by cases pre <;> rfl) ?_
      refine ⟨_, rfl, lo, _, _, _, _, rfl, e1.h _ _ hins, T.c_BallClock, T.n_BallClock_kept_calls, rfl, _, rfl, cl, _, _, _, rfl, rfl, e1.bh.seq hcl, atI_last, t, _, 1, _, rfl, rfl, e1.bh.tup ht, atI_nat (j := 1) rfl, ?_⟩
      exact k _ _ _ e1 hsv
def sp_moment (K : PySem.W.Frag) : Sp := fun vs H Q _ => ∃ (B : Hp) (lo : Addr) (c : Clk) (s : Sg Nat) (q : Nat), Same B H ∧ vs = [.ref lo] ∧ LV K B H lo c s q ∧ ∀ B' H' (m : Int), Ext B H B' H' → Q (.int m) H'
theorem c_BallClock_moment (T : Txt w K mg) : HasP P w K mg base "BallClock" "moment" 1 (sp_moment K) := by
  refine HasP.of T.f_BallClock_moment T.p_BallClock_moment T.c_BallClock sc_BallClock_moment (fun _ _ _ _ _ _ us hl => match us, hl with | [_], _ => rfl) (fun vs H Q E h => ?_) (fun f cdv A outer s0 H vs Q E hr h => ?_)
  · obtain ⟨B, lo, c, s, q, hB, rfl, _⟩ := h; rfl
  · obtain ⟨B, lo, c, s, q, hB, rfl, L, k⟩ := h
    obtain ⟨hlb, ⟨dx, kc, cl, cvs, hins, hck, hcl, hq, hcalls⟩, ok, vs⟩ := id L
    refine ⟨_, (pss_one (ps_ret (pe_ifExp (pt_cmpR (op_neE hr.units0) (pF (K := K) rfl (pv 0)) (pe_lst pa_nil) (nomark _)) (pe_ix (xT (K := K) rfl) (pe_ix (xL (K := K) rfl) (pF (K := K) rfl (pv 0)) (pe_un un_neg pe_int) (fun _ _ => rfl)) pe_int (fun _ _ => rfl)) pe_int))), ?_⟩
    refine ⟨_, rfl, lo, _, _, _, _, rfl, hins, T.c_BallClock, T.n_BallClock_kept_calls, rfl, by show 0 ≤ sizeLine; decide, fun z nz => ?_⟩
    have e1 := Ext.tmp hB (.lst []) nz
    refine ⟨cl, z, cvs, rfl, rfl, .inl ⟨e1.bh.seq hcl, SqL.of upd_same⟩, _, rfl, ?_⟩
    rcases hcalls with ⟨rfl, rfl⟩ | ⟨pre, t, call, sv, m, rfl, ht, hsv⟩
    · refine iteBF rfl ?_
      exact k _ _ 0 e1
    · refine iteB (by cases pre <;> rfl) ?_
      refine ⟨_, rfl, lo, _, _, _, _, rfl, e1.h _ _ hins, T.c_BallClock, T.n_BallClock_kept_calls, rfl, _, rfl, cl, _, _, _, rfl, rfl, e1.bh.seq hcl, atI_last, t, _, 2, _, rfl, rfl, e1.bh.tup ht, atI_nat (j := 2) rfl, ?_⟩
      exact k _ _ m e1
def sp_keep (K : PySem.W.Frag) : Sp := fun vs H Q _ => ∃ (B : Hp) (lo : Addr) (c : Clk) (s s' : Sg Nat) (q : Nat) (call sv : V) (t : Int), Same B H ∧ vs = [.ref lo, call, sv, .int t] ∧ LV K B H lo c s q ∧ q ≤ 900 ∧ SG K B sv s' ∧ VS c s' ∧ ∀ B' H', Ext B (Wo H lo) B' H' → LV K B' H' lo c s' (q + 1) → Q .non H'
theorem c_BallClock_keep (T : Txt w K mg) : HasM P w K mg base "BallClock" "keep" 3 ["self", "call", "sight", "ticks"] (sp_keep K) := by
  refine HasM.of T.f_BallClock_keep T.m_BallClock_keep T.c_BallClock sc_BallClock_keep (fun _ _ _ _ _ _ us hl => match us, hl with | [_, _, _, _], _ => rfl) (fun vs H Q E h => ?_) (fun f cdv A outer s0 H vs Q E hr h => ?_)
  · obtain ⟨B, lo, c, s, s', q, call, sv, t, hB, rfl, _⟩ := h; rfl
  · obtain ⟨B, lo, c, s, s', q, call, sv, t, hB, rfl, L, hq9, hsv, vs', k⟩ := h
    obtain ⟨hlb, ⟨dx, kc, cl, cvs, hins, hck, hcl, hq, hcalls⟩, ok, vs⟩ := id L
    have e0 : Ext B (Wo H lo) B H := ⟨Same.refl _, hB, Wo.same (Same.refl _), fun _ _ => rfl⟩
    have m0 : Mine (Wo H lo) B H lo (.ins (He.ga K "BallClock") dx [("kept_clock", .ref kc), ("kept_calls", .ref cl)]) := ⟨Wo.at, hlb, hins⟩
    refine ⟨_, (pss_one (ps_fld (pv 0) (pe_lst (StX.pa_star (pF (K := K) rfl (pv 0)) (pa_cons (pe_tup (pa_cons (pv 1) (pa_cons (pv 2) (pa_cons (pe_op op_add (pq (c_BallClock_moment T) hr (pv 0)) (pv 3)) pa_nil)))) pa_nil))) rfl)), ?_⟩
    refine ⟨_, rfl, lo, _, _, _, _, rfl, hins, T.c_BallClock, T.n_BallClock_kept_calls, rfl, cl, _, rfl, .inr (hB.seq hcl), _, rfl, _, rfl, _, rfl, lo, _, _, rfl, hins, ?_⟩
    refine ⟨B, lo, c, s, q, hB, rfl, L, fun B1 H1 m e1 => ?_⟩
    have E1 := e0.trans e1
    have m1 := m0.ext e1
    refine ⟨_, rfl, _, _, rfl, rfl, by show 3 ≤ sizeLine; decide, fun p np => ?_⟩
    have e2 := Ext.new e1.w (.tup [call, sv, .int (m + t)]) np
    have E2 := E1.trans e2
    have m2 := m1.ext e2
    refine ⟨?_, fun l nl => ?_⟩
    · simp only [List.length_append, List.length_cons, List.length_nil]
      exact small1000 (by omega)
    have e3 := Ext.new e2.w (.lst (cvs ++ [.ref p])) nl
    have E3 := E2.trans e3
    have m3 := m2.ext e3
    refine ⟨_, rfl, lo, _, _, _, rfl, m3.h, T.c_BallClock, T.n_BallClock_kept_calls, by show 2 < 1000; decide, ?_⟩
    have e4 := m3.set E3 (.ins (He.ga K "BallClock") dx [("kept_clock", .ref kc), ("kept_calls", .ref l)])
    refine k _ _ e4 ⟨m3.b, ⟨dx, kc, l, cvs ++ [.ref p], upd_same, ((hck.mono E1.b).mono e2.b).mono e3.b, SqL.of upd_same, by simp [hq], .inr ⟨cvs, p, call, sv, m + t, rfl, e3.b.tup (SqT.of upd_same), ((hsv.mono E1.b).mono e2.b).mono e3.b⟩⟩, ok, vs'⟩
end
end BH
end
section
set_option Elab.async false
set_option linter.all false
set_option maxRecDepth 100000
set_option maxHeartbeats 4000000
namespace BH
open PySem PySem.Spec PyProof.Rows L2 BM
section
variable {P : Program} {w : World} {K : PySem.W.Frag} {mg : Str → Option Value} {base : Heap}
def sp_tick (K : PySem.W.Frag) : Sp := fun vs H Q _ => ∃ (B : Hp) (lo : Addr) (c : Clk) (s : Sg Nat) (q : Nat), Same B H ∧ vs = [.ref lo] ∧ LV K B H lo c s q ∧ q ≤ 900 ∧ ∀ B' H', Ext B (Wo H lo) B' H' → LV K B' H' lo c (stepN c.rs 1 s) (q + 1) → Q .non H'
theorem c_BallClock_tick (T : Txt w K mg) : HasM P w K mg base "BallClock" "tick" 14 ["self"] (sp_tick K) := by
  refine HasM.of T.f_BallClock_tick T.m_BallClock_tick T.c_BallClock sc_BallClock_tick (fun _ _ _ _ _ _ us hl => match us, hl with | [_], _ => rfl) (fun vs H Q E h => ?_) (fun f cdv A outer s0 H vs Q E hr h => ?_)
  · obtain ⟨B, lo, c, s, q, hB, rfl, _⟩ := h; rfl
  · obtain ⟨B, lo, c, s, q, hB, rfl, L, hq9, k⟩ := h
    obtain ⟨hlb, ⟨dx, kc, cl, cvs, hins, hck, hcl, hq, hcalls⟩, ok, vs⟩ := id L
    refine ⟨_, (pss_one (ps_expr (pmK (K := K) rfl (c_BallClock_keep T) hr (pv 0) (pa_cons (pe_tup (pa_cons pe_str pa_nil)) (pa_cons (pc (c_moved_sight T) hr (pa_cons (pF (K := K) rfl (pv 0)) (pa_cons (pm0K (K := K) rfl (c_BallClock_sight_now T) hr (pv 0)) (pa_cons pe_int pa_nil)))) (pa_cons pe_int pa_nil)))))), ?_⟩
    refine ⟨_, rfl, lo, _, _, rfl, hins, rfl, by show 1 ≤ sizeLine; decide, fun p np => ?_⟩
    have e1 := Ext.tmp hB (.tup [.str "tick"]) np
    have L1 := L.ext e1
    refine ⟨_, rfl, lo, _, _, _, _, rfl, e1.h _ _ hins, T.c_BallClock, T.n_BallClock_kept_clock, rfl, _, rfl, lo, _, _, rfl, e1.h _ _ hins, rfl, B, lo, c, s, q, e1.w, rfl, L1, fun B2 H2 sv e2 hsv => ?_⟩
    have E2 := e1.trans e2
    refine ⟨B2, _, e2.w, ⟨.ref kc, sv, c, s, 1, rfl, hck.mono e2.b, hsv, ok, vs, rfl⟩, fun B3 H3 sv' e3 hsv' => ?_⟩
    have E3 := E2.trans e3
    have L3 := L.ext E3
    refine ⟨B3, lo, c, s, stepN c.rs 1 s, q, .ref p, sv', 1, e3.w, rfl, L3, hq9, hsv', stepN_vs ok 1 vs, fun B4 H4 e4 L4 => ?_⟩
    exact k _ _ (Ext.transW Wo.at (E3.wo (d := lo)) e4) L4
def sp_run_ticks (K : PySem.W.Frag) : Sp := fun vs H Q _ => ∃ (B : Hp) (lo : Addr) (c : Clk) (s : Sg Nat) (q t : Nat), Same B H ∧ vs = [.ref lo, .int (t : Int)] ∧ LV K B H lo c s q ∧ q ≤ 900 ∧ 1 ≤ t ∧ ∀ B' H', Ext B (Wo H lo) B' H' → LV K B' H' lo c (stepN c.rs t s) (q + 1) → Q .non H'
theorem c_BallClock_run (T : Txt w K mg) : HasM P w K mg base "BallClock" "run" 14 ["self", "ticks"] (sp_run_ticks K) := by
  refine HasM.of T.f_BallClock_run T.m_BallClock_run T.c_BallClock sc_BallClock_run (fun _ _ _ _ _ _ us hl => match us, hl with | [_, _], _ => rfl) (fun vs H Q E h => ?_) (fun f cdv A outer s0 H vs Q E hr h => ?_)
  · obtain ⟨B, lo, c, s, q, t, hB, rfl, _⟩ := h; rfl
  · obtain ⟨B, lo, c, s, q, t, hB, rfl, L, hq9, ht, k⟩ := h
    refine ⟨_, (pss_cons (ps_expr (pc (c_require_at_least T) hr (pa_cons (pv 1) (pa_cons pe_int pa_nil))))
      (pss_one (ps_expr (pmK (K := K) rfl (c_BallClock_keep T) hr (pv 0) (pa_cons (pe_tup (pa_cons pe_str (pa_cons (pv 1) pa_nil))) (pa_cons (pc (c_moved_sight T) hr (pa_cons (pF (K := K) rfl (pv 0)) (pa_cons (pm0K (K := K) rfl (c_BallClock_sight_now T) hr (pv 0)) (pa_cons (pv 1) pa_nil)))) (pa_cons (pv 1) pa_nil))))))), ?_⟩
    refine ⟨_, rfl, B, _, hB, ⟨(t : Int), 1, rfl, by omega, rfl⟩, fun B0 H0 v0 e0 hv0 => ?_⟩
    have L0 := L.ext e0
    obtain ⟨hlb, ⟨dx, kc, cl, cvs, hins, hck, hcl, hq, hcalls⟩, ok, vs⟩ := id L0
    refine ⟨_, rfl, lo, _, _, rfl, hins, rfl, _, rfl, by show 2 ≤ sizeLine; decide, fun p np => ?_⟩
    have e1 := Ext.tmp e0.w (.tup [.str "run", .int (t : Int)]) np
    have L1 := L0.ext e1
    refine ⟨_, rfl, lo, _, _, _, _, rfl, e1.h _ _ hins, T.c_BallClock, T.n_BallClock_kept_clock, rfl, _, rfl, lo, _, _, rfl, e1.h _ _ hins, rfl, B0, lo, c, s, q, e1.w, rfl, L1, fun B2 H2 sv e2 hsv => ?_⟩
    have E2 := e1.trans e2
    refine ⟨_, rfl, B2, _, e2.w, ⟨.ref kc, sv, c, s, t, rfl, hck.mono e2.b, hsv, ok, vs, rfl⟩, fun B3 H3 sv' e3 hsv' => ?_⟩
    have E3 := E2.trans e3
    have L3 := L0.ext E3
    refine ⟨_, rfl, B3, lo, c, s, stepN c.rs t s, q, .ref p, sv', (t : Int), e3.w, rfl, L3, hq9, hsv', stepN_vs ok t vs, fun B4 H4 e4 L4 => ?_⟩
    exact k _ _ (Ext.transW Wo.at ((e0.trans E3).wo (d := lo)) e4) L4
theorem swp_get (a b x : Nat) (hab : a ≠ b) : (valV (mergeK [] [((Sum.inl (a : Int) : Key), V.int (b : Int)), (Sum.inl (b : Int), V.int (a : Int))]) (Sum.inl (x : Int))).getD (.int (x : Int)) = .int (swp a b x : Nat) := by
  have inj : ∀ m n : Nat, ((Sum.inl (m : Int) : Key) = Sum.inl (n : Int)) ↔ m = n := fun m n => ⟨fun h => by have := Sum.inl.inj h; omega, fun h => by rw [h]⟩
  show (valV (putK (putK [] (Sum.inl (a : Int) : Key) (V.int (b : Int))) (Sum.inl (b : Int)) (V.int (a : Int))) (Sum.inl (x : Int))).getD (.int (x : Int)) = _
  rw [valV_put, valV_put]
  unfold swp
  by_cases h2 : x = b
  · have h1 : ¬ x = a := fun z => hab (by omega)
    rw [if_pos ((inj x b).mpr h2), if_neg h1, if_pos h2]
    rfl
  · rw [if_neg (fun z => h2 ((inj x b).mp z))]
    by_cases h1 : x = a
    · rw [if_pos ((inj x a).mpr h1), if_pos h1]
      rfl
    · rw [if_neg (fun z => h1 ((inj x a).mp z)), if_neg h1, if_neg h2]
      rfl
def sp_swap (K : PySem.W.Frag) : Sp := fun vs H Q _ => ∃ (B : Hp) (lo : Addr) (c : Clk) (s : Sg Nat) (q a b : Nat), Same B H ∧ vs = [.ref lo, .int (a : Int), .int (b : Int)] ∧ LV K B H lo c s q ∧ q ≤ 900 ∧ a < c.n ∧ b < c.n ∧ a ≠ b ∧ ∀ B' H', Ext B (Wo H lo) B' H' → LV K B' H' lo c (Sg.map (swp a b) s) (q + 1) → Q .non H'
theorem c_BallClock_swap (T : Txt w K mg) : HasM P w K mg base "BallClock" "swap" 14 ["self", "one", "other"] (sp_swap K) := by
  refine HasM.of T.f_BallClock_swap T.m_BallClock_swap T.c_BallClock sc_BallClock_swap (fun _ _ _ _ _ _ us hl => match us, hl with | [_, _, _], _ => rfl) (fun vs H Q E h => ?_) (fun f cdv A outer s0 H vs Q E hr h => ?_)
  · obtain ⟨B, lo, c, s, q, a, b, hB, rfl, _⟩ := h; rfl
  · obtain ⟨B, lo, c, s, q, a, b, hB, rfl, L, hq9, hab1, hab2, hab, k⟩ := h
    have hu := hu_of hr
    have hins0 := L.ex
    obtain ⟨dx, kc, cl, cvs, hins, hck, hcl, hq, hcalls⟩ := L.ex
    have ok := L.ok
    have vs := L.vs
    have hrb := rows_bounds ok vs
    have hn100 := ok.n100
    have hl3 := ok.l3
    refine ⟨_, (pss_cons (ps_expr (pc (c_require_ball T) hr (pa_cons (pF (K := K) rfl (pv 0)) (pa_cons (pv 1) pa_nil))))
      (pss_cons (ps_expr (pc (c_require_ball T) hr (pa_cons (pF (K := K) rfl (pv 0)) (pa_cons (pv 2) pa_nil))))
      (pss_cons (ps_if (pt_cmpR op_eq (pv 1) (pv 2) (nomark _)) (pss_one ps_never) pss_nil)
      (pss_cons (ps_set (i := 3) sc_BallClock_swap.nd rfl (.inr rfl) (pe_disp (pps_cons (pv 1) (pv 2) (pps_cons (pv 2) (pv 1) pps_nil)) (by rfl) (by rfl) (fun z => by cases z) (by decide)))
      (pss_cons (ps_setLc (i := 4) (own := [("balls", 5)]) (g := (gName 5)) rfl sc_BallClock_swap.nd rfl rfl (sw_true rfl rfl rfl (by decide +kernel)) (piL (K := K) rfl (pm0K (K := K) rfl (c_BallClock_sight_now T) hr (pv 0))) (blkOk_by (by kernel_rfl)) (fun _ _ _ _ _ => (pg_name (i := 5) sc_BallClock_swap.nd rfl (.inl rfl))) (fun _ _ _ _ _ => pts_nil) (fun _ _ _ _ _ => (pe_lc (own := [("ball", 6)]) (g := (gName 6)) rfl sc_BallClock_swap.nd (piL (K := K) rfl (pv 5)) (blkOk_by (by kernel_rfl)) (fun _ _ _ _ _ => (pg_name (i := 6) sc_BallClock_swap.nd rfl (.inl rfl))) (fun _ _ _ _ _ => pts_nil) (fun _ _ _ _ _ => (pe_dget2 hu (pv 3) (pv 6) (pv 6) ⟨rfl, rfl, rfl, rfl⟩)))))
      (pss_one (ps_expr (pmK (K := K) rfl (c_BallClock_keep T) hr (pv 0) (pa_cons (pe_tup (pa_cons pe_str (pa_cons (pv 1) (pa_cons (pv 2) pa_nil)))) (pa_cons (pv 4) (pa_cons pe_int pa_nil))))))))))), ?_⟩
    refine ⟨_, rfl, lo, _, _, _, _, rfl, hins, T.c_BallClock, T.n_BallClock_kept_clock, rfl, _, rfl, B, _, hB, ⟨.ref kc, c, a, rfl, hck, hab1, rfl⟩, fun B1 H1 v1 e1 hv1 => ?_⟩
    refine ⟨_, rfl, lo, _, _, _, _, rfl, e1.h _ _ hins, T.c_BallClock, T.n_BallClock_kept_clock, rfl, _, rfl, B1, _, e1.w, ⟨.ref kc, c, b, rfl, hck.mono e1.b, hab2, rfl⟩, fun B2 H2 v2 e2 hv2 => ?_⟩
    have E2 := e1.trans e2
    refine ⟨_, rfl, _, rfl, rfl, _, rfl, iteBF (by simp; omega) ?_⟩
    refine fun d nd => ?_
    have e3 := Ext.tmp e2.w (.dK []) nd
    refine ⟨_, rfl, _, rfl, _, rfl, _, rfl, upd_same, [((Sum.inl (a : Int) : Key), V.int (b : Int)), (Sum.inl (b : Int), V.int (a : Int))], rfl, by show 2 ≤ 15; decide, ?_⟩
    have md := (Mine.new (o := .dK []) E2 nd)
    have e4 := md.set (E2.trans e3) (.dK (mergeK [] [((Sum.inl (a : Int) : Key), V.int (b : Int)), (Sum.inl (b : Int), V.int (a : Int))]))
    have md4 := md.put (.dK (mergeK [] [((Sum.inl (a : Int) : Key), V.int (b : Int)), (Sum.inl (b : Int), V.int (a : Int))]))
    have L4 := L.ext e4
    refine ⟨_, rfl, lo, _, _, rfl, e4.h _ _ hins, rfl, B2, lo, c, s, q, e4.w, rfl, L4, fun B5 H5 sv e5 hsv => ?_⟩
    have E5 := e4.trans e5
    have md5 := md4.ext e5
    obtain ⟨sa, svs, rfl, hsa, hsvs⟩ := hsv
    have hsl : svs.length = s.2.length + 1 := Paired.length hsvs
    have hvl := vs.len
    refine ⟨sa, rfl, ⟨_, e5.w.seq hsa⟩, fun D hD => lc_new (walk_list svs) (fun i B y => ∀ row, (rowsOf s)[i]? = some row → LN K B y (row.map (swp a b))) e5.w (fun H' e => e.seq hsa) (by omega) hD (fun _ _ _ _ e h row hrow => (h row hrow).mono e) ?_ ?_⟩
    · intro i y B6 H6 H6' N hi e6 hy hN
      obtain ⟨rfl, hy⟩ := hy
      obtain ⟨row, hrow, ra, rfl, hra⟩ := pat hsvs hy
      have hrow' : (rowsOf s)[i]? = some row := hrow
      have hrb1 := hrb row (List.mem_of_getElem? hrow')
      refine ⟨rfl, ?_⟩
      refine ⟨_, rfl, ra, rfl, ⟨_, e6.bh.seq hra⟩, fun D2 hD2 => lc_new (walk_list _) (fun i _ y => y = V.int ((row.map (swp a b)).getD i 0 : Nat)) e6.w (fun H' e => e.seq (e6.b.seq hra)) (by rw [List.length_map]; omega) hD2 (fun _ _ _ _ _ h => h) ?_ ?_⟩
      · intro j y B7 H7 H7' N2 hj e7 hy hN2
        obtain ⟨rfl, hy⟩ := hy
        rw [List.getElem?_map] at hy
        obtain ⟨x, hx, rfl⟩ := Option.map_eq_some_iff.mp hy
        have hd7 := e7.h _ _ (e6.h _ _ md5.h)
        refine ⟨rfl, ?_⟩
        refine ⟨_, rfl, d, rfl, ?_, _, rfl, _, rfl, _, DGet.k (k := Sum.inl (x : Int)) hd7, ?_⟩
        · exact .inl ⟨_, .inl hd7⟩
        · rw [swp_get a b x hab]
          refine hN2 _ _ _ (Ext.refl e7.w) ?_
          rw [List.getD_eq_getElem?_getD, List.getElem?_map, hx]
          rfl
      · intro B7 H7 ys e7 hD7 hl7 hys
        have hyl : ys.length = (row.map (swp a b)).length := by rw [hl7, List.length_map, List.length_map]
        obtain rfl := ys_of hyl hys
        refine hN B7 H7 _ e7 fun row2 hrow2 => ?_
        rw [hrow'] at hrow2
        obtain rfl := Option.some.inj hrow2
        exact ⟨D2, rfl, SqL.of hD7⟩
    · intro B6 H6 ys e6 hD6 hl6 hys
      have E6 := E5.trans e6
      have L6 := L.ext E6
      obtain ⟨dx6, kc6, cl6, cvs6, hins6, _⟩ := L6.ex
      refine ⟨_, rfl, lo, _, _, rfl, hins6, rfl, _, rfl, _, rfl, by show 3 ≤ sizeLine; decide, fun p np => ?_⟩
      have e7 := Ext.tmp e6.w (.tup [.str "swap", .int (a : Int), .int (b : Int)]) np
      have E7 := E6.trans e7
      have L7 := L.ext E7
      refine ⟨_, rfl, B6, lo, c, s, Sg.map (swp a b) s, q, .ref p, .ref D, 0, e7.w, rfl, L7, hq9, ⟨D, ys, rfl, SqL.of hD6, ?_⟩, swap_vs hab1 hab2 vs, fun B8 H8 e8 L8 => ?_⟩
      · refine paired_of (by rw [hl6, hsl]; show _ = (Sg.map (swp a b) s).2.length + 1; unfold Sg.map; simp) fun i y row hy hrow => ?_
        have hrow2 : ((rowsOf s).map (List.map (swp a b)))[i]? = some row := hrow
        rw [List.getElem?_map] at hrow2
        obtain ⟨r0, hr0, rfl⟩ := Option.map_eq_some_iff.mp hrow2
        exact hys i y hy r0 hr0
      · exact k _ _ (Ext.transW Wo.at (E7.wo (d := lo)) e8) L8
def sp_sight (K : PySem.W.Frag) : Sp := fun vs H Q _ => ∃ (B : Hp) (lo : Addr) (c : Clk) (s : Sg Nat) (q : Nat), Same B H ∧ vs = [.ref lo] ∧ LV K B H lo c s q ∧ ∀ B' H' v, Ext B H B' H' → SG K B' v s → Q v H'
theorem c_BallClock_sight (T : Txt w K mg) : HasP P w K mg base "BallClock" "sight" 2 (sp_sight K) := by
  refine HasP.of T.f_BallClock_sight T.p_BallClock_sight T.c_BallClock sc_BallClock_sight (fun _ _ _ _ _ _ us hl => match us, hl with | [_], _ => rfl) (fun vs H Q E h => ?_) (fun f cdv A outer s0 H vs Q E hr h => ?_)
  · obtain ⟨B, lo, c, s, q, hB, rfl, _⟩ := h; rfl
  · obtain ⟨B, lo, c, s, q, hB, rfl, L, k⟩ := h
    obtain ⟨dx, kc, cl, cvs, hins, _⟩ := L.ex
    have ok := L.ok
    have vs := L.vs
    have hl3 := ok.l3
    have hvl := vs.len
    refine ⟨_, (pss_one (ps_ret (pe_lc (own := [("balls", 1)]) (g := (gName 1)) rfl sc_BallClock_sight.nd (piL (K := K) rfl (pm0K (K := K) rfl (c_BallClock_sight_now T) hr (pv 0))) (blkOk_by (by kernel_rfl)) (fun _ _ _ _ _ => (pg_name (i := 1) sc_BallClock_sight.nd rfl (.inl rfl))) (fun _ _ _ _ _ => pts_nil) (fun _ _ _ _ _ => (pe_callTy (cLst (K := K) rfl) (by rfl) T.b_list (by decide +kernel) (pa_cons (pv 1) pa_nil)))))), ?_⟩
    refine ⟨_, rfl, lo, _, _, rfl, hins, rfl, B, lo, c, s, q, hB, rfl, L, fun B1 H1 sv e1 hsv => ?_⟩
    obtain ⟨sa, svs, rfl, hsa, hsvs⟩ := hsv
    have hsl : svs.length = s.2.length + 1 := Paired.length hsvs
    refine ⟨sa, rfl, ⟨_, e1.w.seq hsa⟩, fun D hD => lc_new (walk_list svs) (fun i B y => ∀ row, (rowsOf s)[i]? = some row → LN K B y row) e1.w (fun H' e => e.seq hsa) (by omega) hD (fun _ _ _ _ e h row hrow => (h row hrow).mono e) ?_ ?_⟩
    · intro i y B3 H3 H3' N hi e3 hy hN
      obtain ⟨rfl, hy⟩ := hy
      obtain ⟨row, hrow, ra, rfl, hra⟩ := pat hsvs hy
      have hrow' : (rowsOf s)[i]? = some row := hrow
      refine ⟨rfl, ?_⟩
      refine ⟨_, rfl, ra, _, rfl, .inl (e3.bh.seq hra), fun p np => ?_⟩
      refine hN _ _ _ (Ext.new e3.w _ np) fun row2 hrow2 => ?_
      rw [hrow'] at hrow2
      obtain rfl := Option.some.inj hrow2
      exact ⟨p, rfl, SqL.of upd_same⟩
    · intro B6 H6 ys e6 hD6 hl6 hys
      exact k _ _ _ (e1.trans e6) ⟨D, ys, rfl, SqL.of hD6, paired_of (by rw [hl6, hsl]; rfl) fun i y row hy hrow => hys i y hy row hrow⟩
def sp_counts (K : PySem.W.Frag) : Sp := fun vs H Q _ => ∃ (B : Hp) (lo : Addr) (c : Clk) (s : Sg Nat) (q : Nat), Same B H ∧ vs = [.ref lo] ∧ LV K B H lo c s q ∧ ∀ B' H' v, Ext B H B' H' → LN K B' v (cnts s) → Q v H'
theorem c_BallClock_counts (T : Txt w K mg) : HasP P w K mg base "BallClock" "counts" 2 (sp_counts K) := by
  refine HasP.of T.f_BallClock_counts T.p_BallClock_counts T.c_BallClock sc_BallClock_counts (fun _ _ _ _ _ _ us hl => match us, hl with | [_], _ => rfl) (fun vs H Q E h => ?_) (fun f cdv A outer s0 H vs Q E hr h => ?_)
  · obtain ⟨B, lo, c, s, q, hB, rfl, _⟩ := h; rfl
  · obtain ⟨B, lo, c, s, q, hB, rfl, L, k⟩ := h
    obtain ⟨dx, kc, cl, cvs, hins, _⟩ := L.ex
    have ok := L.ok
    have vs := L.vs
    have hl3 := ok.l3
    have hvl := vs.len
    refine ⟨_, (pss_one (ps_ret (pe_lc (own := [("balls", 1)]) (g := (gName 1)) rfl sc_BallClock_counts.nd (piL (K := K) rfl (pe_slice (slL (K := K) rfl) (pm0K (K := K) rfl (c_BallClock_sight_now T) hr (pv 0)) (po_some pe_int) po_none)) (blkOk_by (by kernel_rfl)) (fun _ _ _ _ _ => (pg_name (i := 1) sc_BallClock_counts.nd rfl (.inl rfl))) (fun _ _ _ _ _ => pts_nil) (fun _ _ _ _ _ => (pe_callB (cLen (K := K) rfl) (by rfl) T.b_len (by decide +kernel) (pa_cons (pv 1) pa_nil)))))), ?_⟩
    refine ⟨_, rfl, lo, _, _, rfl, hins, rfl, B, lo, c, s, q, hB, rfl, L, fun B1 H1 sv e1 hsv => ?_⟩
    obtain ⟨sa, svs, rfl, hsa, hsvs⟩ := hsv
    cases hsvs with
    | @cons q0 _ svs _ hq0 hsvs =>
    have hsl : svs.length = s.2.length := Paired.length hsvs
    refine ⟨1, rfl, sa, _, rfl, e1.w.seq hsa, fun d nd => ?_⟩
    have e2 := Ext.new e1.w (.lst (cutV (q0 :: svs) (some 1) none)) nd
    have E2 := e1.trans e2
    rw [cut1, drop1_cons] at e2 E2 ⊢
    refine ⟨d, rfl, ⟨_, SqL.of upd_same⟩, fun D hD => lc_new (walk_list svs) (fun i _ y => y = V.int ((cnts s).getD i 0 : Nat)) e2.w (fun H' e => e.seq (SqL.of upd_same)) (by omega) hD (fun _ _ _ _ _ h => h) ?_ ?_⟩
    · intro i y B3 H3 H3' N hi e3 hy hN
      obtain ⟨rfl, hy⟩ := hy
      obtain ⟨row, hrow, ra, rfl, hra⟩ := pat hsvs hy
      refine ⟨rfl, ?_⟩
      refine ⟨_, rfl, ra, _, rfl, .inl (e3.bh.seq (e2.b.seq hra)), ?_⟩
      refine hN _ _ _ (Ext.refl e3.w) ?_
      rw [List.length_map]
      unfold cnts
      rw [List.getD_eq_getElem?_getD, List.getElem?_map, hrow]
      rfl
    · intro B6 H6 ys e6 hD6 hl6 hys
      have hyl : ys.length = (cnts s).length := by rw [hl6, hsl]; unfold cnts; rw [List.length_map]
      obtain rfl := ys_of hyl hys
      exact k _ _ _ (E2.trans e6) ⟨D, rfl, SqL.of hD6⟩
end
end BH
end
section
set_option Elab.async false
set_option linter.all false
set_option maxRecDepth 100000
set_option maxHeartbeats 4000000
namespace BH
open PySem PySem.Spec PyProof.Rows L2 BM
inductive Cmd where
  | clock (c : Clk)
  | tick
  | run (t : Nat)
  | swap (a b : Nat)
  | sight
  | counts
  | turn
  | period
  | when
  | spot (b t : Nat)
  | look (l : Look)
  | parts (c : Clk)
namespace Cmd
def name : Cmd → Str
  | clock _ => "clock"
  | tick => "tick"
  | run _ => "run"
  | swap _ _ => "swap"
  | sight => "sight"
  | counts => "counts"
  | turn => "turn"
  | period => "period"
  | when => "when"
  | spot _ _ => "spot"
  | look _ => "look"
  | parts _ => "parts"
def nums : Cmd → List Nat
  | run t => [t]
  | swap a b => [a, b]
  | spot b t => [b, t]
  | look l => [l.w, l.b, l.r, l.p]
  | _ => []
def args : Cmd → List Str
  | clock c => clockW c
  | parts c => clockW c
  | x => x.nums.map dg
def isCh : Cmd → Bool
  | clock _ => true
  | tick => true
  | run _ => true
  | swap _ _ => true
  | _ => false
def clk : Cmd → Clk → Clk
  | clock c, _ => c
  | _, c => c
def sg : Cmd → Clk → Sg Nat → Sg Nat
  | clock c, _, _ => first c
  | tick, c, s => stepN c.rs 1 s
  | run t, c, s => stepN c.rs t s
  | swap a b, _, s => Sg.map (swp a b) s
  | _, _, s => s
def Ok : Cmd → Clk → Prop
  | clock k, _ => k.Ok
  | run t, _ => 1 ≤ t ∧ t < 10 ^ 30
  | swap a b, c => a < c.n ∧ b < c.n ∧ a ≠ b
  | period, c => c.n ≤ 18
  | when, c => c.n ≤ 18
  | spot b t, c => b < c.n ∧ t < 10 ^ 30
  | look l, c => l.Ok c ∧ l.w < 10 ^ 30 ∧ l.p < 10 ^ 30
  | parts k, c => k.Ok ∧ c.n = k.n ∧ c.rs.length = k.rs.length
  | _, _ => True
def text (x : Cmd) : Str := Str.join sp1 (x.name :: x.args)
end Cmd
/-- what a question is answered -/
def Ans : Cmd → Clk → Sg Nat → Str → Prop
  | .sight, _, s, a => a = sightT s
  | .counts, _, s, a => a = numsT (cnts s)
  | .turn, c, _, a => a = dg (prod c.rs)
  | .period, c, _, a => ∃ p, a = dg p ∧ Per c p
  | .when, c, s, a => ∃ o, a = optT o ∧ ∀ t, o = some t → stepN c.rs t (first c) = s ∧ t ≤ 1728 * 12252240
  | .spot b t, c, _, a => ∃ r p, a = numsT [r, p] ∧ SpotO (stepN c.rs t (first c)) b r p
  | .look l, c, _, a => PerEx c ∧ ∃ o, a = optT o ∧ (o = none → NoFit c l) ∧ ∀ t, o = some t → LeastFit c l t
  | .parts k, c, _, a => a = optT (unl c.rs k.rs 1)
  | _, _, _, a => a = "ok"
def VAL (K : PySem.W.Frag) (B : Hp) (v : V) : Cmd → Prop
  | .clock c => ∃ a cv, v = .ref a ∧ SqL K B a [cv] ∧ CK K B cv c
  | .parts c => ∃ a cv, v = .ref a ∧ SqL K B a [cv] ∧ CK K B cv c
  | x => LN K B v x.nums
theorem VAL.mono {K : PySem.W.Frag} {B B' : Hp} {v : V} {x : Cmd} (h : VAL K B v x) (e : Same B B') : VAL K B' v x := by
  cases x with
  | clock c => obtain ⟨a, cv, h1, h2, h3⟩ := h; exact ⟨a, cv, h1, e.seq h2, h3.mono e⟩
  | parts c => obtain ⟨a, cv, h1, h2, h3⟩ := h; exact ⟨a, cv, h1, e.seq h2, h3.mono e⟩
  | _ => exact LN.mono e h
/-- a console at co with its live clock at lo -/
structure CS (K : PySem.W.Frag) (B H : Hp) (co lo : Addr) (c : Clk) (s : Sg Nat) (q : Nat) : Prop where
  b : B co = none
  ex : ∃ dx cv, H co = some (.ins (He.ga K "Console") dx [("set_clock", cv), ("set_live", .ref lo)]) ∧ CK K B cv c
  live : LV K B H lo c s q
  ne : co ≠ lo
theorem CS.ext {K : PySem.W.Frag} {B H B1 H1 : Hp} {co lo : Addr} {c : Clk} {s : Sg Nat} {q : Nat} (l : CS K B H co lo c s q) (e : Ext B H B1 H1) : CS K B1 H1 co lo c s q := by
  obtain ⟨hb, ⟨dx, cv, h1, h2⟩, L, n⟩ := l
  exact ⟨by rw [e.n co (by rw [h1]; exact fun z => nomatch z)]; exact hb, ⟨dx, cv, e.h _ _ h1, h2.mono e.b⟩, L.ext e, n⟩
theorem CS.wo {K : PySem.W.Frag} {B H B1 H1 : Hp} {co lo d : Addr} {c : Clk} {s : Sg Nat} {q : Nat} (l : CS K B H co lo c s q) (n1 : co ≠ d) (n2 : lo ≠ d) (e : Ext B (Wo H d) B1 H1) : CS K B1 H1 co lo c s q := by
  obtain ⟨hb, ⟨dx, cv, h1, h2⟩, L, n⟩ := l
  have h1' : Wo H d co = some (.ins (He.ga K "Console") dx [("set_clock", cv), ("set_live", .ref lo)]) := by rw [Wo.other n1]; exact h1
  exact ⟨by rw [e.n co (by rw [h1']; exact fun z => nomatch z)]; exact hb, ⟨dx, cv, e.h _ _ h1', h2.mono e.b⟩, L.wo n2 e, n⟩
theorem mcT {z : Str} {t : TS} {u : Str → TS} {D : Ends} {σ : L2.St} {H : Hp} (h : t D σ H) : (fun y : Str => if y = z then t else u y) z D σ H := by show (if z = z then t else u z) D σ H; rw [if_pos rfl]; exact h
theorem mcF {y z : Str} {t : TS} {u : Str → TS} {D : Ends} {σ : L2.St} {H : Hp} (n : y ≠ z) (h : u y D σ H) : (fun y : Str => if y = z then t else u y) y D σ H := by show (if y = z then t else u y) D σ H; rw [if_neg n]; exact h
section
variable {P : Program} {w : World} {K : PySem.W.Frag} {mg : Str → Option Value} {base : Heap}
def sp_command_values (K : PySem.W.Frag) : Sp := Pu fun B vs R => ∃ (nm : Str) (wa : Addr) (ws : List Str), vs = [.str nm, .ref wa] ∧ SqL K B wa (ws.map V.str) ∧
  ((∃ c : Clk, inV (.str nm) [.str "clock", .str "parts"] = true ∧ ws = clockW c ∧ c.Ok ∧ R = fun B' v => ∃ a cv, v = .ref a ∧ SqL K B' a [cv] ∧ CK K B' cv c) ∨
   (∃ nums : List Nat, ws = nums.map dg ∧ (∀ n ∈ nums, n < 10 ^ 30) ∧ nums.length ≤ 4 ∧ inV (.str nm) [.str "clock", .str "parts"] = false ∧ (∃ t, PySem.W.nsIn K (He.ga K "FORMS") nm = some (some (.int (nums.length : Nat) t))) ∧ (nm = "spot" → ∃ b t, nums = [b, t]) ∧ R = fun B' v => LN K B' v nums))
theorem c_command_values (T : Txt w K mg) : Has P w K mg base "command_values" 5 ["name", "words"] (sp_command_values K) := by
  refine Has.of T.f_command_values T.g_command_values sc_command_values (fun _ _ _ _ _ _ us hl => match us, hl with | [_, _], _ => rfl) (fun vs H Q E h => ?_) (fun f cdv A outer s0 H vs Q E hr h => ?_)
  · obtain ⟨B, R, hB, ⟨nm, wa, ws, rfl, _⟩, _⟩ := h; rfl
  · obtain ⟨B, R, hB, ⟨nm, wa, ws, rfl, hwa, hor⟩, k⟩ := h
    refine ⟨_, (pss_cons (ps_if (pt_cmpR (oIn (K := K) rfl) (pv 0) (pe_tup (pa_cons pe_str (pa_cons pe_str pa_nil))) rfl) (pss_one (ps_ret (pc (c_clock_values T) hr (pa_cons (pe_join pe_str (pv 1)) pa_nil)))) pss_nil)
      (pss_cons (ps_if (pt_cmpR op_ne (pe_getK T.kdF.choose_spec.choose_spec (pe_glob (v := .ref (He.ga K "FORMS")) rfl T.g_FORMS rfl) (pv 0)) (pe_callB (cLen (K := K) rfl) (by rfl) T.b_len (by decide +kernel) (pa_cons (pv 1) pa_nil)) (nomark _)) (pss_one (ps_ret pe_non)) pss_nil)
      (pss_cons (ps_setLc (i := 2) (own := [("word", 3)]) (g := (gName 3)) rfl sc_command_values.nd rfl rfl (sw_true rfl rfl rfl (by decide +kernel)) (piL (K := K) rfl (pv 1)) (blkOk_by (by kernel_rfl)) (fun _ _ _ _ _ => (pg_name (i := 3) sc_command_values.nd rfl (.inl rfl))) (fun _ _ _ _ _ => pts_nil) (fun _ _ _ _ _ => (pc (c_natural_of T) hr (pa_cons (pv 3) pa_nil))))
      (pss_cons (ps_if (pt_cmpR op_eq (pv 0) pe_str (nomark _)) (pss_one (ps_asg (pc (c_integer_of T) hr (pa_cons (pe_ix (xL (K := K) rfl) (pv 1) pe_int (fun _ _ => rfl)) pa_nil)) (pg_sub (pv 2) pe_int set_list))) pss_nil)
      (pss_one (ps_ret (pe_ifExp (pt_cmpR (oIn (K := K) rfl) pe_non (pv 2) rfl) pe_non (pv 2)))))))), ?_⟩
    refine ⟨_, rfl, by show 2 ≤ sizeLine; decide, fun p np => ?_⟩
    have e1 := Ext.tmp hB (.tup [.str "clock", .str "parts"]) np
    refine ⟨p, _, rfl, .inr (SqT.of upd_same), rfl, rfl, _, rfl, ?_⟩
    rw [if_neg Bool.false_ne_true]
    rcases hor with ⟨c, hin, rfl, ok, rfl⟩ | ⟨nums, rfl, hnums, hnl, hin, ⟨tk, hform⟩, hspot, rfl⟩
    · refine iteB hin ?_
      have hcl := clockW_len ok
      have hcc := clockW_count ok
      refine ⟨⟨_, rfl⟩, _, rfl, sp1, wa, clockW c, rfl, rfl, .inl (e1.bh.seq hwa), join_ok _ 4 hcl (by omega) (by decide), ?_⟩
      rw [TL.join_eq]
      exact ⟨B, _, e1.w, ⟨c, rfl, ok, rfl⟩, fun B2 H2 v2 e2 hv2 => k _ _ _ (e1.trans e2) hv2⟩
    · refine iteBF hin ?_
      refine ⟨rfl, _, rfl, nm, _, .int (nums.length : Nat), rfl, hform, ⟨_, rfl⟩, _, rfl, wa, _, rfl, .inl (e1.bh.seq hwa), rfl, _, rfl, iteBF (by simp) ?_⟩
      refine ⟨_, rfl, wa, rfl, ⟨_, e1.bh.seq hwa⟩, fun D hD => lc_mine (walk_list _) (fun i _ y => y = V.int (nums.getD i 0 : Nat)) e1.w (fun H' e => e.seq hwa) (by rw [List.length_map, List.length_map]; omega) hD (fun _ _ _ _ _ h => h) ?_ ?_⟩
      · intro i y B3 H3 H3' N hi e3 hy hN
        obtain ⟨rfl, hy⟩ := hy
        rw [List.getElem?_map, List.getElem?_map] at hy
        obtain ⟨z, hz, rfl⟩ := Option.map_eq_some_iff.mp hy
        obtain ⟨n, hn, rfl⟩ := Option.map_eq_some_iff.mp hz
        refine ⟨rfl, ?_⟩
        refine ⟨_, rfl, B3, _, e3.w, ⟨n, rfl, hnums n (List.mem_of_getElem? hn), rfl⟩, fun B4 H4 v4 e4 hv4 => ?_⟩
        subst hv4
        refine hN _ _ _ e4 ?_
        rw [List.getD_eq_getElem?_getD, hn]
        rfl
      intro B5 H5 ys e5 m5 hl5 hys
      have hyl : ys.length = nums.length := by rw [hl5, List.length_map, List.length_map]
      obtain rfl := ys_of hyl hys
      have E5 := e1.trans e5
      have m5' : Mine H B5 H5 D (.lst (nums.map fun n : Nat => V.int (n : Int))) := ⟨(upd_none hD).1 |> fun z => (by first | exact z | skip), m5.b, m5.h⟩
      have fin : ∀ B6 H6, Ext B H B6 H6 → Mine H B6 H6 D (.lst (nums.map fun n : Nat => V.int (n : Int))) → ∃ p xs, V.ref D = V.ref p ∧ (SqL K H6 p xs ∨ SqT K H6 p xs) ∧ flatV .non = true ∧ xs.all flatV = true ∧ inV .non xs = false ∧ Q (.ref D) H6 := by
        intro B6 H6 e6 m6
        refine ⟨D, _, rfl, .inl (SqL.of m6.h), rfl, flat_ints nums, ?_, k _ _ _ (m6.frz e6) ⟨D, rfl, SqL.of upd_same⟩⟩
        unfold inV
        rw [List.any_map]
        exact List.any_eq_false.mpr fun x _ => by simp [eqV]
      refine ⟨_, rfl, rfl, _, rfl, ?_⟩
      by_cases hsp : nm = "spot"
      · obtain ⟨b, t, rfl⟩ := hspot hsp
        refine iteB (decide_eq_true (by rw [hsp])) ?_
        refine ⟨_, rfl, wa, _, 1, _, rfl, rfl, E5.bh.seq hwa, atI_nat (j := 1) rfl, B5, _, e5.w, ⟨t, rfl, hnums t (by simp), rfl⟩, fun B6 H6 v6 e6 hv6 => ?_⟩
        subst hv6
        have m6 := m5'.ext e6
        have E6 := E5.trans e6
        refine ⟨_, rfl, D, _, _, 1, rfl, rfl, m6.h, rfl, ?_⟩
        have e7 := m6.set E6 (.lst ([b, t].map fun n : Nat => V.int (n : Int)))
        have m7 := m6.put (.lst ([b, t].map fun n : Nat => V.int (n : Int)))
        obtain ⟨p, xs, h1, h2, h3, h4, h5, h6⟩ := fin _ _ e7 m7
        refine ⟨_, rfl, p, xs, h1, h2, h3, h4, _, rfl, ?_⟩
        rw [if_neg Bool.false_ne_true]
        exact iteBF h5 ⟨_, rfl, h6⟩
      · refine iteBF (decide_eq_false fun z => hsp (V.str.inj z)) ?_
        obtain ⟨p, xs, h1, h2, h3, h4, h5, h6⟩ := fin _ _ E5 m5'
        refine ⟨_, rfl, p, xs, h1, h2, h3, h4, _, rfl, ?_⟩
        rw [if_neg Bool.false_ne_true]
        exact iteBF h5 ⟨_, rfl, h6⟩
end
end BH
end
section
set_option Elab.async false
set_option linter.all false
set_option maxRecDepth 100000
set_option maxHeartbeats 4000000
namespace BH
open PySem PySem.Spec PyProof.Rows L2 BM
def c0 : Clk := ⟨30, [(5, true), (12, true), (12, true)]⟩
theorem c0_ok : c0.Ok := by
  refine ⟨by decide, by decide, by decide, ?_, by decide, by decide, ?_⟩
  · intro r hr
    simp [c0] at hr
    rcases hr with h | h <;> (rw [h]; decide)
  · intro r hr
    simp [c0] at hr
    rcases hr with h | h <;> (rw [h]; decide)
section
variable {P : Program} {w : World} {K : PySem.W.Frag} {mg : Str → Option Value} {base : Heap}
def sp_set_anew (K : PySem.W.Frag) : Sp := fun vs H Q _ => ∃ (B : Hp) (co dx : Addr) (fs : List (Str × V)) (c : Clk) (cv : V), Same B H ∧ vs = [.ref co, cv] ∧ CK K B cv c ∧ c.Ok ∧ B co = none ∧ H co = some (.ins (He.ga K "Console") dx fs) ∧ (fs = [] ∨ ∃ v1 v2 : V, fs = [(("set_clock" : Str), v1), (("set_live" : Str), v2)]) ∧
  ∀ B' H' lo, H lo = none → Ext B (Wo H co) B' H' → CS K B' H' co lo c (first c) 0 → Q .non H'
theorem c_Console_set_anew (T : Txt w K mg) : HasM P w K mg base "Console" "set_anew" 8 ["self", "clock"] (sp_set_anew K) := by
  refine HasM.of T.f_Console_set_anew T.m_Console_set_anew T.c_Console sc_Console_set_anew (fun _ _ _ _ _ _ us hl => match us, hl with | [_, _], _ => rfl) (fun vs H Q E h => ?_) (fun f cdv A outer s0 H vs Q E hr h => ?_)
  · obtain ⟨B, co, dx, fs, c, cv, hB, rfl, _⟩ := h; rfl
  · obtain ⟨B, co, dx, fs, c, cv, hB, rfl, hck, ok, hbc, hins, hfs, k⟩ := h
    refine ⟨_, (pss_one (ps_asg (pe_tup (pa_cons (pv 1) (pa_cons (pk (c_BallClock_init T) hr (pa_cons (pv 1) pa_nil)) pa_nil))) (pg_tup rfl (pgs_cons (pg_fld (pv 0)) (pgs_cons (pg_fld (pv 0)) pgs_nil))))), ?_⟩
    have e0 : Ext B (Wo H co) B H := ⟨Same.refl _, hB, Wo.same (Same.refl _), fun _ _ => rfl⟩
    have m0 : Mine (Wo H co) B H co (.ins (He.ga K "Console") dx fs) := ⟨Wo.at, hbc, hins⟩
    refine ⟨_, rfl, _, rfl, fun x2 dx2 nx2 ndx2 ne2 => ⟨B, x2, dx2, c, cv, same_made hB nx2 ndx2, hB.free nx2, upd_same, rfl, hck, ok, fun B4 H4 e4 L4 => ⟨rfl, ?_⟩⟩⟩
    have e4' := Ext.made hB nx2 ndx2 ne2 e4
    have m4 := m0.ext e4'
    have E4 := e0.trans e4'
    have hne : co ≠ x2 := fun z => by subst z; rw [hins] at nx2; cases nx2
    refine ⟨by show 2 ≤ sizeLine; decide, fun p np => ?_⟩
    have e5 := Ext.tmp e4.w (.tup [cv, .ref x2]) np
    have E5 := E4.trans e5
    have m5 := m4.ext e5
    have L5 := L4.ext e5
    have fin : ∀ H6 : Hp, H6 = upd (upd (upd H4 p (.tup [cv, .ref x2])) co (.ins (He.ga K "Console") dx (putF "set_clock" cv fs))) co (.ins (He.ga K "Console") dx [("set_clock", cv), ("set_live", .ref x2)]) → Q .non H6 := by
      intro H6 e6
      subst e6
      have a1 := m5.set E5 (.ins (He.ga K "Console") dx (putF "set_clock" cv fs))
      have b1 := m5.put (.ins (He.ga K "Console") dx (putF "set_clock" cv fs))
      have a2 := b1.set a1 (.ins (He.ga K "Console") dx [("set_clock", cv), ("set_live", .ref x2)])
      have b2 := b1.put (.ins (He.ga K "Console") dx [("set_clock", cv), ("set_live", .ref x2)])
      refine k _ _ x2 nx2 a2 ⟨b2.b, ⟨dx, cv, b2.h, hck.mono e4.b⟩, ?_, hne⟩
      obtain ⟨lb, ⟨ldx, kc, cl, cvs, l1, l2⟩, l3, l4⟩ := L5
      exact ⟨lb, ⟨ldx, kc, cl, cvs, by rw [upd_ne (Ne.symm hne), upd_ne (Ne.symm hne)]; exact l1, l2⟩, l3, l4⟩
    rcases hfs with rfl | ⟨v1, v2, rfl⟩
    · refine ⟨p, _, rfl, SqT.of upd_same, rfl, _, _, rfl, _, rfl, co, _, _, _, rfl, m5.h, T.c_Console, T.n_Console_set_clock, by show 0 < 1000; decide, _, _, rfl, _, rfl, co, _, _, _, rfl, upd_same, T.c_Console, T.n_Console_set_live, by show 1 < 1000; decide, rfl, fin _ rfl⟩
    · refine ⟨p, _, rfl, SqT.of upd_same, rfl, _, _, rfl, _, rfl, co, _, _, _, rfl, m5.h, T.c_Console, T.n_Console_set_clock, by show 2 < 1000; decide, _, _, rfl, _, rfl, co, _, _, _, rfl, upd_same, T.c_Console, T.n_Console_set_live, by show 2 < 1000; decide, rfl, fin _ rfl⟩
def sp_Console_init (K : PySem.W.Frag) : Sp := fun vs H Q _ => ∃ (B : Hp) (x dx : Addr), Same B H ∧ B x = none ∧ H x = some (.ins (He.ga K "Console") dx []) ∧ vs = [.ref x] ∧
  ∀ B' H' lo, H lo = none → Ext B (Wo H x) B' H' → CS K B' H' x lo c0 (first c0) 0 → Q .non H'
theorem c_Console_init (T : Txt w K mg) : HasI P w K mg base "Console" 9 ["self"] (sp_Console_init K) := by
  refine HasI.of T.f_Console_init T.k_Console T.g_Console sc_Console_init (fun _ _ _ _ _ _ us hl => match us, hl with | [_], _ => rfl) (fun vs H Q E h => ?_) (fun f cdv A outer s0 H vs Q E hr h => ?_)
  · obtain ⟨B, x, dx, hB, hbx, hx, rfl, _⟩ := h; rfl
  · obtain ⟨B, x, dx, hB, hbx, hx, rfl, k⟩ := h
    refine ⟨_, (pss_one (ps_expr (pmK (K := K) rfl (c_Console_set_anew T) hr (pv 0) (pa_cons (pe_tup (pa_cons pe_int (pa_cons (pe_lst (pa_cons (pe_tup (pa_cons pe_int (pa_cons pe_str pa_nil))) (pa_cons (pe_tup (pa_cons pe_int (pa_cons pe_str pa_nil))) (pa_cons (pe_tup (pa_cons pe_int (pa_cons pe_str pa_nil))) pa_nil)))) pa_nil))) pa_nil)))), ?_⟩
    refine ⟨_, rfl, x, _, _, rfl, hx, rfl, by show 2 ≤ sizeLine; decide, fun p1 n1 => ⟨by show 2 ≤ sizeLine; decide, fun p2 n2 => ⟨by show 2 ≤ sizeLine; decide, fun p3 n3 => ⟨by show 3 ≤ sizeLine; decide, fun l nl => ⟨by show 2 ≤ sizeLine; decide, fun t nt => ?_⟩⟩⟩⟩⟩
    have e1 := Ext.new hB (.tup [.int 5, .str "back"]) n1
    have e2 := Ext.new e1.w (.tup [.int 12, .str "back"]) n2
    have e3 := Ext.new e2.w (.tup [.int 12, .str "back"]) n3
    have e4 := Ext.new e3.w (.lst [.ref p1, .ref p2, .ref p3]) nl
    have e5 := Ext.new e4.w (.tup [.int 30, .ref l]) nt
    have E5 := (((e1.trans e2).trans e3).trans e4).trans e5
    have hbx5 : _ = B x := E5.n x (by rw [hx]; exact fun z => nomatch z)
    rw [hbx] at hbx5
    refine ⟨_, x, dx, [], c0, .ref t, e5.w, rfl, ⟨t, _, rfl, SqT.of upd_same, l, _, rfl, e5.b.seq (SqL.of upd_same), .cons ⟨p1, rfl, ?_⟩ (.cons ⟨p2, rfl, ?_⟩ (.cons ⟨p3, rfl, ?_⟩ .nil))⟩, c0_ok, hbx5, E5.h _ _ hx, .inl rfl, fun B' H' lo hlo e6 C6 => ?_⟩
    · exact (((e2.b.trans e3.b).trans e4.b).trans e5.b).tup (SqT.of upd_same)
    · exact ((e3.b.trans e4.b).trans e5.b).tup (SqT.of upd_same)
    · exact (e4.b.trans e5.b).tup (SqT.of upd_same)
    · refine k _ _ lo (E5.h.free hlo) ?_ C6
      exact Ext.transW Wo.at (E5.wo (d := x)) e6
theorem ps_off {X : Cx} {st : Stmt} : PS X st (fun _ _ _ => False) := ⟨fun _ _ _ _ _ _ h => h.elim⟩
abbrev Fr (B H : Hp) (co lo : Addr) (B' H' : Hp) : Prop := Ext B (Wo (Wo H co) lo) B' H'
theorem Ext.fr {B H B' H' : Hp} {co lo : Addr} (e : Ext B H B' H') : Fr B H co lo B' H' := (e.wo (d := co)).wo (d := lo)
theorem Wo.comm {H : Hp} {a b : Addr} : Wo (Wo H a) b = Wo (Wo H b) a := by
  funext x
  unfold Wo
  by_cases h1 : x = a <;> by_cases h2 : x = b <;> simp [h1, h2]
def sp_change (K : PySem.W.Frag) : Sp := fun vs H Q _ => ∃ (B : Hp) (co lo : Addr) (c : Clk) (s : Sg Nat) (q : Nat) (x : Cmd) (val : V), Same B H ∧ vs = [.ref co, .str x.name, val] ∧ CS K B H co lo c s q ∧ q ≤ 900 ∧ VAL K B val x ∧ x.Ok c ∧
  ∀ B' H' lo' q', Fr B H co lo B' H' → (lo' = lo ∨ H lo' = none) → q' ≤ q + 1 → CS K B' H' co lo' (x.clk c) (x.sg c s) q' → Q (.bl x.isCh) H'
theorem c_Console_change (T : Txt w K mg) : HasM P w K mg base "Console" "change" 15 ["self", "name", "values"] (sp_change K) := by
  refine HasM.of T.f_Console_change T.m_Console_change T.c_Console sc_Console_change (fun _ _ _ _ _ _ us hl => match us, hl with | [_, _, _], _ => rfl) (fun vs H Q E h => ?_) (fun f cdv A outer s0 H vs Q E hr h => ?_)
  · obtain ⟨B, co, lo, c, s, q, x, val, hB, rfl, _⟩ := h; rfl
  · obtain ⟨B, co, lo, c, s, q, x, val, hB, rfl, C, hq9, hval, hok, k⟩ := h
    obtain ⟨hcb, ⟨dx, cv, hins, hck⟩, L, hne⟩ := id C
    obtain ⟨ldx, kc, cl, cvs, hlins, _⟩ := L.ex
    refine ⟨_, (pss_cons (ps_match (pv 1) (.str (pss_one (ps_expr (pmK (K := K) rfl (c_Console_set_anew T) hr (pv 0) (pa_cons (pe_ix (xL (K := K) rfl) (pv 2) pe_int (fun _ _ => rfl)) pa_nil)))) (.str (pss_one (ps_expr (pm0K (K := K) rfl (c_BallClock_tick T) hr (pF (K := K) rfl (pv 0))))) (.str (pss_one (ps_expr (pmK (K := K) rfl (c_BallClock_run T) hr (pF (K := K) rfl (pv 0)) (pa_cons (pe_ix (xL (K := K) rfl) (pv 2) pe_int (fun _ _ => rfl)) pa_nil)))) (.str (pss_one (ps_expr (pmK (K := K) rfl (c_BallClock_swap T) hr (pF (K := K) rfl (pv 0)) (pa_cons (pe_ix (xL (K := K) rfl) (pv 2) pe_int (fun _ _ => rfl)) (pa_cons (pe_ix (xL (K := K) rfl) (pv 2) pe_int (fun _ _ => rfl)) pa_nil))))) (.str (pss_one ps_off) (.any (pss_one (ps_ret pe_bl)))))))))
      (pss_one (ps_ret pe_bl))), ?_⟩
    have quiet : ∀ y : Cmd, x = y → y.isCh = false → y.clk c = c → y.sg c s = s → Q (.bl false) H := by
      intro y hy h1 h2 h3
      subst hy
      rw [← h1]
      exact k B H lo q (Ext.refl hB).fr (.inl rfl) (Nat.le_succ q) (by rw [h2, h3]; exact C)
    cases x with
    | clock c' =>
      obtain ⟨va, cv', rfl, hva, hck'⟩ := hval
      refine ⟨_, rfl, _, rfl, ?_⟩
      show (if ("clock" : Str) = "clock" then _ else _ : TS) _ _ _
      rw [if_pos rfl]
      refine ⟨_, rfl, co, _, _, rfl, hins, rfl, _, rfl, va, _, 0, _, rfl, rfl, hB.seq hva, atI_nat (j := 0) rfl, B, co, dx, _, c', cv', hB, rfl, hck', hok, hcb, hins, .inr ⟨_, _, rfl⟩, fun B' H' lo' hlo' e' C' => ?_⟩
      exact k _ _ lo' 0 (e'.wo (d := lo)) (.inr hlo') (Nat.zero_le _) C'
    | tick =>
      refine ⟨_, rfl, _, rfl, ?_⟩
      show (if ("tick" : Str) = "clock" then _ else if ("tick" : Str) = "tick" then _ else _ : TS) _ _ _
      rw [if_neg (by decide +kernel), if_pos rfl]
      refine ⟨_, rfl, co, _, _, _, _, rfl, hins, T.c_Console, T.n_Console_set_live, rfl, lo, _, _, rfl, hlins, rfl, B, lo, c, s, q, hB, rfl, L, hq9, fun B' H' e' L' => ?_⟩
      refine k _ _ lo (q + 1) (by show Ext B (Wo (Wo H co) lo) B' H'; rw [Wo.comm]; exact e'.wo (d := co)) (.inl rfl) (Nat.le_refl _) ?_
      have h1 : Wo H lo co = some (.ins (He.ga K "Console") dx [("set_clock", cv), ("set_live", .ref lo)]) := by rw [Wo.other hne]; exact hins
      exact ⟨by rw [e'.n co (by rw [h1]; exact fun z => nomatch z)]; exact hcb, ⟨dx, cv, e'.h _ _ h1, hck.mono e'.b⟩, L', hne⟩
    | run t =>
      obtain ⟨va, rfl, hva⟩ : LN K B val [t] := hval
      refine ⟨_, rfl, _, rfl, ?_⟩
      show (if ("run" : Str) = "clock" then _ else if ("run" : Str) = "tick" then _ else if ("run" : Str) = "run" then _ else _ : TS) _ _ _
      rw [if_neg (by decide +kernel), if_neg (by decide +kernel), if_pos rfl]
      refine ⟨_, rfl, co, _, _, _, _, rfl, hins, T.c_Console, T.n_Console_set_live, rfl, lo, _, _, rfl, hlins, rfl, _, rfl, va, _, 0, _, rfl, rfl, hB.seq hva, atI_nat (j := 0) rfl, B, lo, c, s, q, t, hB, rfl, L, hq9, hok.1, fun B' H' e' L' => ?_⟩
      refine k _ _ lo (q + 1) (by show Ext B (Wo (Wo H co) lo) B' H'; rw [Wo.comm]; exact e'.wo (d := co)) (.inl rfl) (Nat.le_refl _) ?_
      have h1 : Wo H lo co = some (.ins (He.ga K "Console") dx [("set_clock", cv), ("set_live", .ref lo)]) := by rw [Wo.other hne]; exact hins
      exact ⟨by rw [e'.n co (by rw [h1]; exact fun z => nomatch z)]; exact hcb, ⟨dx, cv, e'.h _ _ h1, hck.mono e'.b⟩, L', hne⟩
    | swap a b =>
      obtain ⟨va, rfl, hva⟩ : LN K B val [a, b] := hval
      refine ⟨_, rfl, _, rfl, ?_⟩
      show (if ("swap" : Str) = "clock" then _ else if ("swap" : Str) = "tick" then _ else if ("swap" : Str) = "run" then _ else if ("swap" : Str) = "swap" then _ else _ : TS) _ _ _
      rw [if_neg (by decide +kernel), if_neg (by decide +kernel), if_neg (by decide +kernel), if_pos rfl]
      refine ⟨_, rfl, co, _, _, _, _, rfl, hins, T.c_Console, T.n_Console_set_live, rfl, lo, _, _, rfl, hlins, rfl, _, rfl, va, _, 0, _, rfl, rfl, hB.seq hva, atI_nat (j := 0) rfl, _, rfl, va, _, 1, _, rfl, rfl, hB.seq hva, atI_nat (j := 1) rfl, B, lo, c, s, q, a, b, hB, rfl, L, hq9, hok.1, hok.2.1, hok.2.2, fun B' H' e' L' => ?_⟩
      refine k _ _ lo (q + 1) (by show Ext B (Wo (Wo H co) lo) B' H'; rw [Wo.comm]; exact e'.wo (d := co)) (.inl rfl) (Nat.le_refl _) ?_
      have h1 : Wo H lo co = some (.ins (He.ga K "Console") dx [("set_clock", cv), ("set_live", .ref lo)]) := by rw [Wo.other hne]; exact hins
      exact ⟨by rw [e'.n co (by rw [h1]; exact fun z => nomatch z)]; exact hcb, ⟨dx, cv, e'.h _ _ h1, hck.mono e'.b⟩, L', hne⟩
    | sight =>
      refine ⟨_, rfl, _, rfl, ?_⟩
      show (if ("sight" : Str) = "clock" then _ else if ("sight" : Str) = "tick" then _ else if ("sight" : Str) = "run" then _ else if ("sight" : Str) = "swap" then _ else if ("sight" : Str) = "undo" then _ else _ : TS) _ _ _
      rw [if_neg (by decide +kernel), if_neg (by decide +kernel), if_neg (by decide +kernel), if_neg (by decide +kernel), if_neg (by decide +kernel)]
      exact quiet _ rfl rfl rfl rfl
    | counts =>
      refine ⟨_, rfl, _, rfl, ?_⟩
      show (if ("counts" : Str) = "clock" then _ else if ("counts" : Str) = "tick" then _ else if ("counts" : Str) = "run" then _ else if ("counts" : Str) = "swap" then _ else if ("counts" : Str) = "undo" then _ else _ : TS) _ _ _
      rw [if_neg (by decide +kernel), if_neg (by decide +kernel), if_neg (by decide +kernel), if_neg (by decide +kernel), if_neg (by decide +kernel)]
      exact quiet _ rfl rfl rfl rfl
    | turn =>
      refine ⟨_, rfl, _, rfl, ?_⟩
      show (if ("turn" : Str) = "clock" then _ else if ("turn" : Str) = "tick" then _ else if ("turn" : Str) = "run" then _ else if ("turn" : Str) = "swap" then _ else if ("turn" : Str) = "undo" then _ else _ : TS) _ _ _
      rw [if_neg (by decide +kernel), if_neg (by decide +kernel), if_neg (by decide +kernel), if_neg (by decide +kernel), if_neg (by decide +kernel)]
      exact quiet _ rfl rfl rfl rfl
    | period =>
      refine ⟨_, rfl, _, rfl, ?_⟩
      show (if ("period" : Str) = "clock" then _ else if ("period" : Str) = "tick" then _ else if ("period" : Str) = "run" then _ else if ("period" : Str) = "swap" then _ else if ("period" : Str) = "undo" then _ else _ : TS) _ _ _
      rw [if_neg (by decide +kernel), if_neg (by decide +kernel), if_neg (by decide +kernel), if_neg (by decide +kernel), if_neg (by decide +kernel)]
      exact quiet _ rfl rfl rfl rfl
    | when =>
      refine ⟨_, rfl, _, rfl, ?_⟩
      show (if ("when" : Str) = "clock" then _ else if ("when" : Str) = "tick" then _ else if ("when" : Str) = "run" then _ else if ("when" : Str) = "swap" then _ else if ("when" : Str) = "undo" then _ else _ : TS) _ _ _
      rw [if_neg (by decide +kernel), if_neg (by decide +kernel), if_neg (by decide +kernel), if_neg (by decide +kernel), if_neg (by decide +kernel)]
      exact quiet _ rfl rfl rfl rfl
    | spot b t =>
      refine ⟨_, rfl, _, rfl, ?_⟩
      show (if ("spot" : Str) = "clock" then _ else if ("spot" : Str) = "tick" then _ else if ("spot" : Str) = "run" then _ else if ("spot" : Str) = "swap" then _ else if ("spot" : Str) = "undo" then _ else _ : TS) _ _ _
      rw [if_neg (by decide +kernel), if_neg (by decide +kernel), if_neg (by decide +kernel), if_neg (by decide +kernel), if_neg (by decide +kernel)]
      exact quiet _ rfl rfl rfl rfl
    | look l =>
      refine ⟨_, rfl, _, rfl, ?_⟩
      show (if ("look" : Str) = "clock" then _ else if ("look" : Str) = "tick" then _ else if ("look" : Str) = "run" then _ else if ("look" : Str) = "swap" then _ else if ("look" : Str) = "undo" then _ else _ : TS) _ _ _
      rw [if_neg (by decide +kernel), if_neg (by decide +kernel), if_neg (by decide +kernel), if_neg (by decide +kernel), if_neg (by decide +kernel)]
      exact quiet _ rfl rfl rfl rfl
    | parts k' =>
      refine ⟨_, rfl, _, rfl, ?_⟩
      show (if ("parts" : Str) = "clock" then _ else if ("parts" : Str) = "tick" then _ else if ("parts" : Str) = "run" then _ else if ("parts" : Str) = "swap" then _ else if ("parts" : Str) = "undo" then _ else _ : TS) _ _ _
      rw [if_neg (by decide +kernel), if_neg (by decide +kernel), if_neg (by decide +kernel), if_neg (by decide +kernel), if_neg (by decide +kernel)]
      exact quiet _ rfl rfl rfl rfl
end
end BH
end
section
set_option Elab.async false
set_option linter.all false
set_option maxRecDepth 100000
set_option maxHeartbeats 4000000
namespace BH
open PySem PySem.Spec PyProof.Rows L2 BM
section
variable {P : Program} {w : World} {K : PySem.W.Frag} {mg : Str → Option Value} {base : Heap}
theorem vs_cnts {c : Clk} {s : Sg Nat} (ok : c.Ok) (vs : VS c s) : (cnts s).length ≤ 1000 ∧ ∀ n ∈ cnts s, n < 10 ^ 30 := by
  have hrb := rows_bounds ok vs
  have hl := vs.len
  have hl3 := ok.l3
  have hn := ok.n100
  constructor
  · unfold cnts; rw [List.length_map]; omega
  · intro n hn'
    obtain ⟨row, hrow, rfl⟩ := List.mem_map.mp hn'
    have := (hrb row (List.mem_cons_of_mem _ hrow)).1
    exact Nat.lt_of_le_of_lt (show row.length ≤ 100 by omega) (by decide)
theorem spot_small {c : Clk} {s : Sg Nat} {b r p : Nat} (ok : c.Ok) (vs : VS c s) (h : Spot s b r p) : r ≤ 3 ∧ p < 100 := by
  obtain ⟨row, h1, h2⟩ := h
  have hr := (List.getElem?_eq_some_iff.mp h1).1
  have hp := (List.getElem?_eq_some_iff.mp h2).1
  have hl := vs.len
  have hl3 := ok.l3
  have hn := ok.n100
  have := (rows_bounds ok vs row (List.mem_of_getElem? h1)).1
  have h3 : (rowsOf s).length = s.2.length + 1 := rfl
  omega
theorem unl_le : ∀ {rs rs2 : List Rail} {k n : Nat}, two rs → (∀ r ∈ rs, r.1 ≤ 12) → unl rs rs2 k = some n → n ≤ k * 12 ^ rs.length
  | [], _, _, _, _, _, h => by simp [unl] at h
  | _ :: _, [], _, _, _, _, h => by simp [unl] at h
  | (b, w) :: rs, (b2, w2) :: rs2, k, n, h2, h12, h => by
    have hb : b ≤ 12 := h12 (b, w) List.mem_cons_self
    have hp : 1 ≤ 12 ^ rs.length := Nat.pow_pos (by decide)
    have h3 : k * b * 12 ^ rs.length ≤ k * 12 ^ (rs.length + 1) := by
      rw [Nat.pow_succ, Nat.mul_assoc, Nat.mul_comm (12 ^ rs.length) 12]
      exact Nat.mul_le_mul_left k (Nat.mul_le_mul_right _ hb)
    have h4 : k * b ≤ k * b * 12 ^ rs.length := Nat.le_mul_of_pos_right _ hp
    unfold unl at h
    split at h
    · have e := Option.some.inj h
      have h5 : k * min b b2 ≤ k * b := Nat.mul_le_mul_left k (Nat.min_le_left _ _)
      rw [List.length_cons]
      omega
    · split at h
      · have e := Option.some.inj h
        rw [List.length_cons]
        omega
      · have ih := unl_le (fun r hr => h2 r (List.mem_cons_of_mem _ hr)) (fun r hr => h12 r (List.mem_cons_of_mem _ hr)) h
        rw [List.length_cons]
        omega
def sp_answer (K : PySem.W.Frag) : Sp := fun vs H Q _ => ∃ (B : Hp) (co lo : Addr) (c : Clk) (s : Sg Nat) (q : Nat) (x : Cmd) (val : V), Same B H ∧ vs = [.ref co, .str x.name, val] ∧ CS K B H co lo c s q ∧ VAL K B val x ∧ x.Ok c ∧ x.isCh = false ∧
  ∀ B' H' a, Ext B H B' H' → Ans x c s a → Q (.str a) H'
theorem c_Console_answer (T : Txt w K mg) : HasM P w K mg base "Console" "answer" 17 ["self", "name", "values"] (sp_answer K) := by
  refine HasM.of T.f_Console_answer T.m_Console_answer T.c_Console sc_Console_answer (fun _ _ _ _ _ _ us hl => match us, hl with | [_, _, _], _ => rfl) (fun vs H Q E h => ?_) (fun f cdv A outer s0 H vs Q E hr h => ?_)
  · obtain ⟨B, co, lo, c, s, q, x, val, hB, rfl, _⟩ := h; rfl
  · obtain ⟨B, co, lo, c, s, q, x, val, hB, rfl, C, hval, hok, hch, k⟩ := h
    obtain ⟨hcb, ⟨dx, cv, hins, hck⟩, L, hne⟩ := id C
    obtain ⟨ldx, kc, cl, cvs, hlins, _⟩ := L.ex
    have ok := L.ok
    have vs := L.vs
    have hp1728 := prod_1728 ok
    have hn100 := ok.n100
    refine ⟨_, (pss_cons (ps_par (i := 3) (j := 4) rfl sc_Console_answer.nd rfl rfl (by decide) rfl rfl (pa_cons (pF (K := K) rfl (pv 0)) (pa_cons (pF (K := K) rfl (pv 0)) pa_nil)) (by rfl))
      (pss_cons (ps_match (pv 1) (.str (pss_one (ps_ret (pc (c_format_sight T) hr (pa_cons (pq (c_BallClock_sight T) hr (pv 4)) pa_nil)))) (.str (pss_one (ps_ret (pc (c_numbers_text T) hr (pa_cons (pq (c_BallClock_counts T) hr (pv 4)) pa_nil)))) (.str (pss_one (ps_ret (pe_callTy call_str_int (by rfl) T.b_str (by decide +kernel) (pa_cons (pq (c_BallClock_moment T) hr (pv 4)) pa_nil)))) (.str (pss_one (ps_ret (pe_callTy call_str_int (by rfl) T.b_str (by decide +kernel) (pa_cons (pc (c_turn_ticks T) hr (pa_cons (pv 3) pa_nil)) pa_nil)))) (.str (pss_one (ps_ret (pe_callTy call_str_int (by rfl) T.b_str (by decide +kernel) (pa_cons (pc (c_order_period T) hr (pa_cons (pv 3) pa_nil)) pa_nil)))) (.str (pss_one (ps_ret (pc (c_value_text T) hr (pa_cons (pc (c_tick_of T) hr (pa_cons (pv 3) (pa_cons (pq (c_BallClock_sight T) hr (pv 4)) pa_nil))) pa_nil)))) (.str (pss_one (ps_ret (pc (c_numbers_text T) hr (pa_cons (pc (c_spot_at T) hr (pa_cons (pv 3) (pa_cons (pe_ix (xL (K := K) rfl) (pv 2) pe_int (fun _ _ => rfl)) (pa_cons (pe_ix (xL (K := K) rfl) (pv 2) pe_int (fun _ _ => rfl)) pa_nil)))) pa_nil)))) (.str (pss_one (ps_ret (pc (c_value_text T) hr (pa_cons (pc (c_first_fit T) hr (pa_cons (pv 3) (pa_cons (pe_lst (pa_cons (pe_callTy call_tuple_of (by rfl) T.b_tuple (by decide +kernel) (pa_cons (pv 2) pa_nil)) pa_nil)) pa_nil))) pa_nil)))) .nil)))))))))
      (pss_one (ps_ret (pc (c_value_text T) hr (pa_cons (pc (c_parting_tick T) hr (pa_cons (pv 3) (pa_cons (pe_ix (xL (K := K) rfl) (pv 2) pe_int (fun _ _ => rfl)) pa_nil))) pa_nil)))))), ?_⟩
    refine ⟨_, rfl, co, _, _, _, _, rfl, hins, T.c_Console, T.n_Console_set_clock, rfl, _, rfl, co, _, _, _, _, rfl, hins, T.c_Console, T.n_Console_set_live, rfl, _, _, rfl, ?_⟩
    cases x with
    | clock c' => cases hch
    | tick => cases hch
    | run t => cases hch
    | swap a b => cases hch
    | sight =>
      refine ⟨_, rfl, _, rfl, ?_⟩
      show (if ("sight" : Str) = "sight" then _ else _ : TS) _ _ _
      rw [if_pos rfl]
      refine ⟨_, rfl, lo, _, _, rfl, hlins, B, lo, c, s, q, hB, rfl, L, fun B1 H1 v e1 hv => ?_⟩
      refine ⟨B1, _, e1.w, ⟨v, c, s, rfl, hv, ok, vs, rfl⟩, fun B2 H2 a e2 ha => ?_⟩
      subst ha
      exact k _ _ _ (e1.trans e2) rfl
    | counts =>
      refine ⟨_, rfl, _, rfl, ?_⟩
      show (if ("counts" : Str) = "sight" then _ else if ("counts" : Str) = "counts" then _ else _ : TS) _ _ _
      rw [if_neg (by decide +kernel), if_pos rfl]
      refine ⟨_, rfl, lo, _, _, rfl, hlins, B, lo, c, s, q, hB, rfl, L, fun B1 H1 v e1 hv => ?_⟩
      obtain ⟨a, rfl, ha⟩ := hv
      obtain ⟨h1, h2⟩ := vs_cnts ok vs
      refine ⟨B1, _, e1.w, ⟨a, cnts s, rfl, .inl ha, h1, h2, rfl⟩, fun B2 H2 a e2 ha => ?_⟩
      subst ha
      exact k _ _ _ (e1.trans e2) rfl
    | turn =>
      refine ⟨_, rfl, _, rfl, ?_⟩
      show (if ("turn" : Str) = "sight" then _ else if ("turn" : Str) = "counts" then _ else if ("turn" : Str) = "moment" then _ else if ("turn" : Str) = "turn" then _ else _ : TS) _ _ _
      rw [if_neg (by decide +kernel), if_neg (by decide +kernel), if_neg (by decide +kernel), if_pos rfl]
      refine ⟨_, rfl, B, _, hB, ⟨cv, c, rfl, hck, ok, rfl⟩, fun B1 H1 v e1 hv => ?_⟩
      subst hv
      exact ⟨_, rfl, log_small (k := 20) (by omega) (by decide) (by decide), k _ _ (dg (prod c.rs)) e1 rfl⟩
    | period =>
      refine ⟨_, rfl, _, rfl, ?_⟩
      show (if ("period" : Str) = "sight" then _ else if ("period" : Str) = "counts" then _ else if ("period" : Str) = "moment" then _ else if ("period" : Str) = "turn" then _ else if ("period" : Str) = "period" then _ else _ : TS) _ _ _
      rw [if_neg (by decide +kernel), if_neg (by decide +kernel), if_neg (by decide +kernel), if_neg (by decide +kernel), if_pos rfl]
      refine ⟨_, rfl, B, _, hB, ⟨cv, c, rfl, hck, ok, hok, rfl⟩, fun B1 H1 v e1 hv => ?_⟩
      obtain ⟨p, rfl, hp⟩ := hv
      have hp2 := hp.2.1
      exact ⟨_, rfl, log_small (k := 30) (by omega) (by decide) (by decide), k _ _ (dg p) e1 ⟨p, rfl, hp⟩⟩
    | when =>
      refine ⟨_, rfl, _, rfl, ?_⟩
      show (if ("when" : Str) = "sight" then _ else if ("when" : Str) = "counts" then _ else if ("when" : Str) = "moment" then _ else if ("when" : Str) = "turn" then _ else if ("when" : Str) = "period" then _ else if ("when" : Str) = "when" then _ else _ : TS) _ _ _
      rw [if_neg (by decide +kernel), if_neg (by decide +kernel), if_neg (by decide +kernel), if_neg (by decide +kernel), if_neg (by decide +kernel), if_pos rfl]
      refine ⟨_, rfl, _, rfl, lo, _, _, rfl, hlins, B, lo, c, s, q, hB, rfl, L, fun B1 H1 v e1 hv => ?_⟩
      refine ⟨B1, _, e1.w, ⟨cv, v, c, s, rfl, hck.mono e1.b, hv, ok, vs, hok, rfl⟩, fun B2 H2 v2 e2 hv2 => ?_⟩
      obtain ⟨o, rfl, ho⟩ : ∃ o, v2 = optV o ∧ ∀ t, o = some t → stepN c.rs t (first c) = s ∧ t ≤ 1728 * 12252240 := by
        rcases hv2 with h | ⟨t, h, h1, h2⟩
        · exact ⟨none, h, fun t ht => by cases ht⟩
        · exact ⟨some t, h, fun t' ht => by obtain rfl := Option.some.inj ht; exact ⟨h1, h2⟩⟩
      refine ⟨B2, _, e2.w, ⟨o, rfl, fun n hn => Nat.lt_of_le_of_lt (ho n hn).2 (Nat.lt_of_lt_of_le (show 1728 * 12252240 < 2 ^ 40 by decide) (Nat.pow_le_pow_right (by decide) (by decide))), rfl⟩, fun B3 H3 a e3 ha => ?_⟩
      subst ha
      exact k _ _ _ ((e1.trans e2).trans e3) ⟨o, rfl, ho⟩
    | spot b t =>
      obtain ⟨va, rfl, hva⟩ : LN K B val [b, t] := hval
      refine ⟨_, rfl, _, rfl, ?_⟩
      show (if ("spot" : Str) = "sight" then _ else if ("spot" : Str) = "counts" then _ else if ("spot" : Str) = "moment" then _ else if ("spot" : Str) = "turn" then _ else if ("spot" : Str) = "period" then _ else if ("spot" : Str) = "when" then _ else if ("spot" : Str) = "spot" then _ else _ : TS) _ _ _
      rw [if_neg (by decide +kernel), if_neg (by decide +kernel), if_neg (by decide +kernel), if_neg (by decide +kernel), if_neg (by decide +kernel), if_neg (by decide +kernel), if_pos rfl]
      refine ⟨_, rfl, _, rfl, va, _, 0, _, rfl, rfl, hB.seq hva, atI_nat (j := 0) rfl, _, rfl, va, _, 1, _, rfl, rfl, hB.seq hva, atI_nat (j := 1) rfl, B, _, hB, ⟨cv, c, b, t, rfl, hck, ok, hok.1, rfl⟩, fun B1 H1 v e1 hv => ?_⟩
      obtain ⟨r, p, ⟨ta, rfl, hta⟩, hspot⟩ := hv
      obtain ⟨hr3, hp100⟩ := spot_small ok (stepN_vs ok t (first_vs ok)) hspot
      refine ⟨B1, _, e1.w, ⟨ta, [r, p], rfl, .inr hta, by show 2 ≤ 1000; decide, fun n hn => ?_, rfl⟩, fun B2 H2 a e2 ha => ?_⟩
      · have : n ≤ 100 := by
          simp at hn
          omega
        exact Nat.lt_of_le_of_lt this (by decide)
      · subst ha
        exact k _ _ _ (e1.trans e2) ⟨r, p, rfl, spotO_of.mp hspot⟩
    | look l =>
      obtain ⟨va, rfl, hva⟩ : LN K B val [l.w, l.b, l.r, l.p] := hval
      refine ⟨_, rfl, _, rfl, ?_⟩
      show (if ("look" : Str) = "sight" then _ else if ("look" : Str) = "counts" then _ else if ("look" : Str) = "moment" then _ else if ("look" : Str) = "turn" then _ else if ("look" : Str) = "period" then _ else if ("look" : Str) = "when" then _ else if ("look" : Str) = "spot" then _ else if ("look" : Str) = "look" then _ else _ : TS) _ _ _
      rw [if_neg (by decide +kernel), if_neg (by decide +kernel), if_neg (by decide +kernel), if_neg (by decide +kernel), if_neg (by decide +kernel), if_neg (by decide +kernel), if_neg (by decide +kernel), if_pos rfl]
      refine ⟨_, rfl, _, rfl, va, _, rfl, .inl ⟨hB.seq hva, fun t nt => ⟨by show 1 ≤ sizeLine; decide, fun la nla => ?_⟩⟩⟩
      have e1 := Ext.new hB (.tup ([l.w, l.b, l.r, l.p].map fun n : Nat => V.int (n : Int))) nt
      have e2 := Ext.new e1.w (.lst [.ref t]) nla
      have E2 := e1.trans e2
      refine ⟨_, _, e2.w, ⟨cv, .ref la, c, l, rfl, hck.mono E2.b, ⟨la, .ref t, rfl, SqL.of upd_same, t, rfl, e2.b.tup (SqT.of upd_same)⟩, hok.1, ok, rfl⟩, fun B3 H3 v3 e3 hv3 => ?_⟩
      obtain ⟨hpe, hv3⟩ := hv3
      obtain ⟨o, rfl, ho1, ho2⟩ : ∃ o, v3 = optV o ∧ (o = none → NoFit c l) ∧ ∀ t, o = some t → LeastFit c l t := by
        rcases hv3 with ⟨h, h1⟩ | ⟨t, h, h1⟩
        · exact ⟨none, h, fun _ => h1, fun t ht => by cases ht⟩
        · exact ⟨some t, h, fun h => (by cases h), fun t' ht => (by obtain rfl := Option.some.inj ht; exact h1)⟩
      refine ⟨B3, _, e3.w, ⟨o, rfl, fun n hn => ?_, rfl⟩, fun B4 H4 a e4 ha => ?_⟩
      · have h1 := (ho2 n hn).2.1
        have h2 : prod c.rs * c.n ≤ 1728 * 100 := Nat.mul_le_mul hp1728 hn100
        exact Nat.lt_of_lt_of_le (show n < 2 ^ 20 by omega) (Nat.pow_le_pow_right (by decide) (by decide))
      · subst ha
        exact k _ _ _ ((E2.trans e3).trans e4) ⟨hpe, o, rfl, ho1, ho2⟩
    | parts c' =>
      obtain ⟨va, cv', rfl, hva, hck'⟩ := hval
      refine ⟨_, rfl, _, rfl, ?_⟩
      show (if ("parts" : Str) = "sight" then _ else if ("parts" : Str) = "counts" then _ else if ("parts" : Str) = "moment" then _ else if ("parts" : Str) = "turn" then _ else if ("parts" : Str) = "period" then _ else if ("parts" : Str) = "when" then _ else if ("parts" : Str) = "spot" then _ else if ("parts" : Str) = "look" then _ else _ : TS) _ _ _
      rw [if_neg (by decide +kernel), if_neg (by decide +kernel), if_neg (by decide +kernel), if_neg (by decide +kernel), if_neg (by decide +kernel), if_neg (by decide +kernel), if_neg (by decide +kernel), if_neg (by decide +kernel)]
      refine ⟨_, rfl, _, rfl, va, _, 0, _, rfl, rfl, hB.seq hva, atI_nat (j := 0) rfl, B, _, hB, ⟨cv, cv', c, c', rfl, hck, hck', ok, hok.1, hok.2.1, hok.2.2, rfl⟩, fun B1 H1 v e1 hv => ?_⟩
      subst hv
      refine ⟨B1, _, e1.w, ⟨_, rfl, fun n hn => ?_, rfl⟩, fun B2 H2 a e2 ha => ?_⟩
      · have h1 := unl_le ok.two ok.b12 hn
        have h2 : 12 ^ c.rs.length ≤ 12 ^ 3 := Nat.pow_le_pow_right (by decide) ok.l3
        have h3 : (12 : Nat) ^ 3 = 1728 := by decide
        exact Nat.lt_of_lt_of_le (show n < 2 ^ 20 by omega) (Nat.pow_le_pow_right (by decide) (by decide))
      · subst ha
        exact k _ _ _ (e1.trans e2) rfl
theorem Cmd.name_ok (x : Cmd) : Free x.name ∧ x.name.length ≤ 30 := by
  cases x with
  | clock c' => exact ⟨show Free ("clock" : Str) by unfold Free; decide +kernel, show ("clock" : Str).length ≤ 30 by decide +kernel⟩
  | tick => exact ⟨show Free ("tick" : Str) by unfold Free; decide +kernel, show ("tick" : Str).length ≤ 30 by decide +kernel⟩
  | run t => exact ⟨show Free ("run" : Str) by unfold Free; decide +kernel, show ("run" : Str).length ≤ 30 by decide +kernel⟩
  | swap a b => exact ⟨show Free ("swap" : Str) by unfold Free; decide +kernel, show ("swap" : Str).length ≤ 30 by decide +kernel⟩
  | sight => exact ⟨show Free ("sight" : Str) by unfold Free; decide +kernel, show ("sight" : Str).length ≤ 30 by decide +kernel⟩
  | counts => exact ⟨show Free ("counts" : Str) by unfold Free; decide +kernel, show ("counts" : Str).length ≤ 30 by decide +kernel⟩
  | turn => exact ⟨show Free ("turn" : Str) by unfold Free; decide +kernel, show ("turn" : Str).length ≤ 30 by decide +kernel⟩
  | period => exact ⟨show Free ("period" : Str) by unfold Free; decide +kernel, show ("period" : Str).length ≤ 30 by decide +kernel⟩
  | when => exact ⟨show Free ("when" : Str) by unfold Free; decide +kernel, show ("when" : Str).length ≤ 30 by decide +kernel⟩
  | spot b t => exact ⟨show Free ("spot" : Str) by unfold Free; decide +kernel, show ("spot" : Str).length ≤ 30 by decide +kernel⟩
  | look l => exact ⟨show Free ("look" : Str) by unfold Free; decide +kernel, show ("look" : Str).length ≤ 30 by decide +kernel⟩
  | parts c' => exact ⟨show Free ("parts" : Str) by unfold Free; decide +kernel, show ("parts" : Str).length ≤ 30 by decide +kernel⟩
theorem Cmd.free (x : Cmd) : ∀ w ∈ x.name :: x.args, Free w := by
  intro w hw
  rcases List.mem_cons.mp hw with e | e
  · rw [e]; exact (Cmd.name_ok x).1
  · have hn : ∀ w ∈ x.nums.map dg, Free w := fun w hw => by
      obtain ⟨n, _, rfl⟩ := List.mem_map.mp hw
      exact free_dg n
    cases x with
    | clock c => exact clockW_free c w e
    | parts c => exact clockW_free c w e
    | _ => exact hn w e
def Cmd.Fine (x : Cmd) (c : Clk) : Prop := x.Ok c ∧ (∀ n ∈ x.nums, n < 10 ^ 30)
theorem Cmd.fine {x : Cmd} {c : Clk} (ok : c.Ok) (h : x.Ok c) : ∀ n ∈ x.nums, n < 10 ^ 30 := by
  have h100 : (100 : Nat) < 10 ^ 30 := by decide
  have hn := ok.n100
  have hl := ok.l3
  intro n hm
  cases x with
  | run t => simp [Cmd.nums] at hm; rw [hm]; exact h.2
  | swap a b =>
    obtain ⟨h1, h2, _⟩ := h
    have : n ≤ 100 := by simp [Cmd.nums] at hm; omega
    omega
  | spot b t =>
    obtain ⟨h1, h2⟩ := h
    simp [Cmd.nums] at hm
    rcases hm with rfl | rfl
    · omega
    · exact h2
  | look l =>
    obtain ⟨h1, h2, h3⟩ := h
    have h4 := h1.b
    have h5 := h1.r
    simp [Cmd.nums] at hm
    rcases hm with rfl | rfl | rfl | rfl
    · exact h2
    · omega
    · omega
    · exact h3
  | _ => simp [Cmd.nums] at hm
theorem Cmd.small {x : Cmd} {c : Clk} (ok : c.Ok) (h : x.Ok c) : x.args.length ≤ 4 ∧ (∀ w ∈ x.name :: x.args, w.length ≤ 30) := by
  have hname : x.name.length ≤ 30 := (Cmd.name_ok x).2
  have hf := Cmd.fine ok h
  have hnm : ∀ w ∈ x.nums.map dg, w.length ≤ 30 := fun w hw => by
    obtain ⟨n, hn, rfl⟩ := List.mem_map.mp hw
    exact dg_len (by decide) (hf n hn)
  have hcl : ∀ k : Clk, k.Ok → (clockW k).length ≤ 4 ∧ ∀ w ∈ clockW k, w.length ≤ 30 := fun k hk => ⟨clockW_count hk, fun w hw => Nat.le_trans (clockW_len hk w hw) (by decide)⟩
  have key : x.args.length ≤ 4 ∧ ∀ w ∈ x.args, w.length ≤ 30 := by
    cases x with
    | clock k => exact hcl k h
    | parts k => exact hcl k h.1
    | run t => exact ⟨by show 1 ≤ 4; decide, hnm⟩
    | swap a b => exact ⟨by show 2 ≤ 4; decide, hnm⟩
    | spot b t => exact ⟨by show 2 ≤ 4; decide, hnm⟩
    | look l => exact ⟨by show 4 ≤ 4; decide, hnm⟩
    | _ => exact ⟨by show 0 ≤ 4; decide, hnm⟩
  exact ⟨key.1, fun w hw => by
    rcases List.mem_cons.mp hw with e | e
    · rw [e]; exact hname
    · exact key.2 w e⟩
theorem Fr.pre {B H B1 H1 B2 H2 : Hp} {co lo : Addr} (e : Ext B H B1 H1) (f : Fr B1 H1 co lo B2 H2) : Fr B H co lo B2 H2 := by
  have key : ∀ a o, Wo (Wo H co) lo a = some o → Wo (Wo H1 co) lo a = some o := by
    intro a o h
    have n1 := (Wo.ne (show Wo (Wo H co) lo a ≠ none by rw [h]; exact fun z => nomatch z))
    have n2 := Wo.ne n1.1
    rw [Wo.other n1.2, Wo.other n2.2] at h ⊢
    exact e.h _ _ h
  refine ⟨e.b.trans f.b, f.w, fun a o h => f.h a o (key a o h), fun a ha => ?_⟩
  cases q : Wo (Wo H co) lo a with
  | none => exact absurd q ha
  | some o =>
    have h1 := key a o q
    rw [f.n a (by rw [h1]; exact fun z => nomatch z), e.n a (Wo.ne (Wo.ne ha).1).1]
theorem Fr.post {B H B1 H1 B2 H2 : Hp} {co lo : Addr} (f : Fr B H co lo B1 H1) (e : Ext B1 H1 B2 H2) : Fr B H co lo B2 H2 := Ext.trans f e
def sp_execute (K : PySem.W.Frag) : Sp := fun vs H Q _ => ∃ (B : Hp) (co lo : Addr) (c : Clk) (s : Sg Nat) (q : Nat) (x : Cmd), Same B H ∧ vs = [.ref co, .str x.text] ∧ CS K B H co lo c s q ∧ q ≤ 900 ∧ x.Ok c ∧
  ∀ B' H' lo' q' a, Fr B H co lo B' H' → (lo' = lo ∨ H lo' = none) → q' ≤ q + 1 → CS K B' H' co lo' (x.clk c) (x.sg c s) q' → Ans x c s a → Q (.str a) H'
theorem c_Console_execute (T : Txt w K mg) : HasM P w K mg base "Console" "execute" 18 ["self", "command"] (sp_execute K) := by
  refine HasM.of T.f_Console_execute T.m_Console_execute T.c_Console sc_Console_execute (fun _ _ _ _ _ _ us hl => match us, hl with | [_, _], _ => rfl) (fun vs H Q E h => ?_) (fun f cdv A outer s0 H vs Q E hr h => ?_)
  · obtain ⟨B, co, lo, c, s, q, x, hB, rfl, _⟩ := h; rfl
  · obtain ⟨B, co, lo, c, s, q, x, hB, rfl, C, hq9, hok, k⟩ := h
    have ok := C.live.ok
    obtain ⟨hal, hwl⟩ := Cmd.small ok hok
    have hfine := Cmd.fine ok hok
    have hlen : x.text.length + 2 ≤ sizeLine := by
      have h1 := join_len (x.name :: x.args) 30 hwl
      have h2 : (x.name :: x.args).length * 31 ≤ 5 * 31 := Nat.mul_le_mul_right 31 (by rw [List.length_cons]; omega)
      exact Nat.le_of_lt (small1000 (by unfold Cmd.text; omega))
    refine ⟨_, (pss_cons (ps_if (pt_not (pt_val (pe_callB (cIsi (K := K) rfl) (by rfl) T.b_isinstance (by decide +kernel) (pa_cons (pv 1) (pa_cons (pe_bltn (v := .ty "str") (u := .type "str") (by rfl) T.b_str (by decide +kernel) rfl) pa_nil))))) (pss_one ps_never) pss_nil)
      (pss_cons (ps_asg (pe_split (pv 1) pe_str) (pg_star1 (pg_name (i := 2) sc_Console_execute.nd rfl (.inl rfl)) (pg_name (i := 3) sc_Console_execute.nd rfl (.inl rfl))))
      (pss_cons (ps_set (i := 4) sc_Console_execute.nd rfl (.inl rfl) (pc (c_command_values T) hr (pa_cons (pv 2) (pa_cons (pv 3) pa_nil))))
      (pss_cons (ps_if (pt_cmpR op_isN (pv 4) pe_non (nomark _)) (pss_one ps_never) pss_nil)
      (pss_one (ps_ret (pe_ifExp (pt_val (pmK (K := K) rfl (c_Console_change T) hr (pv 0) (pa_cons (pv 2) (pa_cons (pv 4) pa_nil)))) pe_str (pmK (K := K) rfl (c_Console_answer T) hr (pv 0) (pa_cons (pv 2) (pa_cons (pv 4) pa_nil)))))))))), ?_⟩
    refine ⟨_, rfl, _, _, _, _, true, rfl, .ty _, .base (.str _), kit_ty (by decide +kernel), true, rfl, iteF ?_⟩
    refine ⟨_, rfl, ⟨_, rfl⟩, _, _, rfl, rfl, by decide +kernel, hlen, fun p np => ?_⟩
    have hsplit : Txt.split x.text sp1 = x.name :: x.args := split_join (by simp) (Cmd.free x)
    have e1 := Ext.tmp hB (.lst ((x.name :: x.args).map V.str)) np
    have hp : (upd H p (.lst ((Txt.split x.text sp1).map V.str))) = upd H p (.lst ((x.name :: x.args).map V.str)) := by rw [hsplit]
    have goal2 : ∀ H1, H1 = upd H p (.lst ((x.name :: x.args).map V.str)) → ∃ a y ys, V.ref p = .ref a ∧ SqL K H1 a (y :: ys) ∧ ys.length ≤ 10000 ∧ y = .str x.name ∧ ys = x.args.map V.str := by
      intro H1 h1
      exact ⟨p, _, _, rfl, SqL.of (by rw [h1, upd_same]; rfl), by rw [List.length_map]; omega, rfl, rfl⟩
    refine ⟨p, .str x.name, x.args.map V.str, rfl, SqL.of (by rw [show Txt.split x.text (" " : Str) = x.name :: x.args from hsplit, upd_same]; rfl), by rw [List.length_map]; omega, fun p2 np2 => ?_⟩
    rw [show Txt.split x.text (" " : Str) = x.name :: x.args from hsplit] at np2 ⊢
    have e2 := Ext.new e1.w (.lst (x.args.map V.str)) np2
    have E2 := e1.trans e2
    have L2 := C.ext E2
    obtain ⟨dx, cv, hins, hck⟩ := L2.ex
    refine ⟨_, rfl, _, rfl, ?_⟩
    -- what command_values answers
    have hval : ∀ (G : (Hp → V → Prop) → Prop), (∀ R : Hp → V → Prop, (∃ (nm : Str) (wa : Addr) (ws : List Str), [V.str x.name, V.ref p2] = [V.str nm, V.ref wa] ∧ SqL K (upd B p2 (.lst (x.args.map V.str))) wa (ws.map V.str) ∧
        ((∃ c : Clk, inV (.str nm) [.str "clock", .str "parts"] = true ∧ ws = clockW c ∧ c.Ok ∧ R = fun B' v => ∃ a cv, v = .ref a ∧ SqL K B' a [cv] ∧ CK K B' cv c) ∨
         (∃ nums : List Nat, ws = nums.map dg ∧ (∀ n ∈ nums, n < 10 ^ 30) ∧ nums.length ≤ 4 ∧ inV (.str nm) [.str "clock", .str "parts"] = false ∧ (∃ t, PySem.W.nsIn K (He.ga K "FORMS") nm = some (some (.int (nums.length : Nat) t))) ∧ (nm = "spot" → ∃ b t, nums = [b, t]) ∧ R = fun B' v => LN K B' v nums))) →
        (∀ B' v, R B' v → VAL K B' v x ∧ ∃ a, v = .ref a) → G R) → ∃ R, G R := by
      intro G hG
      have hsq : SqL K (upd B p2 (.lst (x.args.map V.str))) p2 (x.args.map V.str) := SqL.of upd_same
      cases x with
      | clock k' => exact ⟨_, hG _ ⟨_, p2, _, rfl, hsq, .inl ⟨k', by show inV (.str ("clock" : Str)) [.str "clock", .str "parts"] = true; decide +kernel, rfl, hok, rfl⟩⟩ fun B' v h => ⟨h, by obtain ⟨a, _, h1, _⟩ := h; exact ⟨a, h1⟩⟩⟩
      | parts k' => exact ⟨_, hG _ ⟨_, p2, _, rfl, hsq, .inl ⟨k', by show inV (.str ("parts" : Str)) [.str "clock", .str "parts"] = true; decide +kernel, rfl, hok.1, rfl⟩⟩ fun B' v h => ⟨h, by obtain ⟨a, _, h1, _⟩ := h; exact ⟨a, h1⟩⟩⟩
      | tick => exact ⟨_, hG _ ⟨_, p2, _, rfl, hsq, .inr ⟨[], rfl, hfine, by decide, by show inV (.str ("tick" : Str)) [.str "clock", .str "parts"] = false; decide +kernel, T.form_tick, fun h => absurd h (by show ("tick" : Str) ≠ "spot"; decide +kernel), rfl⟩⟩ fun B' v h => ⟨h, by obtain ⟨a, h1, _⟩ := h; exact ⟨a, h1⟩⟩⟩
      | run t => exact ⟨_, hG _ ⟨_, p2, _, rfl, hsq, .inr ⟨[t], rfl, hfine, by show 1 ≤ 4; decide, by show inV (.str ("run" : Str)) [.str "clock", .str "parts"] = false; decide +kernel, T.form_run, fun h => absurd h (by show ("run" : Str) ≠ "spot"; decide +kernel), rfl⟩⟩ fun B' v h => ⟨h, by obtain ⟨a, h1, _⟩ := h; exact ⟨a, h1⟩⟩⟩
      | swap a b => exact ⟨_, hG _ ⟨_, p2, _, rfl, hsq, .inr ⟨[a, b], rfl, hfine, by show 2 ≤ 4; decide, by show inV (.str ("swap" : Str)) [.str "clock", .str "parts"] = false; decide +kernel, T.form_swap, fun h => absurd h (by show ("swap" : Str) ≠ "spot"; decide +kernel), rfl⟩⟩ fun B' v h => ⟨h, by obtain ⟨a, h1, _⟩ := h; exact ⟨a, h1⟩⟩⟩
      | sight => exact ⟨_, hG _ ⟨_, p2, _, rfl, hsq, .inr ⟨[], rfl, hfine, by decide, by show inV (.str ("sight" : Str)) [.str "clock", .str "parts"] = false; decide +kernel, T.form_sight, fun h => absurd h (by show ("sight" : Str) ≠ "spot"; decide +kernel), rfl⟩⟩ fun B' v h => ⟨h, by obtain ⟨a, h1, _⟩ := h; exact ⟨a, h1⟩⟩⟩
      | counts => exact ⟨_, hG _ ⟨_, p2, _, rfl, hsq, .inr ⟨[], rfl, hfine, by decide, by show inV (.str ("counts" : Str)) [.str "clock", .str "parts"] = false; decide +kernel, T.form_counts, fun h => absurd h (by show ("counts" : Str) ≠ "spot"; decide +kernel), rfl⟩⟩ fun B' v h => ⟨h, by obtain ⟨a, h1, _⟩ := h; exact ⟨a, h1⟩⟩⟩
      | turn => exact ⟨_, hG _ ⟨_, p2, _, rfl, hsq, .inr ⟨[], rfl, hfine, by decide, by show inV (.str ("turn" : Str)) [.str "clock", .str "parts"] = false; decide +kernel, T.form_turn, fun h => absurd h (by show ("turn" : Str) ≠ "spot"; decide +kernel), rfl⟩⟩ fun B' v h => ⟨h, by obtain ⟨a, h1, _⟩ := h; exact ⟨a, h1⟩⟩⟩
      | period => exact ⟨_, hG _ ⟨_, p2, _, rfl, hsq, .inr ⟨[], rfl, hfine, by decide, by show inV (.str ("period" : Str)) [.str "clock", .str "parts"] = false; decide +kernel, T.form_period, fun h => absurd h (by show ("period" : Str) ≠ "spot"; decide +kernel), rfl⟩⟩ fun B' v h => ⟨h, by obtain ⟨a, h1, _⟩ := h; exact ⟨a, h1⟩⟩⟩
      | when => exact ⟨_, hG _ ⟨_, p2, _, rfl, hsq, .inr ⟨[], rfl, hfine, by decide, by show inV (.str ("when" : Str)) [.str "clock", .str "parts"] = false; decide +kernel, T.form_when, fun h => absurd h (by show ("when" : Str) ≠ "spot"; decide +kernel), rfl⟩⟩ fun B' v h => ⟨h, by obtain ⟨a, h1, _⟩ := h; exact ⟨a, h1⟩⟩⟩
      | spot b t => exact ⟨_, hG _ ⟨_, p2, _, rfl, hsq, .inr ⟨[b, t], rfl, hfine, by show 2 ≤ 4; decide, by show inV (.str ("spot" : Str)) [.str "clock", .str "parts"] = false; decide +kernel, T.form_spot, fun _ => ⟨b, t, rfl⟩, rfl⟩⟩ fun B' v h => ⟨h, by obtain ⟨a, h1, _⟩ := h; exact ⟨a, h1⟩⟩⟩
      | look l => exact ⟨_, hG _ ⟨_, p2, _, rfl, hsq, .inr ⟨[l.w, l.b, l.r, l.p], rfl, hfine, by show 4 ≤ 4; decide, by show inV (.str ("look" : Str)) [.str "clock", .str "parts"] = false; decide +kernel, T.form_look, fun h => absurd h (by show ("look" : Str) ≠ "spot"; decide +kernel), rfl⟩⟩ fun B' v h => ⟨h, by obtain ⟨a, h1, _⟩ := h; exact ⟨a, h1⟩⟩⟩
    refine ⟨upd B p2 (.lst (x.args.map V.str)), ?_⟩
    refine hval _ fun R h1 h2 => ?_
    refine ⟨e2.w, h1, fun B3 H3 v e3 hv => ?_⟩
    obtain ⟨hVAL, a, rfl⟩ := h2 _ _ hv
    have E3 := E2.trans e3
    have C3 := C.ext E3
    obtain ⟨dx3, cv3, hins3, _⟩ := C3.ex
    refine ⟨_, rfl, rfl, _, rfl, iteBF (by simp) ?_⟩
    refine ⟨_, rfl, co, _, _, rfl, hins3, rfl, _, rfl, _, rfl, B3, co, lo, c, s, q, x, .ref a, e3.w, rfl, C3, hq9, hVAL, hok, fun B4 H4 lo' q' fr hlo hq C4 => ⟨_, rfl, ?_⟩⟩
    have fr' := Fr.pre E3 fr
    have hlo' : lo' = lo ∨ H lo' = none := hlo.imp id fun h => E3.h.free h
    cases hch : x.isCh with
    | true =>
      refine iteB rfl ?_
      refine k _ _ lo' q' "ok" fr' hlo' hq C4 ?_
      cases x <;> first | rfl | cases hch
    | false =>
      refine iteBF rfl ?_
      have hc : x.clk c = c := by cases x <;> first | rfl | cases hch
      have hs : x.sg c s = s := by cases x <;> first | rfl | cases hch
      have C4' := C4
      rw [hc, hs] at C4'
      obtain ⟨dx4, cv4, hins4, _⟩ := C4'.ex
      refine ⟨_, rfl, co, _, _, rfl, hins4, rfl, _, rfl, _, rfl, B4, co, lo', c, s, q', x, .ref a, fr.w, rfl, C4', hVAL.mono fr.b, hok, hch, fun B5 H5 ans e5 hans => ?_⟩
      exact k _ _ lo' q' ans (Fr.post fr' e5) hlo' hq (C4.ext e5) hans
end
end BH
end
section
set_option Elab.async false
set_option linter.all false
set_option maxRecDepth 100000
set_option maxHeartbeats 4000000
set_option exponentiation.threshold 100000
namespace BH
open PySem PySem.Spec PyProof.Rows L2 BM
/-- the stock of numbers, so many drawn -/
structure STK (B H : Hp) (sa : Addr) (n : Nat) : Prop where
  b : B sa = none
  ex : ∃ d m k : Int, H sa = some (.lst [.int d, .int m, .int k]) ∧ 0 ≤ d ∧ 0 ≤ m ∧ m ≤ 2 ^ 130 + n ∧ 0 ≤ k ∧ k ≤ n
theorem STK.ext {B H B1 H1 : Hp} {sa : Addr} {n : Nat} (l : STK B H sa n) (e : Ext B H B1 H1) : STK B1 H1 sa n := by
  obtain ⟨hb, d, m, k, h1, h2⟩ := l
  exact ⟨by rw [e.n sa (by rw [h1]; exact fun z => nomatch z)]; exact hb, d, m, k, e.h _ _ h1, h2⟩
theorem STK.wo {B H B1 H1 : Hp} {sa d : Addr} {n : Nat} (l : STK B H sa n) (ne : sa ≠ d) (e : Ext B (Wo H d) B1 H1) : STK B1 H1 sa n := by
  obtain ⟨hb, dd, m, k, h1, h2⟩ := l
  have h1' : Wo H d sa = some (.lst [.int dd, .int m, .int k]) := by rw [Wo.other ne]; exact h1
  exact ⟨by rw [e.n sa (by rw [h1']; exact fun z => nomatch z)]; exact hb, dd, m, k, e.h _ _ h1', h2⟩
theorem STK.le {B H : Hp} {sa : Addr} {n n' : Nat} (l : STK B H sa n) (h : n ≤ n') : STK B H sa n' := by
  obtain ⟨hb, d, m, k, h1, h2, h3, h4, h5, h6⟩ := l
  exact ⟨hb, d, m, k, h1, h2, h3, by omega, h5, by omega⟩
theorem bits_le {i : Int} {a : Nat} (h : i.natAbs < 2 ^ a) : (Builtin.Int.intBits i : Int) ≤ a := by
  have := PyProof.Rows.intBits_le h
  omega
section
variable {P : Program} {w : World} {K : PySem.W.Frag} {mg : Str → Option Value} {base : Heap}
def sp_law_draw : Sp := fun vs H Q _ => ∃ (B : Hp) (sa : Addr) (n wd : Nat), Same B H ∧ vs = [.ref sa, .int (wd : Int)] ∧ STK B H sa n ∧ n ≤ 1000000 ∧ 1 ≤ wd ∧ wd ≤ 10 ^ 29 ∧ ∀ B' H' (r : Nat), Ext B (Wo H sa) B' H' → STK B' H' sa (n + 1) → r < wd → Q (.int (r : Int)) H'
theorem c_law_draw (T : Txt w K mg) : Has P w K mg base "_law_draw" 1 ["_law_stock_here", "_law_wide"] sp_law_draw := by
  refine Has.of T.f_law_draw T.g_law_draw sc_law_draw (fun _ _ _ _ _ _ us hl => match us, hl with | [_, _], _ => rfl) (fun vs H Q E h => ?_) (fun f cdv A outer s H vs Q E hr h => ?_)
  · obtain ⟨B, sa, n, wd, hB, rfl, _⟩ := h; rfl
  · obtain ⟨B, sa, n, wd, hB, rfl, ⟨hsb, d, m, kk, hs, hd, hm0, hm, hk0, hk⟩, hn, hw1, hw2, k⟩ := h
    have e0 : Ext B (Wo H sa) B H := ⟨Same.refl _, hB, Wo.same (Same.refl _), fun _ _ => rfl⟩
    have m0 : Mine (Wo H sa) B H sa (.lst [.int d, .int m, .int kk]) := ⟨Wo.at, hsb, hs⟩
    have hw0 : (0 : Int) < (wd : Int) := by omega
    have hwb : wd < 2 ^ 100 := Nat.lt_of_le_of_lt hw2 (by decide)
    have fin : ∀ (z : Int) B' H', Ext B (Wo H sa) B' H' → STK B' H' sa (n + 1) → Q (.int (z % (wd : Int))) H' := by
      intro z B' H' e' s'
      have h0 := Int.emod_nonneg z (b := (wd : Int)) (by omega)
      have h1 := Int.emod_lt_of_pos z hw0
      have := k B' H' (z % (wd : Int)).toNat e' s' (by omega)
      rwa [Int.toNat_of_nonneg h0] at this
    refine ⟨_, (pss_cons (ps_if (pt_cmpR op_gt (pe_ix (xL (K := K) rfl) (pv 0) pe_int (fun _ _ => rfl)) pe_int (nomark _)) (pss_cons (ps_set (i := 2) sc_law_draw.nd rfl (.inl rfl) (pe_op op_mod (pe_callTy call_int1 (by rfl) T.b_int (by decide +kernel) (pa_cons (pe_ix (xL (K := K) rfl) (pv 0) pe_int (fun _ _ => rfl)) pa_nil)) (pv 1)))
      (pss_cons (ps_asg (pe_op op_fdivW (pe_ix (xL (K := K) rfl) (pv 0) pe_int (fun _ _ => rfl)) (pv 1)) (pg_sub (pv 0) pe_int set_list))
      (pss_one (ps_ret (pv 2))))) pss_nil)
      (pss_cons (ps_asg (pe_op op_add (pe_ix (xL (K := K) rfl) (pv 0) pe_int (fun _ _ => rfl)) pe_int) (pg_sub (pv 0) pe_int set_list))
      (pss_cons (ps_set (i := 3) sc_law_draw.nd rfl (.inl rfl) (pe_op op_add (pe_ix (xL (K := K) rfl) (pv 0) pe_int (fun _ _ => rfl)) (pe_op op_mulX pe_int (pe_ix (xL (K := K) rfl) (pv 0) pe_int (fun _ _ => rfl)))))
      (pss_cons (ps_set (i := 3) sc_law_draw.nd rfl (.inl rfl) (pe_op op_add (pe_op op_mod (pe_callTy call_int1 (by rfl) T.b_int (by decide +kernel) (pa_cons (pe_op op_powW (pv 3) pe_int) pa_nil)) pe_int) (pe_op op_mulX pe_int (pe_ix (xL (K := K) rfl) (pv 0) pe_int (fun _ _ => rfl)))))
      (pss_cons (ps_set (i := 3) sc_law_draw.nd rfl (.inl rfl) (pe_op op_mod (pe_callTy call_int1 (by rfl) T.b_int (by decide +kernel) (pa_cons (pe_op op_powW (pv 3) pe_int) pa_nil)) pe_int))
      (pss_one (ps_ret (pe_op op_mod (pe_callTy call_int1 (by rfl) T.b_int (by decide +kernel) (pa_cons (pe_op op_fdivW (pv 3) pe_int) pa_nil)) (pv 1))))))))), ?_⟩
    refine ⟨_, rfl, sa, _, 0, _, rfl, rfl, SqL.of hs, atI_nat (j := 0) rfl, _, _, rfl, rfl, _, rfl, ?_⟩
    by_cases hd0 : 0 < d
    · refine iteB (decide_eq_true hd0) ?_
      refine ⟨_, rfl, sa, _, 0, _, rfl, rfl, SqL.of hs, atI_nat (j := 0) rfl, .inl ⟨_, rfl, _, rfl, _, _, rfl, rfl, hw0, ?_⟩⟩
      refine ⟨_, rfl, sa, _, 0, _, rfl, rfl, SqL.of hs, atI_nat (j := 0) rfl, _, rfl, _, _, rfl, rfl, wide_div (b := 100) hw0 (by rw [Int.natAbs_natCast]; exact hwb) (by decide) (by decide), ?_⟩
      refine ⟨_, rfl, sa, _, _, 0, rfl, rfl, hs, rfl, ?_⟩
      have e1 := m0.set e0 (.lst [.int (d / (wd : Int)), .int m, .int kk])
      have m1 := m0.put (.lst [.int (d / (wd : Int)), .int m, .int kk])
      refine ⟨_, rfl, fin d _ _ e1 ⟨hsb, _, m, kk, m1.h, Int.ediv_nonneg hd (by omega), hm0, by omega, hk0, by omega⟩⟩
    · refine iteBF (decide_eq_false hd0) ?_
      refine ⟨_, rfl, sa, _, 2, _, rfl, rfl, SqL.of hs, atI_nat (j := 2) rfl, _, _, rfl, rfl, ?_⟩
      refine ⟨_, rfl, sa, _, _, 2, rfl, rfl, hs, rfl, ?_⟩
      have e1 := m0.set e0 (.lst [.int d, .int m, .int (kk + 1)])
      have m1 := m0.put (.lst [.int d, .int m, .int (kk + 1)])
      have e130 : (2 : Int) ^ 130 = 1361129467683753853853498429727072845824 := by decide +kernel
      have n140 : (2 : Nat) ^ 140 = 1393796574908163946345982392040522594123776 := by decide +kernel
      rw [e130] at hm
      have hkn : kk + 1 ≤ 1000001 := by omega
      have hm2 : m ≤ 1361129467683753853853498429727073845824 := by omega
      have hb1 : (m + 1000000000000000003 * (kk + 1)).natAbs < 2 ^ 140 := by rw [n140]; omega
      have hkb : (kk + 1).natAbs < 2 ^ 140 := by rw [n140]; omega
      have hmul1 : CMulX 1000000000000000003 (kk + 1) := mulx_ok (a := 140) (b := 140) (by rw [n140]; decide) hkb (by decide)
      have hmul2 : CMulX 999999000001 (kk + 1) := mulx_ok (a := 140) (b := 140) (by rw [n140]; decide) hkb (by decide)
      refine ⟨_, rfl, sa, _, 1, _, rfl, rfl, SqL.of m1.h, atI_nat (j := 1) rfl, _, rfl, sa, _, 2, _, rfl, rfl, SqL.of m1.h, atI_nat (j := 2) rfl, _, _, rfl, rfl, hmul1, _, _, rfl, rfl, ?_⟩
      refine ⟨_, rfl, _, _, rfl, rfl, ⟨by decide, ?_⟩, .inl ⟨_, rfl, _, _, rfl, rfl, by show (0 : Int) < 170141183460469231731687303715884105727; decide, _, rfl, sa, _, 2, _, rfl, rfl, SqL.of m1.h, atI_nat (j := 2) rfl, _, _, rfl, rfl, hmul2, _, _, rfl, rfl, ?_⟩⟩
      · have := bits_le hb1
        have e27 : (2 : Int) ^ 27 = 134217728 := by decide
        rw [e27]
        omega
      generalize hg : (m + 1000000000000000003 * (kk + 1)) ^ (2 : Int).toNat = g1
      have h1 := Int.emod_nonneg g1 (b := 170141183460469231731687303715884105727) (by decide)
      have h2 := Int.emod_lt_of_pos g1 (b := 170141183460469231731687303715884105727) (by decide)
      have hb2 : (g1 % 170141183460469231731687303715884105727 + 999999000001 * (kk + 1)).natAbs < 2 ^ 140 := by rw [n140]; omega
      refine ⟨_, rfl, _, _, rfl, rfl, ⟨by decide, ?_⟩, .inl ⟨_, rfl, _, _, rfl, rfl, by show (0 : Int) < 170141183460469231731687303715884105727; decide, ?_⟩⟩
      · have := bits_le hb2
        have e27 : (2 : Int) ^ 27 = 134217728 := by decide
        rw [e27]
        omega
      refine ⟨_, rfl, _, _, rfl, rfl, wide_div (b := 30) (by decide) (by decide) (by decide) (by decide), .inl ⟨_, rfl, _, rfl, _, _, rfl, rfl, hw0, ?_⟩⟩
      refine fin _ _ _ e1 ⟨hsb, d, m, kk + 1, m1.h, hd, hm0, by rw [e130]; omega, by omega, by omega⟩
def sp_law_stock (K : PySem.W.Frag) : Sp := fun vs H Q _ => ∃ (B : Hp) (sc : Addr) (xs : List Int), Same B H ∧ vs = [.ref sc] ∧ SqL K B sc (xs.map V.int) ∧ xs.length ≤ 63 ∧ ∀ B' H' p, Ext B H B' H' → H p = none → STK B' H' p 0 → Q (.ref p) H'
theorem c_law_stock (T : Txt w K mg) : Has P w K mg base "_law_stock" 1 ["_law_script"] (sp_law_stock K) := by
  refine Has.of T.f_law_stock T.g_law_stock sc_law_stock (fun _ _ _ _ _ _ us hl => match us, hl with | [_], _ => rfl) (fun vs H Q E h => ?_) (fun f cdv A outer s H vs Q E hr h => ?_)
  · obtain ⟨B, sc, xs, hB, rfl, _⟩ := h; rfl
  · obtain ⟨B, sc, xs, hB, rfl, hsc, hl, k⟩ := h
    refine ⟨_, (pss_cons (ps_asg (pe_tup (pa_cons pe_int (pa_cons pe_int pa_nil))) (pg_tup rfl (pgs_cons (pg_name (i := 1) sc_law_stock.nd rfl (.inl rfl)) (pgs_cons (pg_name (i := 2) sc_law_stock.nd rfl (.inl rfl)) pgs_nil))))
      (pss_cons (ps_for PassesOwn.never rfl (piL (K := K) rfl (pe_slice (slL (K := K) rfl) (pv 0) po_none (po_some pe_int))) (pg_name (i := 3) sc_law_stock.nd rfl (.inl rfl))
      (pss_cons (ps_if (pt_cmpR op_ge (pe_callB call_abs (by rfl) T.b_abs (by decide +kernel) (pa_cons (pv 3) pa_nil)) (pe_op op_pow pe_int pe_int) (nomark _)) (pss_one (ps_set (i := 1) sc_law_stock.nd rfl (.inl rfl) (pe_op op_add (pe_op op_mulX (pv 1) (pe_op op_pow pe_int pe_int)) (pe_op op_mod (pe_callTy call_int1 (by rfl) T.b_int (by decide +kernel) (pa_cons (pe_callB call_abs (by rfl) T.b_abs (by decide +kernel) (pa_cons (pv 3) pa_nil)) pa_nil)) (pe_op op_pow pe_int pe_int))))) pss_nil)
      (pss_cons (ps_set (i := 4) sc_law_stock.nd rfl (.inl rfl) (pe_op op_add (pe_op op_add (pe_op op_mulX (pv 2) pe_int) (pe_op op_mod (pe_callTy call_int1 (by rfl) T.b_int (by decide +kernel) (pa_cons (pv 3) pa_nil)) pe_int)) pe_int))
      (pss_one (ps_set (i := 2) sc_law_stock.nd rfl (.inl rfl) (pe_op op_mod (pe_callTy call_int1 (by rfl) T.b_int (by decide +kernel) (pa_cons (pv 4) pa_nil)) pe_int))))))
      (pss_one (ps_ret (pe_lst (pa_cons (pv 1) (pa_cons (pv 2) (pa_cons pe_int pa_nil)))))))), ?_⟩
    refine ⟨by show 2 ≤ sizeLine; decide, fun p0 np0 => ?_⟩
    have e1 := Ext.tmp hB (.tup [.int 0, .int 27644437]) np0
    refine ⟨p0, _, rfl, SqT.of upd_same, rfl, _, _, rfl, _, _, rfl, rfl, ?_⟩
    have hcut : cutV (xs.map V.int) none (some 63) = xs.map V.int := by
      unfold cutV
      rw [HT.sIx_none, show HT.sIx (xs.map V.int).length (xs.map V.int).length (some 63) = min 63 (xs.map V.int).length from HT.sIx_nat _ _ 63, List.drop_zero, Nat.sub_zero]
      exact List.take_of_length_le (by rw [List.length_map]; omega)
    refine ⟨_, rfl, 63, rfl, sc, _, rfl, e1.bh.seq hsc, fun d nd => ?_⟩
    have e2 := Ext.new e1.w (.lst (cutV (xs.map V.int) none (some 63))) nd
    have E2 := e1.trans e2
    rw [hcut] at e2 E2 ⊢
    have n60 : (10 : Int) ^ (60 : Int).toNat = 1000000000000000000000000000000000000000000000000000000000000 := by decide +kernel
    have b60 : (1000000000000000000000000000000000000000000000000000000000000 : Int).natAbs < 2 ^ 200 := by decide +kernel
    refine ⟨d, rfl, ⟨_, SqL.of upd_same⟩, for_it (walk_list _) (fun i σ' H' => ∃ (B' : Hp) (dg mx : Int) (v3 v4 : Option V), σ' = [some (.ref sc), some (.int dg), some (.int mx), v3, v4] ∧ Ext B H B' H' ∧ B' d = some (.lst (xs.map V.int)) ∧ 0 ≤ dg ∧ dg < 2 ^ (200 * i + 1) ∧ 0 ≤ mx ∧ mx < 170141183460469231731687303715884105727)
      ⟨_, 0, 27644437, none, none, rfl, E2, upd_same, by decide, by decide, by decide, by decide⟩ (fun i σ' H' _ ⟨B', _, _, _, _, _, e, hd, _⟩ => e.w.seq (SqL.of hd)) ?_ ?_⟩
    · rintro i y σ' H3 H3' hi ⟨B3, dg, mx, v3, v4, rfl, e3, hd3, h0, h1, h2, h3⟩ ⟨rfl, hy⟩
      rw [List.getElem?_map] at hy
      obtain ⟨x, hx, rfl⟩ := Option.map_eq_some_iff.mp hy
      have hi63 : i < 63 := by rw [List.length_map] at hi; omega
      have n127 : (2 : Nat) ^ 127 = 170141183460469231731687303715884105728 := by decide +kernel
      have hmx : mx.natAbs < 2 ^ 127 := by rw [n127]; omega
      have p60 : (0 : Int) < (10 : Int) ^ (60 : Int).toNat := by rw [n60]; decide
      have dgn : dg.natAbs < 2 ^ (200 * i + 1) := by
        have : ((2 ^ (200 * i + 1) : Nat) : Int) = (2 : Int) ^ (200 * i + 1) := by rw [Int.natCast_pow]; rfl
        omega
      have hexp : (2 : Nat) ^ (200 * (i + 1) + 1) = 2 ^ (200 * i + 1) * 2 ^ 200 := by rw [← Nat.pow_add]; congr 1
      have hA : 0 ≤ dg * (10 : Int) ^ (60 : Int).toNat + (if x < 0 then -x else x) % (10 : Int) ^ (60 : Int).toNat ∧ dg * (10 : Int) ^ (60 : Int).toNat + (if x < 0 then -x else x) % (10 : Int) ^ (60 : Int).toNat < 2 ^ (200 * (i + 1) + 1) := by
        generalize (if x < 0 then -x else x) = ax
        have a0 := Int.emod_nonneg ax (b := (10 : Int) ^ (60 : Int).toNat) (by omega)
        have a1 := Int.emod_lt_of_pos ax p60
        have a2 : 0 ≤ dg * (10 : Int) ^ (60 : Int).toNat := Int.mul_nonneg h0 (by omega)
        refine ⟨by omega, ?_⟩
        have a3 : (dg + 1) * (10 : Int) ^ (60 : Int).toNat ≤ (2 : Int) ^ (200 * i + 1) * 2 ^ 200 := by
          refine Int.mul_le_mul (by omega) ?_ (by omega) (by exact Int.le_of_lt (Int.pow_pos (by decide)))
          rw [n60]
          decide +kernel
        rw [Int.add_mul, Int.one_mul, ← Int.pow_add] at a3
        rw [show 200 * (i + 1) + 1 = 200 * i + 1 + 200 by omega]
        omega
      have hB1 : dg < 2 ^ (200 * (i + 1) + 1) := by
        refine Int.lt_of_lt_of_le h1 ?_
        have : (2 : Nat) ^ (200 * i + 1) ≤ 2 ^ (200 * (i + 1) + 1) := Nat.pow_le_pow_right (by decide) (by omega)
        exact_mod_cast this
      have hpow : CPow 10 18 := ⟨by decide, by decide, by decide⟩
      have hpow60 : CPow 10 60 := ⟨by decide, by decide, by decide⟩
      have hmulA : CMulX dg ((10 : Int) ^ (60 : Int).toNat) := mulx_ok (a := 200 * i + 1) (b := 200) dgn (by rw [n60]; exact b60) (by omega)
      have hmulB : CMulX mx 48271 := mulx_ok (a := 127) (b := 100) hmx (by decide) (by decide)
      refine ⟨_, rfl, _, rfl, _, _, rfl, rfl, hpow, _, _, rfl, rfl, _, rfl, ?_⟩
      by_cases hge : (10 : Int) ^ (18 : Int).toNat ≤ (if x < 0 then -x else x)
      case' pos =>
        refine iteB (decide_eq_true hge) ?_
        refine ⟨_, rfl, _, _, rfl, rfl, hpow60, _, _, rfl, rfl, hmulA, _, rfl, _, rfl, .inl ⟨_, rfl, _, _, rfl, rfl, hpow60, _, _, rfl, rfl, p60, _, _, rfl, rfl, ?_⟩⟩
      case' neg =>
        refine iteBF (decide_eq_false hge) ?_
      all_goals
        refine ⟨_, rfl, _, _, rfl, rfl, hmulB, _, rfl, .inl ⟨_, rfl, _, _, rfl, rfl, by show (0 : Int) < 2305843009213693951; decide, _, _, rfl, rfl, _, _, rfl, rfl, ?_⟩⟩
        refine ⟨_, rfl, .inl ⟨_, rfl, _, _, rfl, rfl, by show (0 : Int) < 170141183460469231731687303715884105727; decide, ?_⟩⟩
        refine ⟨B3, _, _, _, _, rfl, e3, hd3, ?_, ?_, Int.emod_nonneg _ (by decide), Int.emod_lt_of_pos _ (by decide)⟩
        · first | exact hA.1 | exact h0
        · first | exact hA.2 | exact hB1
    · rintro σ' H3 ⟨B3, dg, mx, v3, v4, rfl, e3, hd3, h0, h1, h2, h3⟩
      refine ⟨_, rfl, _, rfl, by show 3 ≤ sizeLine; decide, fun p np => ?_⟩
      have e4 := Ext.tmp e3.w (.lst [.int dg, .int mx, .int 0]) np
      have m4 := Mine.new (o := .lst [.int dg, .int mx, .int 0]) e3 np
      have e130 : (2 : Int) ^ 130 = 1361129467683753853853498429727072845824 := by decide +kernel
      exact k _ _ p (e3.trans e4) m4.z ⟨m4.b, dg, mx, 0, m4.h, h0, h2, by rw [e130]; omega, by decide, by decide⟩
end
end BH
end
section
set_option Elab.async false
set_option linter.all false
set_option maxRecDepth 100000
set_option maxHeartbeats 4000000
namespace BH
open PySem PySem.Spec PyProof.Rows L2 BM
theorem STK.ne {B H : Hp} {sa l : Addr} {n : Nat} (S : STK B H sa n) (h : H l = none) : l ≠ sa := fun z => by
  obtain ⟨_, _, _, _, h1, _⟩ := S
  rw [z, h1] at h
  cases h
theorem STK.upd {B H : Hp} {sa l : Addr} {n : Nat} {u : HO} (S : STK B H sa n) (h : sa ≠ l) : STK B (L2.upd H l u) sa n := by
  obtain ⟨s1, d, m, kk, s2, s3⟩ := S
  exact ⟨s1, d, m, kk, by rw [upd_ne h]; exact s2, s3⟩
theorem STK.frz {B H : Hp} {sa l : Addr} {n : Nat} {u : HO} (S : STK B H sa n) (h : sa ≠ l) : STK (L2.upd B l u) H sa n := by
  obtain ⟨s1, d, m, kk, s2, s3⟩ := S
  exact ⟨by rw [upd_ne h]; exact s1, d, m, kk, s2, s3⟩
theorem pick3 {a b c r m : Nat} (ha : a ≤ m) (hb : b ≤ m) (hc : c ≤ m) (hr : r < 3) : [a, b, c].getD r 0 ≤ m := by
  match r, hr with
  | 0, _ => exact ha
  | 1, _ => exact hb
  | 2, _ => exact hc
theorem pick3g {a b c r m : Nat} (ha : m ≤ a) (hb : m ≤ b) (hc : m ≤ c) (hr : r < 3) : m ≤ [a, b, c].getD r 0 := by
  match r, hr with
  | 0, _ => exact ha
  | 1, _ => exact hb
  | 2, _ => exact hc
theorem way_at {r : Nat} (hr : r < 2) : ([V.str "back", V.str "through"])[r]? = some (.str (wayS (decide (r = 0)))) := by
  match r, hr with
  | 0, _ => rfl
  | 1, _ => rfl
section
variable {P : Program} {w : World} {K : PySem.W.Frag} {mg : Str → Option Value} {base : Heap}
def sp_law_kind (K : PySem.W.Frag) : Sp := fun vs H Q _ => ∃ (B : Hp) (sa : Addr) (n : Nat), Same B H ∧ vs = [.ref sa, .int 3, .int 3, .int 9] ∧ STK B H sa n ∧ n ≤ 100000 ∧
  ∀ B' H' v c n', Ext B (Wo H sa) B' H' → STK B' H' sa n' → n' ≤ n + 20 → CK K B' v c → c.Ok → c.n ≤ 18 → Q v H'
theorem c_law_kind (T : Txt w K mg) : Has P w K mg base "_law_kind" 2 ["_law_stock_here", "_law_most", "_law_wide", "_law_spare"] (sp_law_kind K) := by
  refine Has.of T.f_law_kind T.g_law_kind sc_law_kind (fun _ _ _ _ _ _ us hl => match us, hl with | [_, _, _, _], _ => rfl) (fun vs H Q E h => ?_) (fun f cdv A outer s H vs Q E hr h => ?_)
  · obtain ⟨B, sa, n, hB, rfl, _⟩ := h; rfl
  · obtain ⟨B, sa, n, hB, rfl, S, hn, k⟩ := h
    have e0 : Ext B (Wo H sa) B H := ⟨Same.refl _, hB, Wo.same (Same.refl _), fun _ _ => rfl⟩
    refine ⟨_, (pss_cons (ps_par (i := 4) (j := 5) rfl sc_law_kind.nd rfl rfl (by decide) rfl rfl (pa_cons (pe_lst pa_nil) (pa_cons pe_int pa_nil)) (by rfl))
      (pss_cons (ps_for PassesOwn.never rfl (pi_range1 rfl T.b_range (pa_cons (pe_op op_add pe_int (pc (c_law_draw T) hr (pa_cons (pv 0) (pa_cons (pv 1) pa_nil)))) pa_nil)) (pg_name (i := 6) sc_law_kind.nd rfl (.inl rfl))
      (pss_cons (ps_set (i := 7) sc_law_kind.nd rfl (.inl rfl) (pe_op op_add pe_int (pe_ix (xL (K := K) rfl) (pe_lst (pa_cons pe_int (pa_cons (pc (c_law_draw T) hr (pa_cons (pv 0) (pa_cons (pv 2) pa_nil))) (pa_cons (pc (c_law_draw T) hr (pa_cons (pv 0) (pa_cons (pv 2) pa_nil))) pa_nil)))) (pc (c_law_draw T) hr (pa_cons (pv 0) (pa_cons pe_int pa_nil))) (fun _ _ => rfl))))
      (pss_cons (ps_expr (pe_bm PySem.F.plainAttrs_list PySem.F.slot_list_append PySem.F.type_list_append mt_append (pv 4) (pa_cons (pe_tup (pa_cons (pv 7) (pa_cons (pe_ix (xL (K := K) rfl) (pe_lst (pa_cons pe_str (pa_cons pe_str pa_nil))) (pc (c_law_draw T) hr (pa_cons (pv 0) (pa_cons pe_int pa_nil))) (fun _ _ => rfl)) pa_nil))) pa_nil)))
      (pss_one (ps_set (i := 5) sc_law_kind.nd rfl (.inl rfl) (pe_op op_sub (pe_op op_add (pv 5) (pv 7)) pe_int))))))
      (pss_one (ps_ret (pe_tup (pa_cons (pe_callB (call_max2 rfl) (by rfl) T.b_max (by decide +kernel) (pa_cons pe_int (pa_cons (pe_op op_add (pv 5) (pe_ix (xL (K := K) rfl) (pe_lst (pa_cons pe_int (pa_cons pe_int (pa_cons (pc (c_law_draw T) hr (pa_cons (pv 0) (pa_cons (pv 3) pa_nil))) pa_nil)))) (pc (c_law_draw T) hr (pa_cons (pv 0) (pa_cons pe_int pa_nil))) (fun _ _ => rfl))) pa_nil))) (pa_cons (pv 4) pa_nil))))))), ?_⟩
    refine ⟨by show 0 ≤ sizeLine; decide, fun l nl => ⟨_, _, rfl, ?_⟩⟩
    have hls := S.ne nl
    have e1 := Ext.tmp hB (.lst []) nl
    have S1 := S.ext e1
    have E1 := e0.trans e1
    have m1 : Mine (Wo H sa) B (upd H l (.lst [])) l (.lst []) := Mine.new e0 nl
    refine ⟨_, rfl, _, rfl, B, sa, n, 3, e1.w, rfl, S1, by omega, by decide, by decide, fun B2 H2 r0 e2 S2 hr0 => ?_⟩
    have E2 := Ext.transW Wo.at E1 e2
    have m2 := m1.wo hls e2
    refine ⟨_, _, rfl, rfl, _, rfl, by omega, by omega, ?_⟩
    rw [show ((1 : Int) + (r0 : Int)).toNat = r0 + 1 by omega]
    refine for_it (walk_rng (r0 + 1)) (fun i σ' H' => ∃ (B' : Hp) (rs : List Rail) (rvs : List V) (n' : Nat) (v6 v7 : Option V), σ' = [some (.ref sa), some (.int 3), some (.int 3), some (.int 9), some (.ref l), some (.int (1 + (lefts rs : Nat))), v6, v7] ∧ Ext B (Wo H sa) B' H' ∧ STK B' H' sa n' ∧ n' ≤ n + 1 + 4 * i ∧ Mine (Wo H sa) B' H' l (.lst rvs) ∧ Paired (RL K B') rvs rs ∧ rs.length = i ∧ two rs ∧ (∀ r ∈ rs, r.1 ≤ 4) ∧ lefts rs ≤ 3 * i)
      ⟨B2, [], [], n + 1, none, none, rfl, E2, S2, Nat.le_refl _, m2, .nil, rfl, fun r h => (by cases h), fun r h => (by cases h), Nat.le_refl _⟩ (fun i σ' H' _ _ => trivial) ?_ ?_
    · rintro i y σ' H3 H3' hi ⟨B3, rs, rvs, n3, v6, v7, rfl, e3, S3, hn3, m3, hpr, hrl, h2, h4, hlf⟩ ⟨rfl, rfl⟩
      refine ⟨_, rfl, _, rfl, B3, sa, n3, 3, e3.w, rfl, S3, by omega, by decide, by decide, fun B4 H4 r1 e4 S4 hr1 => ?_⟩
      have E4 := Ext.transW Wo.at e3 e4
      have m4 := m3.wo hls e4
      refine ⟨_, rfl, _, rfl, B4, sa, n3 + 1, 3, e4.w, rfl, S4, by omega, by decide, by decide, fun B5 H5 r2 e5 S5 hr2 => ?_⟩
      have E5 := Ext.transW Wo.at E4 e5
      have m5 := m4.wo hls e5
      refine ⟨by show 3 ≤ sizeLine; decide, fun q nq => ?_⟩
      have e6 := Ext.new e5.w (.lst ([0, r1, r2].map fun n : Nat => V.int (n : Int))) nq
      have E6 := E5.trans e6
      have m6 := m5.ext e6
      have S6 := S5.ext e6
      refine ⟨_, rfl, _, sa, n3 + 1 + 1, 3, e6.w, rfl, S6, by omega, by decide, by decide, fun B7 H7 r3 e7 S7 hr3 => ?_⟩
      have E7 := Ext.transW Wo.at E6 e7
      have m7 := m6.wo hls e7
      have hz := pick3 (a := 0) (b := r1) (c := r2) (m := 2) (by omega) (by omega) (by omega) hr3
      generalize hzz : [0, r1, r2].getD r3 0 = z at hz
      refine ⟨q, _, _, _, rfl, rfl, SqL.of (e7.w _ _ (e7.b _ _ upd_same)), atI_nat (map_getD [0, r1, r2] hr3), _, _, rfl, rfl, ?_⟩
      rw [hzz]
      have hb7 := ((e4.b.trans e5.b).trans e6.b).trans e7.b
      -- append
      refine ⟨_, rfl, .inl ⟨rfl, _, SqL.of m7.h⟩, _, rfl, by show 2 ≤ sizeLine; decide, fun q2 nq2 => ?_⟩
      have e8 := Ext.new e7.w (.lst [.str "back", .str "through"]) nq2
      have E8 := E7.trans e8
      have m8 := m7.ext e8
      have S8 := S7.ext e8
      refine ⟨_, rfl, _, sa, n3 + 1 + 1 + 1, 2, e8.w, rfl, S8, by omega, by decide, by decide, fun B9 H9 r4 e9 S9 hr4 => ?_⟩
      have E9 := Ext.transW Wo.at E8 e9
      have m9 := m8.wo hls e9
      refine ⟨q2, _, _, _, rfl, rfl, SqL.of (e9.w _ _ (e9.b _ _ upd_same)), atI_nat (way_at hr4), by show 2 ≤ sizeLine; decide, fun t nt => ?_⟩
      have e10 := Ext.new e9.w (.tup [.int (2 + (z : Int)), .str (wayS (decide (r4 = 0)))]) nt
      have E10 := E9.trans e10
      have m10 := m9.ext e10
      have S10 := S9.ext e10
      have hrvl : rvs.length = i := by rw [Paired.length hpr, hrl]
      refine ⟨l, _, _, rfl, rfl, m10.h, small1000 (by omega), ?_⟩
      have e11 := m10.set E10 (.lst (rvs ++ [.ref t]))
      have m11 := m10.put (.lst (rvs ++ [.ref t]))
      have S11 := S10.upd (u := .lst (rvs ++ [.ref t])) (Ne.symm hls)
      have hb11 := (hb7.trans e8.b).trans (e9.b.trans e10.b)
      refine ⟨_, rfl, _, rfl, _, _, rfl, rfl, _, _, rfl, rfl, ?_⟩
      have hlf2 : lefts (rs ++ [((2 + z, decide (r4 = 0)) : Rail)]) = lefts rs + (1 + z) := by
        unfold lefts
        rw [List.map_append, List.sum_append]
        simp
      refine ⟨_, rs ++ [(2 + z, decide (r4 = 0))], rvs ++ [.ref t], n3 + 1 + 1 + 1 + 1, some (.int (0 + (i : Int))), some (.int (2 + (z : Int))), ?_, e11, S11, by omega, m11, paired_app (Paired.mapP hpr fun _ _ h => h.mono hb11) (.cons ⟨t, rfl, SqT.of ?_⟩ .nil), by rw [List.length_append, hrl]; rfl, ?_, ?_, by rw [hlf2]; omega⟩
      · have e : (1 + ((lefts rs : Nat) : Int)) + (2 + (z : Int)) - 1 = 1 + ((lefts (rs ++ [((2 + z, decide (r4 = 0)) : Rail)]) : Nat) : Int) := by rw [hlf2]; omega
        rw [← e]
        rfl
      · rw [upd_same]
        show some (HO.tup [.int (2 + (z : Int)), _]) = some (HO.tup [.int ((2 + z : Nat) : Int), _])
        rw [Int.natCast_add]
        rfl
      · intro r hr
        rcases List.mem_append.mp hr with h | h
        · exact h2 r h
        · have : r = (2 + z, decide (r4 = 0)) := by simpa using h
          rw [this]; show 2 ≤ 2 + z; omega
      · intro r hr
        rcases List.mem_append.mp hr with h | h
        · exact h4 r h
        · have : r = (2 + z, decide (r4 = 0)) := by simpa using h
          rw [this]; show 2 + z ≤ 4; omega
    · rintro σ' H3 ⟨B3, rs, rvs, n3, v6, v7, rfl, e3, S3, hn3, m3, hpr, hrl, h2, h4, hlf⟩
      refine ⟨_, rfl, _, rfl, _, rfl, B3, sa, n3, 9, e3.w, rfl, S3, by omega, by decide, by decide, fun B4 H4 r1 e4 S4 hr1 => ?_⟩
      have E4 := Ext.transW Wo.at e3 e4
      have m4 := m3.wo hls e4
      refine ⟨by show 3 ≤ sizeLine; decide, fun q nq => ?_⟩
      have e6 := Ext.new e4.w (.lst ([0, 0, r1].map fun n : Nat => V.int (n : Int))) nq
      have E6 := E4.trans e6
      have m6 := m4.ext e6
      have S6 := S4.ext e6
      refine ⟨_, rfl, _, sa, n3 + 1, 3, e6.w, rfl, S6, by omega, by decide, by decide, fun B7 H7 r3 e7 S7 hr3 => ?_⟩
      have E7 := Ext.transW Wo.at E6 e7
      have m7 := m6.wo hls e7
      have hz := pick3 (a := 0) (b := 0) (c := r1) (m := 8) (by omega) (by omega) (by omega) hr3
      generalize hzz : [0, 0, r1].getD r3 0 = z at hz
      refine ⟨q, _, _, _, rfl, rfl, SqL.of (e7.w _ _ (e7.b _ _ upd_same)), atI_nat (map_getD [0, 0, r1] hr3), _, _, rfl, rfl, _, _, rfl, _, rfl, by show 2 ≤ sizeLine; decide, fun p np => ?_⟩
      rw [hzz] at *
      have hb7 := (e4.b.trans e6.b).trans e7.b
      have hval : (if (1 + ((lefts rs : Nat) : Int)) + (z : Int) > 2 then (1 + ((lefts rs : Nat) : Int)) + (z : Int) else 2) = ((max 2 (1 + lefts rs + z) : Nat) : Int) := by
        split <;> omega
      have e8 := m7.frz E7
      have e9 := Ext.new e8.w (.tup [.int (if (1 + ((lefts rs : Nat) : Int)) + (z : Int) > 2 then (1 + ((lefts rs : Nat) : Int)) + (z : Int) else 2), .ref l]) np
      have S8 : STK (upd B7 l (.lst rvs)) H7 sa (n3 + 1 + 1) := by
        obtain ⟨s1, d, m, kk, s2, s3⟩ := S7
        exact ⟨by rw [upd_ne (Ne.symm hls)]; exact s1, d, m, kk, s2, s3⟩
      refine k _ _ (.ref p) ⟨max 2 (1 + lefts rs + z), rs⟩ (n3 + 1 + 1) (e8.trans e9) (S8.ext e9) (by omega) ⟨p, .ref l, rfl, SqT.of ?_, l, rvs, rfl, e9.b.seq (SqL.of upd_same), Paired.mapP hpr fun _ _ h => ((h.mono hb7).mono m7.frz1).mono e9.b⟩ ?_ ?_
      · rw [upd_same, hval]
      · refine ⟨Nat.le_max_left _ _, ?_, ?_, h2, ?_, ?_, fun r hr => Nat.le_trans (h4 r hr) (by decide)⟩
        · show max 2 (1 + lefts rs + z) ≤ 100
          omega
        · intro e
          have : rs.length = 0 := by rw [show rs = [] from e]; rfl
          omega
        · show need rs ≤ max 2 (1 + lefts rs + z)
          rw [need_lefts]
          omega
        · show rs.length ≤ 3
          omega
      · show max 2 (1 + lefts rs + z) ≤ 18
        omega
end
end BH
end
section
set_option Elab.async false
set_option linter.all false
set_option maxRecDepth 100000
set_option maxHeartbeats 4000000
namespace BH
open PySem PySem.Spec PyProof.Rows L2 BM
theorem text_run (m : Nat) : ("run " : Str) ++ dg m = (Cmd.run m).text := by
  show _ = ("run" : Str) ++ sp1 ++ dg m
  rw [show ("run " : Str) = ("run" : Str) ++ sp1 by decide +kernel]
theorem text_tick : ("tick" : Str) = Cmd.tick.text := rfl
theorem text_swap (a b : Nat) : ("swap " : Str) ++ dg a ++ (" " : Str) ++ dg b = (Cmd.swap a b).text := by
  show _ = ("swap" : Str) ++ sp1 ++ (dg a ++ sp1 ++ dg b)
  apply str_ext
  rw [show ("swap " : Str) = ("swap" : Str) ++ sp1 by decide +kernel]
  simp only [cps_app, List.append_assoc]
  rfl
theorem text_clock (c : Clk) : ("clock " : Str) ++ clockT c = (Cmd.clock c).text := by
  show _ = ("clock" : Str) ++ sp1 ++ Str.join sp1 (clockW c)
  rw [show ("clock " : Str) = ("clock" : Str) ++ sp1 by decide +kernel]
  rfl
theorem text_parts (c : Clk) : ("parts " : Str) ++ clockT c = (Cmd.parts c).text := by
  show _ = ("parts" : Str) ++ sp1 ++ Str.join sp1 (clockW c)
  rw [show ("parts " : Str) = ("parts" : Str) ++ sp1 by decide +kernel]
  rfl
/-- a command that changes a clock's sight -/
def Mv (x : Cmd) (c : Clk) : Prop := x.isCh = true ∧ x.Ok c ∧ x.clk c = c
def after (c : Clk) : List Cmd → Sg Nat → Sg Nat
  | [], s => s
  | x :: xs, s => after c xs (x.sg c s)
theorem pick4 {a b c d : V} {r : Nat} {Pp : V → Prop} (ha : Pp a) (hb : Pp b) (hc : Pp c) (hd : Pp d) (hr : r < 4) : ∃ v, [a, b, c, d][r]? = some v ∧ Pp v := by
  match r, hr with
  | 0, _ => exact ⟨a, rfl, ha⟩
  | 1, _ => exact ⟨b, rfl, hb⟩
  | 2, _ => exact ⟨c, rfl, hc⟩
  | 3, _ => exact ⟨d, rfl, hd⟩
theorem after_snoc (c : Clk) (z : Cmd) : ∀ (xs : List Cmd) (s : Sg Nat), after c (xs ++ [z]) s = z.sg c (after c xs s)
  | [], s => rfl
  | x :: xs, s => after_snoc c z xs (x.sg c s)
theorem ans_ok {x : Cmd} {c : Clk} {s : Sg Nat} {a : Str} (h : x.isCh = true) (ha : Ans x c s a) : a = "ok" := by
  cases x <;> first | exact ha | cases h
theorem Fr.fresh {B H B1 H1 B2 H2 : Hp} {co lo : Addr} (e : Ext B H B1 H1) (hc : H co = none) (hl : H lo = none) (f : Fr B1 H1 co lo B2 H2) : Ext B H B2 H2 := by
  have key : ∀ a o, H a = some o → Wo (Wo H1 co) lo a = some o := fun a o h => by
    have n1 : a ≠ co := fun z => by rw [z, hc] at h; cases h
    have n2 : a ≠ lo := fun z => by rw [z, hl] at h; cases h
    rw [Wo.other n2, Wo.other n1]
    exact e.h _ _ h
  refine ⟨e.b.trans f.b, f.w, fun a o h => f.h a o (key a o h), fun a ha => ?_⟩
  cases q : H a with
  | none => exact absurd q ha
  | some o => rw [f.n a (by rw [key a o q]; exact fun z => nomatch z), e.n a ha]
theorem _root_.BH.Mine.fr {H0 B H B1 H1 : Hp} {p co lo : Addr} {o : HO} (m : Mine H0 B H p o) (n1 : p ≠ co) (n2 : p ≠ lo) (e : Fr B H co lo B1 H1) : Mine H0 B1 H1 p o := by
  have h1 : Wo (Wo H co) lo p = some o := by rw [Wo.other n2, Wo.other n1]; exact m.h
  exact ⟨m.z, by rw [e.n p (by rw [h1]; exact fun q => nomatch q)]; exact m.b, e.h _ _ h1⟩
theorem LV.upd {K : PySem.W.Frag} {B H : Hp} {lo d : Addr} {c : Clk} {s : Sg Nat} {q : Nat} {u : HO} (l : LV K B H lo c s q) (n : lo ≠ d) : LV K B (L2.upd H d u) lo c s q := by
  obtain ⟨hb, ⟨dx, kc, cl, cvs, h1, h2⟩, ok, vs⟩ := l
  exact ⟨hb, ⟨dx, kc, cl, cvs, by rw [upd_ne n]; exact h1, h2⟩, ok, vs⟩
theorem CS.upd {K : PySem.W.Frag} {B H : Hp} {co lo d : Addr} {c : Clk} {s : Sg Nat} {q : Nat} {u : HO} (l : CS K B H co lo c s q) (n1 : co ≠ d) (n2 : lo ≠ d) : CS K B (L2.upd H d u) co lo c s q := by
  obtain ⟨hb, ⟨dx, cv, h1, h2⟩, L, n⟩ := l
  exact ⟨hb, ⟨dx, cv, by rw [upd_ne n1]; exact h1, h2⟩, L.upd n2, n⟩
theorem CS.frz {K : PySem.W.Frag} {B H : Hp} {co lo d : Addr} {c : Clk} {s : Sg Nat} {q : Nat} {u : HO} (l : CS K B H co lo c s q) (n1 : co ≠ d) (n2 : lo ≠ d) (hd : B d = none) : CS K (L2.upd B d u) H co lo c s q := by
  have sb : Same B (L2.upd B d u) := Same.new hd
  obtain ⟨hb, ⟨dx, cv, h1, h2⟩, ⟨lb, ⟨ldx, kc, cl, cvs, l1, l2, l3, l4, l5⟩, ok, vs⟩, n⟩ := l
  exact ⟨by rw [upd_ne n1]; exact hb, ⟨dx, cv, h1, h2.mono sb⟩, ⟨by rw [upd_ne n2]; exact lb, ⟨ldx, kc, cl, cvs, l1, l2.mono sb, sb.seq l3, l4, l5.mono sb⟩, ok, vs⟩, n⟩
theorem okl : ∀ n, n < 9 → (SeqAt.shaped (.list (List.replicate n (.str "ok"))) && PyData.eqv (.list (List.replicate n (.str "ok"))) (.list (List.replicate n (.str "ok")))) = true := by decide +kernel
theorem dp_ok {K : PySem.W.Frag} {H : Hp} : ∀ n : Nat, DpAll K H (List.replicate n (.str "ok")) (List.replicate n (.str "ok"))
  | 0 => .nil
  | n + 1 => .cons (.str _) (dp_ok n)
section
variable {P : Program} {w : World} {K : PySem.W.Frag} {mg : Str → Option Value} {base : Heap}
def sp_law_texts (K : PySem.W.Frag) : Sp := fun vs H Q _ => ∃ (B : Hp) (sa : Addr) (n cnt : Nat) (kv : V) (c : Clk), Same B H ∧ vs = [.ref sa, kv, .int (cnt : Int)] ∧ STK B H sa n ∧ n ≤ 100000 ∧ CK K B kv c ∧ c.Ok ∧ cnt ≤ 7 ∧
  ∀ (B' H' : Hp) (ta : Addr) (cmds : List Cmd) (n' : Nat), Ext B (Wo H sa) B' H' → STK B' H' sa n' → n' ≤ n + 40 → B' ta = some (.lst (cmds.map fun x : Cmd => V.str x.text)) → (∀ x ∈ cmds, Mv x c) → cmds.length ≤ 7 → Q (.ref ta) H'
theorem c_law_texts (T : Txt w K mg) : Has P w K mg base "_law_texts" 2 ["_law_stock_here", "_law_kind_here", "_law_count"] (sp_law_texts K) := by
  refine Has.of T.f_law_texts T.g_law_texts sc_law_texts (fun _ _ _ _ _ _ us hl => match us, hl with | [_, _, _], _ => rfl) (fun vs H Q E h => ?_) (fun f cdv A outer s H vs Q E hr h => ?_)
  · obtain ⟨B, sa, n, cnt, kv, c, hB, rfl, _⟩ := h; rfl
  · obtain ⟨B, sa, n, cnt, kv, c, hB, rfl, S, hn, ⟨ka, rv, rfl, hka, hrv⟩, ok, hcnt, k⟩ := h
    have hn2 := ok.n2
    have hn100 := ok.n100
    have e0 : Ext B (Wo H sa) B H := ⟨Same.refl _, hB, Wo.same (Same.refl _), fun _ _ => rfl⟩
    refine ⟨_, (pss_cons (ps_set (i := 3) sc_law_texts.nd rfl (.inl rfl) (pe_lst pa_nil))
      (pss_cons (ps_for PassesOwn.never rfl (pi_range1 rfl T.b_range (pa_cons (pv 2) pa_nil)) (pg_name (i := 4) sc_law_texts.nd rfl (.inl rfl))
      (pss_cons (ps_set (i := 5) sc_law_texts.nd rfl (.inl rfl) (pc (c_law_draw T) hr (pa_cons (pv 0) (pa_cons (pe_ix (xT (K := K) rfl) (pv 1) pe_int (fun _ _ => rfl)) pa_nil))))
      (pss_cons (ps_set (i := 6) sc_law_texts.nd rfl (.inl rfl) (pe_op op_mod (pe_callTy call_int1 (by rfl) T.b_int (by decide +kernel) (pa_cons (pe_op op_add (pe_op op_add (pv 5) pe_int) (pc (c_law_draw T) hr (pa_cons (pv 0) (pa_cons (pe_op op_sub (pe_ix (xT (K := K) rfl) (pv 1) pe_int (fun _ _ => rfl)) pe_int) pa_nil)))) pa_nil)) (pe_ix (xT (K := K) rfl) (pv 1) pe_int (fun _ _ => rfl))))
      (pss_cons (ps_set (i := 7) sc_law_texts.nd rfl (.inl rfl) (pe_op op_add pe_int (pc (c_law_draw T) hr (pa_cons (pv 0) (pa_cons (pe_ix (xL (K := K) rfl) (pe_lst (pa_cons pe_int (pa_cons pe_int (pa_cons (pe_op op_pow pe_int pe_int) pa_nil)))) (pc (c_law_draw T) hr (pa_cons (pv 0) (pa_cons pe_int pa_nil))) (fun _ _ => rfl)) pa_nil)))))
      (pss_cons (ps_set (i := 8) sc_law_texts.nd rfl (.inl rfl) (pe_lst (pa_cons pe_str (pa_cons (pe_op op_add_str pe_str (pe_callTy call_str_int (by rfl) T.b_str (by decide +kernel) (pa_cons (pv 7) pa_nil))) (pa_cons (pe_op op_add_str pe_str (pe_callTy call_str_int (by rfl) T.b_str (by decide +kernel) (pa_cons (pv 7) pa_nil))) (pa_cons (pe_op op_add_str (pe_op op_add_str (pe_op op_add_str pe_str (pe_callTy call_str_int (by rfl) T.b_str (by decide +kernel) (pa_cons (pv 5) pa_nil))) pe_str) (pe_callTy call_str_int (by rfl) T.b_str (by decide +kernel) (pa_cons (pv 6) pa_nil))) pa_nil))))))
      (pss_one (ps_expr (pe_bm PySem.F.plainAttrs_list PySem.F.slot_list_append PySem.F.type_list_append mt_append (pv 3) (pa_cons (pe_ix (xL (K := K) rfl) (pv 8) (pc (c_law_draw T) hr (pa_cons (pv 0) (pa_cons pe_int pa_nil))) (fun _ _ => rfl)) pa_nil)))))))))
      (pss_one (ps_ret (pv 3))))), ?_⟩
    refine ⟨by show 0 ≤ sizeLine; decide, fun l nl => ?_⟩
    have hls := S.ne nl
    have e1 := Ext.tmp hB (.lst []) nl
    have S1 := S.ext e1
    have E1 := e0.trans e1
    have m1 : Mine (Wo H sa) B (upd H l (.lst [])) l (.lst []) := Mine.new e0 nl
    refine ⟨_, rfl, _, rfl, by omega, by omega, ?_⟩
    rw [show ((cnt : Nat) : Int).toNat = cnt by omega]
    refine for_it (walk_rng cnt) (fun i σ' H' => ∃ (B' : Hp) (cmds : List Cmd) (n' : Nat) (v4 v5 v6 v7 v8 : Option V), σ' = [some (.ref sa), some (.ref ka), some (.int (cnt : Int)), some (.ref l), v4, v5, v6, v7, v8] ∧ Ext B (Wo H sa) B' H' ∧ STK B' H' sa n' ∧ n' ≤ n + 5 * i ∧ Mine (Wo H sa) B' H' l (.lst (cmds.map fun x : Cmd => V.str x.text)) ∧ cmds.length = i ∧ (∀ x ∈ cmds, Mv x c))
      ⟨B, [], n, none, none, none, none, none, rfl, E1, S1, Nat.le_refl _, m1, rfl, fun x h => (by cases h)⟩ (fun i σ' H' _ _ => trivial) ?_ ?_
    · rintro i y σ' H3 H3' hi ⟨B3, cmds, n3, v4, v5, v6, v7, v8, rfl, e3, S3, hn3, m3, hcl, hmv⟩ ⟨rfl, rfl⟩
      -- first
      refine ⟨_, rfl, _, rfl, ka, _, 0, _, rfl, rfl, e3.bh.tup hka, atI_nat (j := 0) rfl, B3, sa, n3, c.n, e3.w, rfl, S3, by omega, by omega, Nat.le_trans hn100 (by decide), fun B4 H4 a e4 S4 ha => ?_⟩
      have E4 := Ext.transW Wo.at e3 e4
      have m4 := m3.wo hls e4
      -- second
      refine ⟨_, rfl, _, _, rfl, rfl, _, rfl, _, rfl, ka, _, 0, _, rfl, rfl, E4.bh.tup hka, atI_nat (j := 0) rfl, _, _, rfl, rfl, ?_⟩
      refine ⟨B4, sa, n3 + 1, c.n - 1, e4.w, ?_, S4, by omega, by omega, Nat.le_trans (show c.n - 1 ≤ 100 by omega) (by decide), fun B5 H5 r e5 S5 hr => ?_⟩
      · show [V.ref sa, V.int ((c.n : Int) - 1)] = _
        rw [show (c.n : Int) - 1 = ((c.n - 1 : Nat) : Int) by omega]
      have E5 := Ext.transW Wo.at E4 e5
      have m5 := m4.wo hls e5
      have hb2 : ((a : Int) + 1 + (r : Int)) % (c.n : Int) = (((a + 1 + r) % c.n : Nat) : Int) := by
        rw [Int.natCast_emod]
        congr 1
      have hbn : (a + 1 + r) % c.n < c.n := Nat.mod_lt _ (by omega)
      have hab : a ≠ (a + 1 + r) % c.n := by
        by_cases h1 : a + 1 + r < c.n
        · rw [Nat.mod_eq_of_lt h1]; omega
        · rw [Nat.mod_eq_sub_mod (by omega), Nat.mod_eq_of_lt (by omega)]; omega
      refine ⟨_, _, rfl, rfl, .inl ⟨_, rfl, _, rfl, ka, _, 0, _, rfl, rfl, E5.bh.tup hka, atI_nat (j := 0) rfl, _, _, rfl, rfl, by show (0 : Int) < (c.n : Int); omega, ?_⟩⟩
      -- many
      refine ⟨_, rfl, _, _, rfl, rfl, ⟨by decide, by decide, by decide⟩, by show 3 ≤ sizeLine; decide, fun q nq => ?_⟩
      have hq29 : ([V.int 9, V.int 300, V.int ((10 : Int) ^ (29 : Int).toNat)]) = [9, 300, 10 ^ 29].map fun n : Nat => V.int (n : Int) := by decide +kernel
      have e6 := Ext.new e5.w (.lst [V.int 9, V.int 300, V.int ((10 : Int) ^ (29 : Int).toNat)]) nq
      have E6 := E5.trans e6
      have m6 := m5.ext e6
      have S6 := S5.ext e6
      refine ⟨_, rfl, _, sa, n3 + 1 + 1, 3, e6.w, rfl, S6, by omega, by decide, by decide, fun B7 H7 r3 e7 S7 hr3 => ?_⟩
      have E7 := Ext.transW Wo.at E6 e7
      have m7 := m6.wo hls e7
      have hz := pick3 (a := 9) (b := 300) (c := 10 ^ 29) (m := 10 ^ 29) (by decide) (by decide) (Nat.le_refl _) hr3
      have hz1 := pick3g (a := 9) (b := 300) (c := 10 ^ 29) (m := 1) (by decide) (by decide) (by decide) hr3
      have hat := map_getD [9, 300, 10 ^ 29] (show r3 < [9, 300, 10 ^ 29].length from hr3)
      rw [← hq29] at hat
      generalize [9, 300, 10 ^ 29].getD r3 0 = wz at hz hz1 hat
      refine ⟨q, _, _, _, rfl, rfl, SqL.of (e7.w _ _ (e7.b _ _ upd_same)), atI_nat hat, B7, sa, n3 + 1 + 1 + 1, wz, e7.w, rfl, S7, by omega, hz1, hz, fun B8 H8 r8 e8 S8 hr8 => ?_⟩
      have E8 := Ext.transW Wo.at E7 e8
      have m8 := m7.wo hls e8
      refine ⟨_, _, rfl, rfl, ?_⟩
      have hm30 : 1 + r8 < 10 ^ 30 := Nat.lt_of_le_of_lt (show 1 + r8 ≤ 10 ^ 29 by omega) (by decide)
      have hcast : (1 : Int) + (r8 : Int) = ((1 + r8 : Nat) : Int) := by omega
      have hlg : ∀ x : Nat, x < 10 ^ 30 → ((x : Int)).natAbs.log2 < 1920 := fun x hx => log_small (lt30 hx) (by decide) (by decide)
      have h100 : (100 : Nat) < 10 ^ 30 := by decide
      have hdm : (dg (1 + r8)).length ≤ 30 := dg_len (by decide) hm30
      have hda : (dg a).length ≤ 30 := dg_len (by decide) (by omega)
      have hdb : (dg ((a + 1 + r) % c.n)).length ≤ 30 := dg_len (by decide) (by omega)
      -- rows
      refine ⟨_, rfl, _, rfl, by rw [hcast]; exact hlg _ hm30, _, _, rfl, rfl, ?_, _, rfl, _, rfl, by rw [hcast]; exact hlg _ hm30, _, _, rfl, rfl, ?_, _, rfl, _, rfl, hlg a (by omega), _, _, rfl, rfl, ?_, _, _, rfl, rfl, ?_, _, rfl, _, rfl, by rw [hb2]; exact hlg _ (by omega), _, _, rfl, rfl, ?_, by show 4 ≤ sizeLine; decide, fun q2 nq2 => ?_⟩
      · rw [hcast]
        have : (toString ((1 + r8 : Nat) : Int) : Str).length ≤ 30 := hdm
        exact Nat.le_of_lt (small1000 (by rw [show ("run " : Str).length = 4 by decide +kernel]; omega))
      · rw [hcast]
        have : (toString ((1 + r8 : Nat) : Int) : Str).length ≤ 30 := hdm
        exact Nat.le_of_lt (small1000 (by rw [show ("run " : Str).length = 4 by decide +kernel]; omega))
      · have : (toString (a : Int) : Str).length ≤ 30 := hda
        exact Nat.le_of_lt (small1000 (by rw [show ("swap " : Str).length = 5 by decide +kernel]; omega))
      · have : (toString (a : Int) : Str).length ≤ 30 := hda
        exact Nat.le_of_lt (small1000 (by rw [len_app, show ("swap " : Str).length = 5 by decide +kernel, show (" " : Str).length = 1 by decide +kernel]; omega))
      · have h1 : (toString (a : Int) : Str).length ≤ 30 := hda
        have h2 : (toString (((a + 1 + r) % c.n : Nat) : Int) : Str).length ≤ 30 := hdb
        rw [hb2]
        exact Nat.le_of_lt (small1000 (by rw [len_app, len_app, show ("swap " : Str).length = 5 by decide +kernel, show (" " : Str).length = 1 by decide +kernel]; omega))
      have e9 := Ext.new e8.w (.lst [.str "tick", .str (("run " : Str) ++ (toString ((1 : Int) + (r8 : Int)) : Str)), .str (("run " : Str) ++ (toString ((1 : Int) + (r8 : Int)) : Str)), .str (("swap " : Str) ++ (toString (a : Int) : Str) ++ (" " : Str) ++ (toString (((a : Int) + 1 + (r : Int)) % (c.n : Int)) : Str))]) nq2
      have E9 := E8.trans e9
      have m9 := m8.ext e9
      have S9 := S8.ext e9
      refine ⟨_, rfl, .inl ⟨rfl, _, SqL.of m9.h⟩, _, rfl, _, rfl, _, sa, n3 + 1 + 1 + 1 + 1, 4, e9.w, rfl, S9, by omega, by decide, by decide, fun B10 H10 r10 e10 S10 hr10 => ?_⟩
      have E10 := Ext.transW Wo.at E9 e10
      have m10 := m9.wo hls e10
      have hrun : V.str (("run " : Str) ++ (toString ((1 : Int) + (r8 : Int)) : Str)) = V.str (Cmd.run (1 + r8)).text := by
        rw [hcast, ← text_run]
        rfl
      have hswap : V.str (("swap " : Str) ++ (toString (a : Int) : Str) ++ (" " : Str) ++ (toString (((a : Int) + 1 + (r : Int)) % (c.n : Int)) : Str)) = V.str (Cmd.swap a ((a + 1 + r) % c.n)).text := by
        rw [hb2, ← text_swap]
        rfl
      have hmr : Mv (Cmd.run (1 + r8)) c := ⟨rfl, ⟨by omega, hm30⟩, rfl⟩
      obtain ⟨v, hv1, x, rfl, hx⟩ := pick4 (Pp := fun v => ∃ x : Cmd, v = V.str x.text ∧ Mv x c) (a := .str "tick") (b := .str (("run " : Str) ++ (toString ((1 : Int) + (r8 : Int)) : Str))) (c := .str (("run " : Str) ++ (toString ((1 : Int) + (r8 : Int)) : Str))) (d := .str (("swap " : Str) ++ (toString (a : Int) : Str) ++ (" " : Str) ++ (toString (((a : Int) + 1 + (r : Int)) % (c.n : Int)) : Str)))
        ⟨Cmd.tick, rfl, rfl, trivial, rfl⟩ ⟨_, hrun, hmr⟩ ⟨_, hrun, hmr⟩ ⟨_, hswap, rfl, ⟨ha, hbn, hab⟩, rfl⟩ hr10
      refine ⟨q2, _, _, _, rfl, rfl, SqL.of (e10.w _ _ (e10.b _ _ upd_same)), atI_nat hv1, l, _, _, rfl, rfl, m10.h, small1000 (by rw [List.length_map]; omega), ?_⟩
      refine ⟨_, cmds ++ [x], n3 + 1 + 1 + 1 + 1 + 1, _, _, _, _, _, rfl, m10.set E10 _, S10.upd (Ne.symm hls), by omega, ?_, by rw [List.length_append, hcl]; rfl, ?_⟩
      · rw [List.map_append]
        exact m10.put _
      · intro y hy
        rcases List.mem_append.mp hy with h | h
        · exact hmv y h
        · have : y = x := by simpa using h
          rw [this]; exact hx
    · rintro σ' H3 ⟨B3, cmds, n3, v4, v5, v6, v7, v8, rfl, e3, S3, hn3, m3, hcl, hmv⟩
      refine ⟨_, rfl, k _ _ l cmds n3 (m3.frz e3) (S3.frz (Ne.symm hls)) (by omega) upd_same hmv (by omega)⟩
def sp_law_console (K : PySem.W.Frag) : Sp := fun vs H Q _ => ∃ (B : Hp) (kv : V) (ta : Addr) (c : Clk) (cmds : List Cmd), Same B H ∧ vs = [kv, .ref ta] ∧ CK K B kv c ∧ c.Ok ∧ B ta = some (.lst (cmds.map fun x : Cmd => V.str x.text)) ∧ (∀ x ∈ cmds, Mv x c) ∧ cmds.length ≤ 7 ∧
  ∀ (B' H' : Hp) (co lo : Addr) (q : Nat), Ext B H B' H' → H co = none → H lo = none → CS K B' H' co lo c (after c cmds (first c)) q → q ≤ 8 → Q (.ref co) H'
theorem c_law_console (T : Txt w K mg) : Has P w K mg base "_law_console" 19 ["_law_kind_here", "_law_texts_here"] (sp_law_console K) := by
  refine Has.of T.f_law_console T.g_law_console sc_law_console (fun _ _ _ _ _ _ us hl => match us, hl with | [_, _], _ => rfl) (fun vs H Q E h => ?_) (fun f cdv A outer s H vs Q E hr h => ?_)
  · obtain ⟨B, kv, ta, c, cmds, hB, rfl, _⟩ := h; rfl
  · obtain ⟨B, kv, ta, c, cmds, hB, rfl, hck, ok, hta, hmv, hcl, k⟩ := h
    refine ⟨_, (pss_cons (ps_set (i := 2) sc_law_console.nd rfl (.inr rfl) (pk0 (c_Console_init T) hr))
      (pss_cons (ps_setLc (i := 3) (own := [("_law_text", 4)]) (g := (gName 4)) rfl sc_law_console.nd rfl rfl (sw_true rfl rfl rfl (by decide +kernel)) (piL (K := K) rfl (pe_op op_cat (pe_lst (pa_cons (pe_op op_add_str pe_str (pc (c_format_clock T) hr (pa_cons (pv 0) pa_nil))) pa_nil)) (pv 1))) (blkOk_by (by kernel_rfl)) (fun _ _ _ _ _ => (pg_name (i := 4) sc_law_console.nd rfl (.inl rfl))) (fun _ _ _ _ _ => pts_nil) (fun _ _ _ _ _ => (pmK (K := K) rfl (c_Console_execute T) hr (pv 2) (pa_cons (pv 4) pa_nil))))
      (pss_one (ps_ret (pe_ifExp (pt_cmpR (op_eqD hr.units) (pv 3) (pe_op op_rep (pe_lst (pa_cons pe_str pa_nil)) (pe_callB (cLen (K := K) rfl) (by rfl) T.b_len (by decide +kernel) (pa_cons (pv 3) pa_nil))) (nomark _)) (pv 2) pe_non))))), ?_⟩
    refine fun x dx nx ndx ne => ⟨B, x, dx, same_made hB nx ndx, hB.free nx, upd_same, rfl, fun B1 H1 lo1 hlo1 e1 C1 => ⟨rfl, ?_⟩⟩
    have E1 := Ext.made hB nx ndx ne e1
    have hlo1n : H lo1 = none := (upd_none (upd_none hlo1).1).1
    have hsm : ∀ z : Cmd, z.isCh = true → (z.Ok c ∨ z = .clock c) → z.text.length ≤ 1000 := by
      intro z _ hz
      have : z.args.length ≤ 4 ∧ (∀ w ∈ z.name :: z.args, w.length ≤ 30) := by
        rcases hz with h | h
        · exact Cmd.small ok h
        · rw [h]; exact Cmd.small (c := c) ok (show Cmd.Ok (.clock c) c from ok)
      have h1 := join_len (z.name :: z.args) 30 this.2
      have h2 : (z.name :: z.args).length * 31 ≤ 5 * 31 := Nat.mul_le_mul_right 31 (by rw [List.length_cons]; omega)
      unfold Cmd.text
      omega
    refine ⟨_, rfl, B1, _, e1.w, ⟨kv, c, rfl, hck.mono e1.b, ok, rfl⟩, fun B2 H2 v2 e2 hv2 => ?_⟩
    subst hv2
    have E2 := E1.trans e2
    have C2 := C1.ext e2
    refine ⟨_, _, rfl, rfl, ?_, by show 1 ≤ sizeLine; decide, fun p np => ?_⟩
    · have h1 := hsm (.clock c) rfl (.inr rfl)
      rw [← text_clock, len_app] at h1
      exact Nat.le_of_lt (small1000 h1)
    rw [text_clock c]
    have e3 := Ext.tmp e2.w (.lst [.str (Cmd.clock c).text]) np
    have E3 := E2.trans e3
    have C3 := C2.ext e3
    refine ⟨_, rfl, p, ta, _, _, rfl, rfl, upd_same, E3.bh _ _ hta, ?_, fun p2 np2 => ?_⟩
    · rw [List.length_map]
      exact Nat.le_of_lt (small1000 (by show 1 + cmds.length ≤ 1000; omega))
    have e4 := Ext.new e3.w (.lst ([.str (Cmd.clock c).text] ++ cmds.map fun x : Cmd => V.str x.text)) np2
    have E4 := E3.trans e4
    have C4 := C3.ext e4
    have hall : ([.str (Cmd.clock c).text] ++ cmds.map fun x : Cmd => V.str x.text) = (Cmd.clock c :: cmds).map fun x : Cmd => V.str x.text := rfl
    rw [hall] at e4 E4 C4 ⊢
    refine ⟨p2, rfl, ⟨_, SqL.of upd_same⟩, fun D hD => ?_⟩
    have hDx : D ≠ x := fun z => by
      obtain ⟨_, _, h1, _⟩ := C4.ex
      rw [z, h1] at hD; cases hD
    have hDl : D ≠ lo1 := fun z => by
      obtain ⟨_, _, _, _, h1, _⟩ := C4.live.ex
      rw [z, h1] at hD; cases hD
    have e5 := Ext.tmp e4.w (.lst []) hD
    have m5 := Mine.new (o := .lst []) E4 hD
    refine lc_it (walk_list ((Cmd.clock c :: cmds).map fun x : Cmd => V.str x.text)) (Pv := fun i H' => ∃ (B' : Hp) (lo : Addr) (q : Nat), Ext B H B' H' ∧ Mine H B' H' D (.lst (List.replicate i (.str "ok"))) ∧ B' p2 = some (.lst ((Cmd.clock c :: cmds).map fun x : Cmd => V.str x.text)) ∧ D ≠ lo ∧ H lo = none ∧ q ≤ i ∧
      ((i = 0 ∧ CS K B' H' x lo c0 (first c0) q) ∨ ∃ j, i = j + 1 ∧ CS K B' H' x lo c (after c (cmds.take j) (first c)) q)) ?_ ?_ ?_ ?_
    · exact ⟨_, lo1, 0, E4.trans e5, m5, upd_same, hDl, hlo1n, Nat.le_refl _, .inl ⟨rfl, C4.ext e5⟩⟩
    · rintro i H' _ ⟨B', lo, q, e', _, hp2, _⟩
      exact SqL.of (e'.w _ _ hp2)
    · rintro i y H5 H5' hi ⟨B5, lo, q, e5, m5, hp2, hDlo, hlo, hq, hst⟩ ⟨rfl, hy⟩
      rw [List.getElem?_map] at hy
      obtain ⟨z, hz, rfl⟩ := Option.map_eq_some_iff.mp hy
      rw [List.length_map, List.length_cons] at hi
      refine ⟨rfl, ?_⟩
      -- the state ahead of it
      obtain ⟨cc, ss, C5, hok5, hch5, hafter⟩ : ∃ cc ss, CS K B5 H5' x lo cc ss q ∧ z.Ok cc ∧ z.isCh = true ∧ z.clk cc = c ∧ z.sg cc ss = after c (cmds.take i) (first c) := by
        rcases hst with ⟨rfl, C⟩ | ⟨j, rfl, C⟩
        · have : Cmd.clock c = z := by simpa using hz
          subst this
          exact ⟨_, _, C, ok, rfl, rfl, rfl⟩
        · have hz' : cmds[j]? = some z := by simpa using hz
          obtain ⟨m1, m2, m3⟩ := hmv z (List.mem_of_getElem? hz')
          refine ⟨_, _, C, m2, m1, m3, ?_⟩
          rw [take_snoc hz', after_snoc]
      obtain ⟨dx5, cv5, hins5, _⟩ := C5.ex
      refine ⟨_, rfl, x, _, _, rfl, hins5, rfl, _, rfl, B5, x, lo, cc, ss, q, z, e5.w, rfl, C5, by omega, hok5, fun B6 H6 lo' q' a fr hlo' hq' C6 hans => ?_⟩
      have ha := ans_ok hch5 hans
      subst ha
      have hDlo' : D ≠ lo' := by
        rcases hlo' with h | h
        · rw [h]; exact hDlo
        · exact fun z => by rw [← z, m5.h] at h; cases h
      have hlo'n : H lo' = none := by
        rcases hlo' with h | h
        · rw [h]; exact hlo
        · exact e5.h.free h
      have E6 := Fr.fresh e5 nx hlo fr
      have m6 := m5.fr hDx hDlo fr
      refine ⟨_, m6.h, by rw [List.length_replicate]; exact small1000 (by omega), B6, lo', q', m6.set E6 _, ?_, fr.b _ _ hp2, hDlo', hlo'n, by omega, .inr ⟨i, rfl, ?_⟩⟩
      · rw [← List.replicate_succ']
        exact m6.put _
      · rw [hafter.1, hafter.2] at C6
        exact C6.upd (Ne.symm hDx) (Ne.symm hDlo')
    · rintro H5 ⟨B5, lo, q, e5, m5, hp2, hDlo, hlo, hq, hst⟩
      rw [List.length_map, List.length_cons] at m5 hq hst
      obtain ⟨C5⟩ : Nonempty (CS K B5 H5 x lo c (after c cmds (first c)) q) := by
        rcases hst with ⟨h, _⟩ | ⟨j, h, C⟩
        · omega
        · have : j = cmds.length := by omega
          subst this
          rw [List.take_length] at C
          exact ⟨C⟩
      refine ⟨_, rfl, by show 1 ≤ sizeLine; decide, fun p3 np3 => ?_⟩
      have e6 := Ext.tmp e5.w (.lst [.str "ok"]) np3
      have E6 := e5.trans e6
      have m6 := m5.ext e6
      have C6 := C5.ext e6
      refine ⟨_, rfl, D, _, rfl, .inl (SqL.of m6.h), p3, _, _, rfl, rfl, upd_same, ?_, ?_, ?_, fun p4 np4 => ?_⟩
      · rw [List.length_replicate]; omega
      · rw [List.length_replicate]; omega
      · rw [List.length_replicate, Int.toNat_natCast]
        exact Nat.le_of_lt (small1000 (by show 1 * (cmds.length + 1) ≤ 1000; omega))
      have e7 := Ext.tmp e6.w (.lst (List.replicate ((List.replicate (cmds.length + 1) (V.str "ok")).length : Int).toNat [V.str "ok"]).flatten) np4
      have E7 := E6.trans e7
      have m7 := m6.ext e7
      have C7 := C6.ext e7
      have hrep : (List.replicate ((List.replicate (cmds.length + 1) (V.str "ok")).length : Int).toNat [V.str "ok"]).flatten = List.replicate (cmds.length + 1) (V.str "ok") := by
        rw [List.length_replicate, Int.toNat_natCast]
        generalize cmds.length + 1 = m
        induction m with
        | zero => rfl
        | succ m ih => rw [List.replicate_succ, List.flatten_cons, ih]; rfl
      have hokl := okl (cmds.length + 1) (by omega)
      rw [Bool.and_eq_true] at hokl
      refine ⟨_, _, .lst (SqL.of m7.h) (dp_ok _), .lst (SqL.of upd_same) (by rw [hrep]; exact dp_ok _), hokl.1, hokl.1, _, rfl, iteB hokl.2 ?_⟩
      exact ⟨_, rfl, k _ _ x lo q (m7.frz E7) nx hlo (C7.frz (Ne.symm hDx) (Ne.symm hDlo) m7.b) (by omega)⟩
end
end BH
end
section
set_option Elab.async false
set_option linter.all false
set_option maxRecDepth 100000
set_option maxHeartbeats 4000000
namespace BM
theorem queue_ex {c : Clk} (hc : c.Ok) {s : Sg Nat} (vs : VS c s) : ∃ qq : List Nat, qq.length = c.n ∧ spots c.rs (cnts s) qq = s := by
  have hS := spots_vs hc vs.fits
  have hlS : (flat (spots c.rs (cnts s) (List.range c.n))).length = c.n := by rw [hS.perm.length_eq, List.length_range]
  have hnd : (flat (spots c.rs (cnts s) (List.range c.n))).Nodup := hS.perm.nodup_iff.mpr List.nodup_range
  refine ⟨_, queue_len (inv := (List.range c.n).map fun x => (flat (spots c.rs (cnts s) (List.range c.n))).idxOf x) (by rw [List.length_map, List.length_range]) _, queue_ok hc vs (by rw [List.length_map, List.length_range]) fun p hp => ?_⟩
  have hpm := hS.perm
  generalize flat (spots c.rs (cnts s) (List.range c.n)) = L at *
  have hpl : p < L.length := by omega
  have hy : L.getD p 0 < c.n := List.mem_range.mp (hpm.mem_iff.mp (getD_mem hpl))
  rw [List.getD_eq_getElem?_getD (l := List.map _ _), List.getElem?_map, List.getElem?_range hy]
  show L.idxOf (L.getD p 0) = p
  have hm : L.getD p 0 ∈ L := getD_mem hpl
  have h1 : L.idxOf (L.getD p 0) < L.length := List.idxOf_lt_length_of_mem hm
  refine getD_inj hnd h1 hpl ?_
  rw [List.getD_eq_getElem?_getD, List.getElem?_eq_getElem h1]
  exact List.getElem_idxOf h1
theorem period_sight {c : Clk} (hc : c.Ok) {s : Sg Nat} (vs : VS c s) {p : Nat} (h : ∀ x, x < c.n → itN (trow c) p x = x) : stepN c.rs (prod c.rs * p) s = s := by
  obtain ⟨qq, hq, hs⟩ := queue_ex hc vs
  have h1 := spots_counts c hc qq hq (cnts s) vs.fits
  rw [hs] at h1
  have h2 : stepN c.rs (p * prod c.rs) (qq, empt c.rs.length) = (qq, empt c.rs.length) := by
    rw [turns_steps c.rs hc.two p qq (by rw [hq]; exact hc.need), iterT_row hc p qq hq]
    have : (List.range c.n).map (fun i => qq.getD (itN (trow c) p i) 0) = qq := by
      have h3 := by_places 0 qq
      rw [hq] at h3
      conv => rhs; rw [← h3]
      apply List.map_congr_left
      intro i hi
      rw [h i (List.mem_range.mp hi)]
    rw [this]
  conv => lhs; rw [h1]
  rw [← stepN_add, Nat.add_comm, Nat.mul_comm, stepN_add, h2, ← h1]
end BM
namespace BH
open PySem PySem.Spec PyProof.Rows L2 BM
theorem Fr.step {B H B1 H1 B2 H2 : Hp} {co lo lo1 : Addr} (f : Fr B H co lo B1 H1) (h : lo1 = lo ∨ H lo1 = none) (g : Fr B1 H1 co lo1 B2 H2) : Fr B H co lo B2 H2 := by
  have key : ∀ a o, Wo (Wo H co) lo a = some o → Wo (Wo H1 co) lo1 a = some o := fun a o q => by
    have n1 := Wo.ne (show Wo (Wo H co) lo a ≠ none by rw [q]; exact fun z => nomatch z)
    have n2 := Wo.ne n1.1
    have n3 : a ≠ lo1 := by
      rcases h with h | h
      · rw [h]; exact n1.2
      · exact fun z => n2.1 (by rw [z]; exact h)
    rw [Wo.other n3, Wo.other n2.2]
    exact f.h _ _ q
  refine ⟨f.b.trans g.b, g.w, fun a o q => g.h a o (key a o q), fun a ha => ?_⟩
  cases q : Wo (Wo H co) lo a with
  | none => exact absurd q ha
  | some o => rw [g.n a (by rw [key a o q]; exact fun z => nomatch z), f.n a ha]
/-- a console that answers and changes from one heap on -/
def St (K : PySem.W.Frag) (B H : Hp) (co lo : Addr) (B' H' : Hp) (c : Clk) (s : Sg Nat) (q : Nat) : Prop := ∃ lo', Fr B H co lo B' H' ∧ (lo' = lo ∨ H lo' = none) ∧ CS K B' H' co lo' c s q
theorem St.start {K : PySem.W.Frag} {B H : Hp} {co lo : Addr} {c : Clk} {s : Sg Nat} {q : Nat} (hB : Same B H) (C : CS K B H co lo c s q) : St K B H co lo B H c s q := ⟨lo, (Ext.refl hB).fr, .inl rfl, C⟩
theorem St.ext {K : PySem.W.Frag} {B H B1 H1 B2 H2 : Hp} {co lo : Addr} {c : Clk} {s : Sg Nat} {q : Nat} (S : St K B H co lo B1 H1 c s q) (e : Ext B1 H1 B2 H2) : St K B H co lo B2 H2 c s q := by
  obtain ⟨lo', f, h, C⟩ := S
  exact ⟨lo', f.post e, h, C.ext e⟩
theorem St.step {K : PySem.W.Frag} {B H B1 H1 B2 H2 : Hp} {co lo lo1 lo2 : Addr} {c' : Clk} {s' : Sg Nat} {q' : Nat} (f : Fr B H co lo B1 H1) (h : lo1 = lo ∨ H lo1 = none) (g : Fr B1 H1 co lo1 B2 H2) (h2 : lo2 = lo1 ∨ H1 lo2 = none) (C : CS K B2 H2 co lo2 c' s' q') : St K B H co lo B2 H2 c' s' q' := by
  refine ⟨lo2, f.step h g, ?_, C⟩
  rcases h2 with h2 | h2
  · rw [h2]; exact h
  · by_cases e : lo2 = lo
    · exact .inl e
    · right
      cases q : H lo2 with
      | none => rfl
      | some o =>
        have : Wo (Wo H co) lo lo2 = some o := by rw [Wo.other e, Wo.other (Ne.symm C.ne)]; exact q
        rw [f.h _ _ this] at h2
        cases h2
theorem one_run {t : Nat} {c : Clk} (h1 : 1 ≤ t) (h2 : t < 10 ^ 30) : ∀ x ∈ [Cmd.run t], Mv x c := by
  intro x hx
  have : x = Cmd.run t := by simpa using hx
  subst this
  exact ⟨rfl, ⟨h1, h2⟩, rfl⟩
section
variable {P : Program} {w : World} {K : PySem.W.Frag} {mg : Str → Option Value} {base : Heap}
def sp_again (K : PySem.W.Frag) : Sp := fun vs H Q _ => ∃ (B : Hp) (kv : V) (co lo : Addr) (c : Clk) (s : Sg Nat) (q : Nat), Same B H ∧ vs = [kv, .ref co] ∧ CK K B kv c ∧ c.n ≤ 18 ∧ CS K B H co lo c s q ∧ q ≤ 100 ∧ ∀ B' H', Fr B H co lo B' H' → Q (.bl true) H'
theorem c_law_again_right (T : Txt w K mg) : Has P w K mg base "_law_again_right" 20 ["_law_kind_here", "_law_console_here"] (sp_again K) := by
  refine Has.of T.f_law_again_right T.g_law_again_right sc_law_again_right (fun _ _ _ _ _ _ us hl => match us, hl with | [_, _], _ => rfl) (fun vs H Q E h => ?_) (fun f cdv A outer s0 H vs Q E hr h => ?_)
  · obtain ⟨B, kv, co, lo, c, s, q, hB, rfl, _⟩ := h; rfl
  · obtain ⟨B, kv, co, lo, c, s, q, hB, rfl, hck, h18, C, hq, k⟩ := h
    have ok := C.live.ok
    have vs := C.live.vs
    have hp1728 := prod_1728 ok
    have hl3 := ok.l3
    have hvl := vs.len
    refine ⟨_, (pss_cons (ps_par (i := 2) (j := 3) rfl sc_law_again_right.nd rfl rfl (by decide) rfl rfl (pa_cons (pmK (K := K) rfl (c_Console_execute T) hr (pv 1) (pa_cons pe_str pa_nil)) (pa_cons (pmK (K := K) rfl (c_Console_execute T) hr (pv 1) (pa_cons pe_str pa_nil)) pa_nil)) (by rfl))
      (pss_cons (ps_set (i := 4) sc_law_again_right.nd rfl (.inl rfl) (pc (c_parse_sight T) hr (pa_cons (pv 0) (pa_cons (pv 2) pa_nil))))
      (pss_cons (ps_if (pt_cmpR op_ne (pe_join pe_str (pe_lc (own := [("_law_row", 6)]) (g := (gName 6)) rfl sc_law_again_right.nd (piL (K := K) rfl (pe_slice (slL (K := K) rfl) (pv 4) (po_some pe_int) po_none)) (blkOk_by (by kernel_rfl)) (fun _ _ _ _ _ => (pg_name (i := 6) sc_law_again_right.nd rfl (.inl rfl))) (fun _ _ _ _ _ => pts_nil) (fun _ _ _ _ _ => (pe_callTy call_str_int (by rfl) T.b_str (by decide +kernel) (pa_cons (pe_callB (cLen (K := K) rfl) (by rfl) T.b_len (by decide +kernel) (pa_cons (pv 6) pa_nil)) pa_nil))))) (pmK (K := K) rfl (c_Console_execute T) hr (pv 1) (pa_cons pe_str pa_nil)) (nomark _)) (pss_one (ps_ret pe_bl)) pss_nil)
      (pss_cons (ps_if (pt_cmpR (oNotIn (K := K) rfl) (pv 3) (pe_tup (pa_cons pe_str (pa_cons pe_str pa_nil))) rfl) (pss_one (ps_if (pt_cmpR op_ne (pmK (K := K) rfl (c_Console_execute T) hr (pc (c_law_console T) hr (pa_cons (pv 0) (pa_cons (pe_lst (pa_cons (pe_op op_add_str pe_str (pv 3)) pa_nil)) pa_nil))) (pa_cons pe_str pa_nil)) (pv 2) (nomark _)) (pss_one (ps_ret pe_bl)) pss_nil)) (pss_one (ps_if (PW.pt (pw_and (pt_cmpR op_eq (pv 3) pe_str (nomark _)) (pw_and1 (pt_cmpR op_ne (pv 2) (pmK (K := K) rfl (c_Console_execute T) hr (pc (c_law_console T) hr (pa_cons (pv 0) (pa_cons (pe_lst pa_nil) pa_nil))) (pa_cons pe_str pa_nil)) (nomark _))))) (pss_one (ps_ret pe_bl)) pss_nil)))
      (pss_cons (ps_set (i := 5) sc_law_again_right.nd rfl (.inl rfl) (pe_op op_mul (pe_callTy call_int_str (by rfl) T.b_int (by decide +kernel) (pa_cons (pmK (K := K) rfl (c_Console_execute T) hr (pv 1) (pa_cons pe_str pa_nil)) pa_nil)) (pe_callTy call_int_str (by rfl) T.b_int (by decide +kernel) (pa_cons (pmK (K := K) rfl (c_Console_execute T) hr (pv 1) (pa_cons pe_str pa_nil)) pa_nil))))
      (pss_cons (ps_expr (pmK (K := K) rfl (c_Console_execute T) hr (pv 1) (pa_cons (pe_op op_add_str pe_str (pe_callTy call_str_int (by rfl) T.b_str (by decide +kernel) (pa_cons (pv 5) pa_nil))) pa_nil)))
      (pss_one (ps_ret (pe_cmpR op_eq (pmK (K := K) rfl (c_Console_execute T) hr (pv 1) (pa_cons pe_str pa_nil)) (pv 2) (nomark _)))))))))), ?_⟩
    have S0 := St.start hB C
    obtain ⟨lo0, f0, h0, C0⟩ := id S0
    obtain ⟨x0, u0, i0, _⟩ := C0.ex
    refine ⟨_, rfl, co, _, _, rfl, i0, rfl, B, co, lo0, c, s, q, .sight, hB, rfl, C0, by omega, trivial, fun B1 H1 lo1 q1 a1 fr1 hlo1 hq1 C1' ha1 => ?_⟩
    have S1 : St K B H co lo B1 H1 c s q1 := St.step f0 h0 fr1 hlo1 C1'
    have w1 : Same B1 H1 := fr1.w
    have b1 : Same B B1 := fr1.b
    obtain rfl : a1 = sightT s := ha1
    obtain ⟨lo1, f1, h1, C1⟩ := id S1
    obtain ⟨x1, u1, i1, _⟩ := C1.ex
    refine ⟨_, rfl, co, _, _, rfl, i1, rfl, B1, co, lo1, c, s, q1, .when, w1, rfl, C1, by omega, h18, fun B2 H2 lo2 q2 a2 fr2 hlo2 hq2 C2' ha2 => ?_⟩
    have S2 : St K B H co lo B2 H2 c s q2 := St.step f1 h1 fr2 hlo2 C2'
    have w2 : Same B2 H2 := fr2.w
    have b2 : Same B1 B2 := fr2.b
    obtain ⟨o, rfl, ho⟩ := ha2
    refine ⟨_, _, rfl, ?_⟩
    have hb2 : Same B B2 := b1.trans b2
    refine ⟨_, rfl, _, rfl, B2, _, w2, ⟨kv, c, s, rfl, hck.mono hb2, ok, vs, rfl⟩, fun B3 H3 v3 e3 hv3 => ?_⟩
    have S3 := S2.ext e3
    have w3 := e3.w
    obtain ⟨q3, hq3⟩ : ∃ q3, q3 = q2 := ⟨_, rfl⟩
    rw [← hq3] at S3
    obtain ⟨sa, svs, rfl, hsa, hsv⟩ := hv3
    cases hsv with
    | @cons qv0 _ svs _ hqv0 hsv =>
    have hsl : svs.length = s.2.length := Paired.length hsv
    -- counts
    have hgoal : ∀ (B' H' : Hp) (D : Addr) (ys : List V), Same B' H' → B' D = some (.lst ys) → ys.length = s.2.length → (∀ (i : Nat) (y : V), ys[i]? = some y → ∀ x, (cnts s)[i]? = some x → y = .str (dg x)) → ∃ a p, ∃ ws : List Str, V.str sp1 = V.str a ∧ [V.ref D] = [V.ref p] ∧ (SqL K H' p (ws.map V.str) ∨ SqT K H' p (ws.map V.str)) ∧ (ws.map (·.length)).sum + ws.length * a.length ≤ 16777216 ∧ Txt.join a ws = numsT (cnts s) := by
      intro B' H' D ys e' hD hyl hys
      obtain ⟨hc1, hc2⟩ := vs_cnts ok vs
      have ey := ys_str (f := dg) (l := cnts s) (by rw [hyl]; unfold cnts; rw [List.length_map]) hys
      refine ⟨sp1, D, (cnts s).map dg, rfl, rfl, .inl (e'.seq (SqL.of (by rw [hD, ey]))), ?_, TL.join_eq _ _⟩
      refine join_ok _ 30 (fun w hw => ?_) (by rw [List.length_map]; exact hc1) (by decide)
      obtain ⟨n, hm, rfl⟩ := List.mem_map.mp hw
      exact dg_len (by decide) (hc2 n hm)
    refine ⟨⟨_, rfl⟩, _, rfl, 1, rfl, sa, _, rfl, w3.seq hsa, fun d nd => ?_⟩
    have e4 := Ext.new w3 (.lst (cutV (qv0 :: svs) (some 1) none)) nd
    have S4 := S3.ext e4
    rw [cut1, drop1_cons] at e4 S4 ⊢
    refine ⟨d, rfl, ⟨_, SqL.of upd_same⟩, fun D hD => lc_new (walk_list svs) (fun i _ y => ∀ x, (cnts s)[i]? = some x → y = .str (dg x)) e4.w (fun H' e => e.seq (SqL.of upd_same)) (by omega) hD (fun _ _ _ _ _ h => h) ?_ ?_⟩
    · intro i y B3 H3 H3' N hi e3 hy hN
      obtain ⟨rfl, hy⟩ := hy
      obtain ⟨row, hrow, ra, rfl, hra⟩ := pat hsv hy
      have hrl := (vs_cnts ok vs).2 row.length (List.mem_map.mpr ⟨row, List.mem_of_getElem? hrow, rfl⟩)
      refine ⟨rfl, ?_⟩
      refine ⟨_, rfl, ra, _, rfl, .inl (e3.bh.seq (e4.b.seq hra)), _, rfl, ?_, ?_⟩
      · rw [List.length_map]; exact log_small (lt30 hrl) (by decide) (by decide)
      · refine hN _ _ _ (Ext.refl e3.w) fun x hx => ?_
        unfold cnts at hx
        rw [List.getElem?_map, hrow] at hx
        obtain rfl := Option.some.inj hx
        rw [List.length_map]
        rfl
    intro B5 H5 ys e5 hD5 hl5 hys
    have S5 := S4.ext e5
    have w5 := e5.w
    obtain ⟨q5, hq5⟩ : ∃ q5, q5 = q3 := ⟨_, rfl⟩
    rw [← hq5] at S5
    obtain ⟨ja, jp, jws, j1, j2, j3, j4, j5⟩ := hgoal B5 H5 D ys w5 hD5 (by rw [hl5, hsl]) hys
    refine ⟨ja, jp, jws, j1, j2, j3, j4, ?_⟩
    rw [j5]
    obtain ⟨lo5, f5, h5, C5⟩ := id S5
    obtain ⟨x5, u5, i5, _⟩ := C5.ex
    refine ⟨_, rfl, co, _, _, rfl, i5, rfl, B5, co, lo5, c, s, q5, .counts, w5, rfl, C5, by omega, trivial, fun B6 H6 lo6 q6 a6 fr6 hlo6 hq6 C6' ha6 => ?_⟩
    have S6 : St K B H co lo B6 H6 c s q6 := St.step f5 h5 fr6 hlo6 C6'
    have w6 : Same B6 H6 := fr6.w
    have b6 : Same B5 B6 := fr6.b
    obtain rfl : a6 = numsT (cnts s) := ha6
    refine ⟨rfl, _, rfl, iteBF (by simp) ?_⟩
    -- told
    refine ⟨_, rfl, by show 2 ≤ sizeLine; decide, fun p np => ?_⟩
    have e7 := Ext.tmp w6 (.tup [.str "none", .str "0"]) np
    have S7 := S6.ext e7
    have w7 := e7.w
    have hb7 : Same B B6 := ((((hb2.trans e3.b).trans e4.b).trans e5.b).trans b6)
    obtain ⟨q7, hq7⟩ : ∃ q7, q7 = q6 := ⟨_, rfl⟩
    rw [← hq7] at S7
    have hq7b : q7 ≤ 110 := by omega
    refine ⟨p, _, rfl, .inr (SqT.of upd_same), rfl, rfl, _, rfl, ?_⟩
    rw [if_pos rfl]
    generalize hH7 : (upd H6 p (.tup [.str "none", .str "0"])) = H7 at *
    have hnone : ("none" : Str) ≠ "0" := by decide +kernel
    have hdn : ∀ t : Nat, dg t ≠ "none" := fun t e => by
      have : 110 ∉ (dg t).cps.toList := dg_free (.inr (by decide))
      rw [e] at this
      exact this (by decide +kernel)
    have hd0 : ∀ t : Nat, t ≠ 0 → dg t ≠ "0" := fun t ht e => ht (dg_inj (by rw [e, dg_zero]))
    have conR : ∀ (B8 H8 B9 H9 : Hp) (co2 lo2 : Addr), Ext B6 H7 B8 H8 → H7 co2 = none → H7 lo2 = none → Fr B8 H8 co2 lo2 B9 H9 → Ext B6 H7 B9 H9 := fun _ _ _ _ _ _ e h1 h2 f => Fr.fresh e h1 h2 f
    cases o with
    | none =>
      refine iteBF (by decide +kernel) ?_
      refine ⟨_, rfl, rfl, _, rfl, iteBF (decide_eq_false fun e => hnone (V.str.inj e)) ?_⟩
      obtain ⟨B9, hB9⟩ : ∃ B9, B9 = B6 := ⟨_, rfl⟩
      obtain ⟨H9, hH9⟩ : ∃ H9, H9 = H7 := ⟨_, rfl⟩
      obtain ⟨q9, hq9⟩ : ∃ q9, q9 = q7 := ⟨_, rfl⟩
      have S9 : St K B H co lo B9 H9 c s q9 := by rw [hB9, hH9, hq9]; exact S7
      have w9 : Same B9 H9 := by rw [hB9, hH9]; exact w7
      rw [← hH9]
      obtain ⟨lo9, f9, h9, C9⟩ := id S9
      obtain ⟨x9, u9, i9, _⟩ := C9.ex
      refine ⟨_, rfl, co, _, _, rfl, i9, rfl, B9, co, lo9, c, s, q9, .turn, w9, rfl, C9, by omega, trivial, fun B10 H10 lo10 q10 a10 fr10 hlo10 hq10 C10' ha10 => ?_⟩
      have S10 : St K B H co lo B10 H10 c s q10 := St.step f9 h9 fr10 hlo10 C10'
      have w10 : Same B10 H10 := fr10.w
      have b10 : Same B9 B10 := fr10.b
      obtain rfl : a10 = dg (prod c.rs) := ha10
      have hpl : (dg (prod c.rs)).length ≤ 30 := dg_len (by decide) (Nat.lt_of_le_of_lt hp1728 (by decide))
      refine ⟨dg (prod c.rs), _, rfl, dg_int (by omega), by omega, ?_⟩
      obtain ⟨lo10, f10, h10, C10⟩ := id S10
      obtain ⟨x10, u10, i10, _⟩ := C10.ex
      refine ⟨_, rfl, co, _, _, rfl, i10, rfl, B10, co, lo10, c, s, q10, .period, w10, rfl, C10, by omega, h18, fun B11 H11 lo11 q11 a11 fr11 hlo11 hq11 C11' ha11 => ?_⟩
      have S11 : St K B H co lo B11 H11 c s q11 := St.step f10 h10 fr11 hlo11 C11'
      have w11 : Same B11 H11 := fr11.w
      have b11 : Same B10 B11 := fr11.b
      obtain ⟨pp, rfl, hper⟩ := ha11
      have hpp1 := hper.1
      have hpp2 := hper.2.1
      have hppl : (dg pp).length ≤ 30 := dg_len (by decide) (Nat.lt_of_le_of_lt hpp2 (by decide))
      refine ⟨dg pp, _, rfl, dg_int (by omega), by omega, _, _, rfl, rfl, .inl ⟨by omega, by omega⟩, ?_⟩
      have hmul : ((prod c.rs : Nat) : Int) * (pp : Int) = ((prod c.rs * pp : Nat) : Int) := by rw [Int.natCast_mul]
      have hm1 : 1 ≤ prod c.rs * pp := Nat.mul_pos (prod_pos c.rs ok.two) hpp1
      have hm2 : prod c.rs * pp ≤ 1728 * 12252240 := Nat.mul_le_mul hp1728 hpp2
      have hm30 : prod c.rs * pp < 10 ^ 30 := Nat.lt_of_le_of_lt hm2 (by decide)
      have hml : (dg (prod c.rs * pp)).length ≤ 30 := dg_len (by decide) hm30
      obtain ⟨lo11, f11, h11, C11⟩ := id S11
      obtain ⟨x11, u11, i11, _⟩ := C11.ex
      refine ⟨_, rfl, co, _, _, rfl, i11, rfl, _, rfl, _, rfl, by rw [hmul]; exact log_small (lt30 hm30) (by decide) (by decide), _, _, rfl, rfl, ?_, ?_⟩
      · rw [hmul, show ("run " : Str).length = 4 by decide +kernel]
        have : (toString ((prod c.rs * pp : Nat) : Int) : Str).length ≤ 30 := hml
        exact Nat.le_of_lt (small1000 (by omega))
      have htx : ("run " : Str) ++ (toString (((prod c.rs : Nat) : Int) * (pp : Int)) : Str) = (Cmd.run (prod c.rs * pp)).text := by
        rw [hmul, ← text_run]
        rfl
      refine ⟨B11, co, lo11, c, s, q11, .run (prod c.rs * pp), w11, congrArg (fun z : Str => [V.ref co, V.str z]) htx, C11, by omega, ⟨hm1, hm30⟩, fun B12 H12 lo12 q12 a12 fr12 hlo12 hq12 C12' ha12 => ?_⟩
      have hss : Cmd.sg (.run (prod c.rs * pp)) c s = s := period_sight ok vs hper.2.2
      rw [hss] at C12'
      have S12 : St K B H co lo B12 H12 c s q12 := St.step f11 h11 fr12 hlo12 C12'
      have w12 : Same B12 H12 := fr12.w
      obtain ⟨lo12, f12, h12, C12⟩ := id S12
      obtain ⟨x12, u12, i12, _⟩ := C12.ex
      refine ⟨_, rfl, co, _, _, rfl, i12, rfl, B12, co, lo12, c, s, q12, .sight, w12, rfl, C12, by omega, trivial, fun B13 H13 lo13 q13 a13 fr13 hlo13 hq13 C13' ha13 => ?_⟩
      have S13 : St K B H co lo B13 H13 c s q13 := St.step f12 h12 fr13 hlo13 C13'
      have w13 : Same B13 H13 := fr13.w
      have b13 : Same B12 B13 := fr13.b
      obtain rfl : a13 = sightT s := ha13
      refine ⟨_, rfl, rfl, ?_⟩
      obtain ⟨lo13, f13, h13, C13⟩ := S13
      have hfin := k B13 H13 f13
      simpa using hfin
    | some t =>
      obtain ⟨hts, htl⟩ := ho t rfl
      by_cases ht0 : t = 0
      · subst ht0
        have hnot : (!inV (.str (optT (some 0))) [.str "none", .str "0"]) = false := by
          show (!inV (.str (dg 0)) [.str "none", .str "0"]) = false
          rw [dg_zero]
          decide +kernel
        refine iteBF hnot ?_
        refine ⟨_, rfl, rfl, _, rfl, iteB (decide_eq_true (by show V.str (dg 0) = _; rw [dg_zero])) ?_⟩
        refine ⟨_, rfl, _, rfl, by show 0 ≤ sizeLine; decide, fun z nz => ?_⟩
        have e8 := Ext.new w7 (.lst ([])) nz
        refine ⟨_, kv, z, c, [], e8.w, rfl, hck.mono (hb7.trans e8.b), ok, upd_same, fun x h => (by cases h), by simp, fun B8 H8 co2 lo2 qq e8' hco hlo C2 hqq => ?_⟩
        obtain ⟨x2, u2, i2, _⟩ := C2.ex
        refine ⟨co2, _, _, rfl, i2, rfl, B8, co2, lo2, c, _, qq, .sight, e8'.w, rfl, C2, by omega, trivial, fun B9 H9 lo9' q9' a9 fr9 hlo9 hq9' C9' ha9 => ?_⟩
        obtain rfl : a9 = sightT s := ha9.trans (congrArg sightT hts)
        have E9 := e8.trans (Fr.fresh e8' hco hlo fr9)
        obtain ⟨q9, hq9⟩ : ∃ q9, q9 = q7 := ⟨_, rfl⟩
        have S9 : St K B H co lo B9 H9 c s q9 := by rw [hq9]; exact S7.ext E9
        have w9 : Same B9 H9 := E9.w
        refine ⟨rfl, _, rfl, iteBF (by simp) ?_⟩
        obtain ⟨lo9, f9, h9, C9⟩ := id S9
        obtain ⟨x9, u9, i9, _⟩ := C9.ex
        refine ⟨_, rfl, co, _, _, rfl, i9, rfl, B9, co, lo9, c, s, q9, .turn, w9, rfl, C9, by omega, trivial, fun B10 H10 lo10 q10 a10 fr10 hlo10 hq10 C10' ha10 => ?_⟩
        have S10 : St K B H co lo B10 H10 c s q10 := St.step f9 h9 fr10 hlo10 C10'
        have w10 : Same B10 H10 := fr10.w
        have b10 : Same B9 B10 := fr10.b
        obtain rfl : a10 = dg (prod c.rs) := ha10
        have hpl : (dg (prod c.rs)).length ≤ 30 := dg_len (by decide) (Nat.lt_of_le_of_lt hp1728 (by decide))
        refine ⟨dg (prod c.rs), _, rfl, dg_int (by omega), by omega, ?_⟩
        obtain ⟨lo10, f10, h10, C10⟩ := id S10
        obtain ⟨x10, u10, i10, _⟩ := C10.ex
        refine ⟨_, rfl, co, _, _, rfl, i10, rfl, B10, co, lo10, c, s, q10, .period, w10, rfl, C10, by omega, h18, fun B11 H11 lo11 q11 a11 fr11 hlo11 hq11 C11' ha11 => ?_⟩
        have S11 : St K B H co lo B11 H11 c s q11 := St.step f10 h10 fr11 hlo11 C11'
        have w11 : Same B11 H11 := fr11.w
        have b11 : Same B10 B11 := fr11.b
        obtain ⟨pp, rfl, hper⟩ := ha11
        have hpp1 := hper.1
        have hpp2 := hper.2.1
        have hppl : (dg pp).length ≤ 30 := dg_len (by decide) (Nat.lt_of_le_of_lt hpp2 (by decide))
        refine ⟨dg pp, _, rfl, dg_int (by omega), by omega, _, _, rfl, rfl, .inl ⟨by omega, by omega⟩, ?_⟩
        have hmul : ((prod c.rs : Nat) : Int) * (pp : Int) = ((prod c.rs * pp : Nat) : Int) := by rw [Int.natCast_mul]
        have hm1 : 1 ≤ prod c.rs * pp := Nat.mul_pos (prod_pos c.rs ok.two) hpp1
        have hm2 : prod c.rs * pp ≤ 1728 * 12252240 := Nat.mul_le_mul hp1728 hpp2
        have hm30 : prod c.rs * pp < 10 ^ 30 := Nat.lt_of_le_of_lt hm2 (by decide)
        have hml : (dg (prod c.rs * pp)).length ≤ 30 := dg_len (by decide) hm30
        obtain ⟨lo11, f11, h11, C11⟩ := id S11
        obtain ⟨x11, u11, i11, _⟩ := C11.ex
        refine ⟨_, rfl, co, _, _, rfl, i11, rfl, _, rfl, _, rfl, by rw [hmul]; exact log_small (lt30 hm30) (by decide) (by decide), _, _, rfl, rfl, ?_, ?_⟩
        · rw [hmul, show ("run " : Str).length = 4 by decide +kernel]
          have : (toString ((prod c.rs * pp : Nat) : Int) : Str).length ≤ 30 := hml
          exact Nat.le_of_lt (small1000 (by omega))
        have htx : ("run " : Str) ++ (toString (((prod c.rs : Nat) : Int) * (pp : Int)) : Str) = (Cmd.run (prod c.rs * pp)).text := by
          rw [hmul, ← text_run]
          rfl
        refine ⟨B11, co, lo11, c, s, q11, .run (prod c.rs * pp), w11, congrArg (fun z : Str => [V.ref co, V.str z]) htx, C11, by omega, ⟨hm1, hm30⟩, fun B12 H12 lo12 q12 a12 fr12 hlo12 hq12 C12' ha12 => ?_⟩
        have hss : Cmd.sg (.run (prod c.rs * pp)) c s = s := period_sight ok vs hper.2.2
        rw [hss] at C12'
        have S12 : St K B H co lo B12 H12 c s q12 := St.step f11 h11 fr12 hlo12 C12'
        have w12 : Same B12 H12 := fr12.w
        obtain ⟨lo12, f12, h12, C12⟩ := id S12
        obtain ⟨x12, u12, i12, _⟩ := C12.ex
        refine ⟨_, rfl, co, _, _, rfl, i12, rfl, B12, co, lo12, c, s, q12, .sight, w12, rfl, C12, by omega, trivial, fun B13 H13 lo13 q13 a13 fr13 hlo13 hq13 C13' ha13 => ?_⟩
        have S13 : St K B H co lo B13 H13 c s q13 := St.step f12 h12 fr13 hlo13 C13'
        have w13 : Same B13 H13 := fr13.w
        have b13 : Same B12 B13 := fr13.b
        obtain rfl : a13 = sightT s := ha13
        refine ⟨_, rfl, rfl, ?_⟩
        obtain ⟨lo13, f13, h13, C13⟩ := S13
        have hfin := k B13 H13 f13
        simpa using hfin
      · have hnot : (!inV (.str (optT (some t))) [.str "none", .str "0"]) = true := by
          show (!(eqV (.str "none") (.str (dg t)) || (eqV (.str "0") (.str (dg t)) || false))) = true
          have h1 : eqV (.str "none") (.str (dg t)) = false := by
            show (("none" : Str) == dg t) = false
            exact beq_eq_false_iff_ne.mpr (Ne.symm (hdn t))
          have h2 : eqV (.str "0") (.str (dg t)) = false := by
            show (("0" : Str) == dg t) = false
            exact beq_eq_false_iff_ne.mpr (Ne.symm (hd0 t ht0))
          rw [h1, h2]
          rfl
        refine iteB hnot ?_
        have ht30 : t < 10 ^ 30 := Nat.lt_of_le_of_lt htl (by decide)
        have htl2 : (dg t).length ≤ 30 := dg_len (by decide) ht30
        refine ⟨_, rfl, _, rfl, _, _, rfl, rfl, ?_, by show 1 ≤ sizeLine; decide, fun z nz => ?_⟩
        · show ("run " : Str).length + (dg t).length ≤ _
          rw [show ("run " : Str).length = 4 by decide +kernel]
          exact Nat.le_of_lt (small1000 (by omega))
        rw [show ("run " : Str) ++ optT (some t) = (Cmd.run t).text from text_run t]
        have e8 := Ext.new w7 (.lst ([Cmd.run t].map fun x : Cmd => V.str x.text)) nz
        refine ⟨_, kv, z, c, [.run t], e8.w, rfl, hck.mono (hb7.trans e8.b), ok, upd_same, one_run (by omega) ht30, by simp, fun B8 H8 co2 lo2 qq e8' hco hlo C2 hqq => ?_⟩
        obtain ⟨x2, u2, i2, _⟩ := C2.ex
        refine ⟨co2, _, _, rfl, i2, rfl, B8, co2, lo2, c, _, qq, .sight, e8'.w, rfl, C2, by omega, trivial, fun B9 H9 lo9' q9' a9 fr9 hlo9 hq9' C9' ha9 => ?_⟩
        obtain rfl : a9 = sightT s := ha9.trans (congrArg sightT hts)
        have E9 := e8.trans (Fr.fresh e8' hco hlo fr9)
        obtain ⟨q9, hq9⟩ : ∃ q9, q9 = q7 := ⟨_, rfl⟩
        have S9 : St K B H co lo B9 H9 c s q9 := by rw [hq9]; exact S7.ext E9
        have w9 : Same B9 H9 := E9.w
        refine ⟨_, rfl, rfl, _, rfl, iteBF (by simp) ?_⟩
        obtain ⟨lo9, f9, h9, C9⟩ := id S9
        obtain ⟨x9, u9, i9, _⟩ := C9.ex
        refine ⟨_, rfl, co, _, _, rfl, i9, rfl, B9, co, lo9, c, s, q9, .turn, w9, rfl, C9, by omega, trivial, fun B10 H10 lo10 q10 a10 fr10 hlo10 hq10 C10' ha10 => ?_⟩
        have S10 : St K B H co lo B10 H10 c s q10 := St.step f9 h9 fr10 hlo10 C10'
        have w10 : Same B10 H10 := fr10.w
        have b10 : Same B9 B10 := fr10.b
        obtain rfl : a10 = dg (prod c.rs) := ha10
        have hpl : (dg (prod c.rs)).length ≤ 30 := dg_len (by decide) (Nat.lt_of_le_of_lt hp1728 (by decide))
        refine ⟨dg (prod c.rs), _, rfl, dg_int (by omega), by omega, ?_⟩
        obtain ⟨lo10, f10, h10, C10⟩ := id S10
        obtain ⟨x10, u10, i10, _⟩ := C10.ex
        refine ⟨_, rfl, co, _, _, rfl, i10, rfl, B10, co, lo10, c, s, q10, .period, w10, rfl, C10, by omega, h18, fun B11 H11 lo11 q11 a11 fr11 hlo11 hq11 C11' ha11 => ?_⟩
        have S11 : St K B H co lo B11 H11 c s q11 := St.step f10 h10 fr11 hlo11 C11'
        have w11 : Same B11 H11 := fr11.w
        have b11 : Same B10 B11 := fr11.b
        obtain ⟨pp, rfl, hper⟩ := ha11
        have hpp1 := hper.1
        have hpp2 := hper.2.1
        have hppl : (dg pp).length ≤ 30 := dg_len (by decide) (Nat.lt_of_le_of_lt hpp2 (by decide))
        refine ⟨dg pp, _, rfl, dg_int (by omega), by omega, _, _, rfl, rfl, .inl ⟨by omega, by omega⟩, ?_⟩
        have hmul : ((prod c.rs : Nat) : Int) * (pp : Int) = ((prod c.rs * pp : Nat) : Int) := by rw [Int.natCast_mul]
        have hm1 : 1 ≤ prod c.rs * pp := Nat.mul_pos (prod_pos c.rs ok.two) hpp1
        have hm2 : prod c.rs * pp ≤ 1728 * 12252240 := Nat.mul_le_mul hp1728 hpp2
        have hm30 : prod c.rs * pp < 10 ^ 30 := Nat.lt_of_le_of_lt hm2 (by decide)
        have hml : (dg (prod c.rs * pp)).length ≤ 30 := dg_len (by decide) hm30
        obtain ⟨lo11, f11, h11, C11⟩ := id S11
        obtain ⟨x11, u11, i11, _⟩ := C11.ex
        refine ⟨_, rfl, co, _, _, rfl, i11, rfl, _, rfl, _, rfl, by rw [hmul]; exact log_small (lt30 hm30) (by decide) (by decide), _, _, rfl, rfl, ?_, ?_⟩
        · rw [hmul, show ("run " : Str).length = 4 by decide +kernel]
          have : (toString ((prod c.rs * pp : Nat) : Int) : Str).length ≤ 30 := hml
          exact Nat.le_of_lt (small1000 (by omega))
        have htx : ("run " : Str) ++ (toString (((prod c.rs : Nat) : Int) * (pp : Int)) : Str) = (Cmd.run (prod c.rs * pp)).text := by
          rw [hmul, ← text_run]
          rfl
        refine ⟨B11, co, lo11, c, s, q11, .run (prod c.rs * pp), w11, congrArg (fun z : Str => [V.ref co, V.str z]) htx, C11, by omega, ⟨hm1, hm30⟩, fun B12 H12 lo12 q12 a12 fr12 hlo12 hq12 C12' ha12 => ?_⟩
        have hss : Cmd.sg (.run (prod c.rs * pp)) c s = s := period_sight ok vs hper.2.2
        rw [hss] at C12'
        have S12 : St K B H co lo B12 H12 c s q12 := St.step f11 h11 fr12 hlo12 C12'
        have w12 : Same B12 H12 := fr12.w
        obtain ⟨lo12, f12, h12, C12⟩ := id S12
        obtain ⟨x12, u12, i12, _⟩ := C12.ex
        refine ⟨_, rfl, co, _, _, rfl, i12, rfl, B12, co, lo12, c, s, q12, .sight, w12, rfl, C12, by omega, trivial, fun B13 H13 lo13 q13 a13 fr13 hlo13 hq13 C13' ha13 => ?_⟩
        have S13 : St K B H co lo B13 H13 c s q13 := St.step f12 h12 fr13 hlo13 C13'
        have w13 : Same B13 H13 := fr13.w
        have b13 : Same B12 B13 := fr13.b
        obtain rfl : a13 = sightT s := ha13
        refine ⟨_, rfl, rfl, ?_⟩
        obtain ⟨lo13, f13, h13, C13⟩ := S13
        have hfin := k B13 H13 f13
        simpa using hfin
end
end BH
end
section
set_option Elab.async false
set_option linter.all false
set_option maxRecDepth 100000
set_option maxHeartbeats 4000000
namespace BM
theorem spot_uniq {c : Clk} {s : Sg Nat} (vs : VS c s) {b r p r' p' : Nat} (h : SpotO s b r p) (h' : SpotO s b r' p') : r = r' ∧ p = p' := by
  unfold SpotO at h h'
  obtain ⟨row, h1, h2⟩ := Option.bind_eq_some_iff.mp h
  obtain ⟨row', h1', h2'⟩ := Option.bind_eq_some_iff.mp h'
  have nd : (rowsO s).flatten.Nodup := vs.perm.nodup_iff.mpr List.nodup_range
  have hp := (List.getElem?_eq_some_iff.mp h2).1
  have hp' := (List.getElem?_eq_some_iff.mp h2').1
  refine flat_uniq nd h1 h1' hp hp' ?_
  rw [List.getD_eq_getElem?_getD, List.getD_eq_getElem?_getD, h2, h2']
theorem stepN_per {c : Clk} (hc : c.Ok) {s : Sg Nat} (vs : VS c s) {p : Nat} (h : ∀ x, x < c.n → itN (trow c) p x = x) : ∀ k, stepN c.rs (k * (prod c.rs * p)) s = s
  | 0 => by rw [Nat.zero_mul]; rfl
  | k + 1 => by rw [Nat.succ_mul, stepN_add, stepN_per hc vs h k, period_sight hc vs h]
end BM
namespace BH
open PySem PySem.Spec PyProof.Rows L2 BM
theorem STK.fr {B H B1 H1 : Hp} {sa co lo : Addr} {n : Nat} (l : STK B H sa n) (n1 : sa ≠ co) (n2 : sa ≠ lo) (e : Fr B H co lo B1 H1) : STK B1 H1 sa n := by
  obtain ⟨hb, d, m, k, h1, h2⟩ := l
  have h1' : Wo (Wo H co) lo sa = some (.lst [.int d, .int m, .int k]) := by rw [Wo.other n2, Wo.other n1]; exact h1
  exact ⟨by rw [e.n sa (by rw [h1']; exact fun z => nomatch z)]; exact hb, d, m, k, e.h _ _ h1', h2⟩
/-- a stock and a fresh console -/
structure SS (K : PySem.W.Frag) (B H0 : Hp) (sa co lo : Addr) (Bi Hi : Hp) (c : Clk) (s : Sg Nat) (q n : Nat) : Prop where
  e : Ext B H0 Bi Hi
  S : STK Bi Hi sa n
  C : CS K Bi Hi co lo c s q
  hco : H0 co = none
  hlo : H0 lo = none
  nco : sa ≠ co
  nlo : sa ≠ lo
theorem SS.ext {K : PySem.W.Frag} {B H0 : Hp} {sa co lo : Addr} {Bi Hi B2 H2 : Hp} {c : Clk} {s : Sg Nat} {q n : Nat} (x : SS K B H0 sa co lo Bi Hi c s q n) (e : Ext Bi Hi B2 H2) : SS K B H0 sa co lo B2 H2 c s q n :=
  ⟨x.e.trans e, x.S.ext e, x.C.ext e, x.hco, x.hlo, x.nco, x.nlo⟩
theorem SS.step {K : PySem.W.Frag} {B H0 : Hp} {sa co lo lo2 : Addr} {Bi Hi B2 H2 : Hp} {c c' : Clk} {s s' : Sg Nat} {q q' n : Nat} (x : SS K B H0 sa co lo Bi Hi c s q n) (f : Fr Bi Hi co lo B2 H2) (h : lo2 = lo ∨ Hi lo2 = none) (C : CS K B2 H2 co lo2 c' s' q') : SS K B H0 sa co lo2 B2 H2 c' s' q' n := by
  refine ⟨Fr.fresh x.e x.hco x.hlo f, x.S.fr x.nco x.nlo f, C, x.hco, ?_, x.nco, ?_⟩
  · rcases h with h | h
    · rw [h]; exact x.hlo
    · exact x.e.h.free h
  · rcases h with h | h
    · rw [h]; exact x.nlo
    · exact Ne.symm (x.S.ne h)
theorem SS.draw {K : PySem.W.Frag} {B H0 : Hp} {sa co lo : Addr} {Bi Hi B2 H2 : Hp} {c : Clk} {s : Sg Nat} {q n n' : Nat} (x : SS K B H0 sa co lo Bi Hi c s q n) (h0 : H0 sa = none) (e : Ext Bi (Wo Hi sa) B2 H2) (S : STK B2 H2 sa n') : SS K B H0 sa co lo B2 H2 c s q n' :=
  ⟨Ext.transW h0 x.e e, S, x.C.wo (Ne.symm x.nco) (Ne.symm x.nlo) e, x.hco, x.hlo, x.nco, x.nlo⟩
theorem text_spot (b t : Nat) : ("spot " : Str) ++ dg b ++ (" " : Str) ++ dg t = (Cmd.spot b t).text := by
  show _ = ("spot" : Str) ++ sp1 ++ (dg b ++ sp1 ++ dg t)
  apply str_ext
  rw [show ("spot " : Str) = ("spot" : Str) ++ sp1 by decide +kernel]
  simp only [cps_app, List.append_assoc]
  rfl
theorem nums2 (r p : Nat) : numsT [r, p] = dg r ++ (" " : Str) ++ dg p := rfl
theorem text_look (l : Look) : ("look " : Str) ++ dg l.w ++ (" " : Str) ++ dg l.b ++ (" " : Str) ++ numsT [l.r, l.p] = (Cmd.look l).text := by
  show _ = ("look" : Str) ++ sp1 ++ (dg l.w ++ sp1 ++ (dg l.b ++ sp1 ++ (dg l.r ++ sp1 ++ dg l.p)))
  rw [nums2]
  apply str_ext
  rw [show ("look " : Str) = ("look" : Str) ++ sp1 by decide +kernel]
  simp only [cps_app, List.append_assoc]
  rfl
theorem nums_inj {r p r' p' : Nat} (h : numsT [r, p] = numsT [r', p']) : r = r' ∧ p = p' := by
  have h1 := join_inj (l := [r, p].map dg) (m := [r', p'].map dg) (by simp) (by simp) (fun w hw => by obtain ⟨n, _, rfl⟩ := List.mem_map.mp hw; exact free_dg n) (fun w hw => by obtain ⟨n, _, rfl⟩ := List.mem_map.mp hw; exact free_dg n) h
  simp only [List.map_cons, List.map_nil, List.cons.injEq] at h1
  exact ⟨dg_inj h1.1, dg_inj h1.2.1⟩
theorem cut_to (xs : List V) (a : Nat) : cutV xs none (some (a : Int)) = xs.take a := by
  unfold cutV
  rw [HT.sIx_none, HT.sIx_nat, List.drop_zero, Nat.sub_zero]
  by_cases h : a ≤ xs.length
  · rw [Nat.min_eq_left h]
  · rw [Nat.min_eq_right (by omega), List.take_of_length_le (Nat.le_refl _), List.take_of_length_le (by omega)]
section
variable {P : Program} {w : World} {K : PySem.W.Frag} {mg : Str → Option Value} {base : Heap}
def sp_spots_right (K : PySem.W.Frag) : Sp := fun vs H Q _ => ∃ (B : Hp) (sa : Addr) (n : Nat) (kv : V) (c : Clk), Same B H ∧ vs = [.ref sa, kv] ∧ STK B H sa n ∧ n ≤ 100000 ∧ CK K B kv c ∧ c.Ok ∧ ∀ B' H' n', Ext B (Wo H sa) B' H' → STK B' H' sa n' → n' ≤ n + 10 → Q (.bl true) H'
theorem c_law_spots_right (T : Txt w K mg) : Has P w K mg base "_law_spots_right" 20 ["_law_stock_here", "_law_kind_here"] (sp_spots_right K) := by
  refine Has.of T.f_law_spots_right T.g_law_spots_right sc_law_spots_right (fun _ _ _ _ _ _ us hl => match us, hl with | [_, _], _ => rfl) (fun vs H Q E h => ?_) (fun f cdv A outer s0 H vs Q E hr h => ?_)
  · obtain ⟨B, sa, n, kv, c, hB, rfl, _⟩ := h; rfl
  · obtain ⟨B, sa, n, kv, c, hB, rfl, S, hn, hck, ok, k⟩ := h
    obtain ⟨ka, krv, rfl, hka, hkrv⟩ := id hck
    have hn2 := ok.n2
    have hn100 := ok.n100
    have hl3 := ok.l3
    have hp1728 := prod_1728 ok
    have e0 : Ext B (Wo H sa) B H := ⟨Same.refl _, hB, Wo.same (Same.refl _), fun _ _ => rfl⟩
    have hlg : ∀ x : Nat, x < 10 ^ 30 → ((x : Int)).natAbs.log2 < 1920 := fun x hx => log_small (lt30 hx) (by decide) (by decide)
    refine ⟨_, (pss_cons (ps_set (i := 2) sc_law_spots_right.nd rfl (.inl rfl) (pe_op op_add pe_int (pc (c_law_draw T) hr (pa_cons (pv 0) (pa_cons (pe_ix (xL (K := K) rfl) (pe_lst (pa_cons pe_int (pa_cons pe_int (pa_cons (pe_op op_pow pe_int pe_int) pa_nil)))) (pc (c_law_draw T) hr (pa_cons (pv 0) (pa_cons pe_int pa_nil))) (fun _ _ => rfl)) pa_nil)))))
      (pss_cons (ps_set (i := 3) sc_law_spots_right.nd rfl (.inl rfl) (pc (c_law_console T) hr (pa_cons (pv 1) (pa_cons (pe_lst (pa_cons (pe_op op_add_str pe_str (pe_callTy call_str_int (by rfl) T.b_str (by decide +kernel) (pa_cons (pv 2) pa_nil))) pa_nil)) pa_nil))))
      (pss_cons (ps_for PassesOwn.never rfl (pi_enum rfl T.b_enumerate (pa_cons (pc (c_parse_sight T) hr (pa_cons (pv 1) (pa_cons (pmK (K := K) rfl (c_Console_execute T) hr (pv 3) (pa_cons pe_str pa_nil)) pa_nil))) pa_nil)) (pg_tup rfl (pgs_cons (pg_name (i := 4) sc_law_spots_right.nd rfl (.inl rfl)) (pgs_cons (pg_name (i := 5) sc_law_spots_right.nd rfl (.inl rfl)) pgs_nil)))
      (pss_one (ps_for PassesOwn.never rfl (pi_enum rfl T.b_enumerate (pa_cons (pe_slice (slL (K := K) rfl) (pv 5) po_none (po_some pe_int)) pa_nil)) (pg_tup rfl (pgs_cons (pg_name (i := 6) sc_law_spots_right.nd rfl (.inl rfl)) (pgs_cons (pg_name (i := 7) sc_law_spots_right.nd rfl (.inl rfl)) pgs_nil)))
      (pss_cons (ps_set (i := 8) sc_law_spots_right.nd rfl (.inl rfl) (pe_op op_add_str (pe_op op_add_str (pe_callTy call_str_int (by rfl) T.b_str (by decide +kernel) (pa_cons (pv 4) pa_nil)) pe_str) (pe_callTy call_str_int (by rfl) T.b_str (by decide +kernel) (pa_cons (pv 6) pa_nil))))
      (pss_one (ps_if (pt_cmpR op_ne (pmK (K := K) rfl (c_Console_execute T) hr (pv 3) (pa_cons (pe_op op_add_str (pe_op op_add_str (pe_op op_add_str pe_str (pe_callTy call_str_int (by rfl) T.b_str (by decide +kernel) (pa_cons (pv 7) pa_nil))) pe_str) (pe_callTy call_str_int (by rfl) T.b_str (by decide +kernel) (pa_cons (pv 2) pa_nil))) pa_nil)) (pv 8) (nomark _)) (pss_one (ps_ret pe_bl)) pss_nil))))))
      (pss_cons (ps_set (i := 7) sc_law_spots_right.nd rfl (.inl rfl) (pe_callTy call_str_int (by rfl) T.b_str (by decide +kernel) (pa_cons (pc (c_law_draw T) hr (pa_cons (pv 0) (pa_cons (pe_ix (xT (K := K) rfl) (pv 1) pe_int (fun _ _ => rfl)) pa_nil))) pa_nil)))
      (pss_cons (ps_par (i := 9) (j := 10) rfl sc_law_spots_right.nd rfl rfl (by decide) rfl rfl (pa_cons (pe_op op_add_str (pe_op op_add_str pe_str (pv 7)) pe_str) (pa_cons (pc (c_law_draw T) hr (pa_cons (pv 0) (pa_cons pe_int pa_nil))) pa_nil)) (by rfl))
      (pss_cons (ps_set (i := 8) sc_law_spots_right.nd rfl (.inl rfl) (pmK (K := K) rfl (c_Console_execute T) hr (pv 3) (pa_cons (pe_op op_add_str (pv 9) (pe_callTy call_str_int (by rfl) T.b_str (by decide +kernel) (pa_cons (pv 2) pa_nil))) pa_nil)))
      (pss_cons (ps_set (i := 11) sc_law_spots_right.nd rfl (.inl rfl) (pmK (K := K) rfl (c_Console_execute T) hr (pv 3) (pa_cons (pe_op op_add_str (pe_op op_add_str (pe_op op_add_str (pe_op op_add_str (pe_op op_add_str pe_str (pe_callTy call_str_int (by rfl) T.b_str (by decide +kernel) (pa_cons (pv 10) pa_nil))) pe_str) (pv 7)) pe_str) (pv 8)) pa_nil)))
      (pss_cons (ps_if (PW.pt (pw_or (pt_cmpR op_eq (pv 11) pe_str (nomark _)) (pw_or1 (pt_cmpR op_ne (pmK (K := K) rfl (c_Console_execute T) hr (pv 3) (pa_cons (pe_op op_add_str (pv 9) (pe_callTy call_str_int (by rfl) T.b_str (by decide +kernel) (pa_cons (pe_op op_add (pe_callTy call_int_str (by rfl) T.b_int (by decide +kernel) (pa_cons (pv 11) pa_nil)) (pv 10)) pa_nil))) pa_nil)) (pv 8) (nomark _))))) (pss_one (ps_ret pe_bl)) pss_nil)
      (pss_cons (ps_for PassesOwn.never rfl (pi_range2 rfl T.b_range (pa_cons (pe_callB (call_max2 rfl) (by rfl) T.b_max (by decide +kernel) (pa_cons pe_int (pa_cons (pe_op op_sub (pe_callTy call_int_str (by rfl) T.b_int (by decide +kernel) (pa_cons (pv 11) pa_nil)) pe_int) pa_nil))) (pa_cons (pe_callTy call_int_str (by rfl) T.b_int (by decide +kernel) (pa_cons (pv 11) pa_nil)) pa_nil))) (pg_name (i := 12) sc_law_spots_right.nd rfl (.inl rfl))
      (pss_one (ps_if (pt_cmpR op_eq (pmK (K := K) rfl (c_Console_execute T) hr (pv 3) (pa_cons (pe_op op_add_str (pv 9) (pe_callTy call_str_int (by rfl) T.b_str (by decide +kernel) (pa_cons (pe_op op_add (pv 12) (pv 10)) pa_nil))) pa_nil)) (pv 8) (nomark _)) (pss_one (ps_ret pe_bl)) pss_nil)))
      (pss_one (ps_ret (pe_or (pe_cmpR op_le (pe_callTy call_int_str (by rfl) T.b_int (by decide +kernel) (pa_cons (pv 11) pa_nil)) (pe_callB (call_max2 rfl) (by rfl) T.b_max (by decide +kernel) (pa_cons pe_int (pa_cons (pe_op op_sub (pv 2) (pv 10)) pa_nil))) (nomark _)) (pe_one (pe_cmpR op_lt (pv 2) (pv 10) (nomark _))))))))))))))), ?_⟩
    -- many
    refine ⟨_, rfl, _, _, rfl, rfl, ⟨by decide, by decide, by decide⟩, by show 3 ≤ sizeLine; decide, fun q nq => ?_⟩
    have hq29 : ([V.int 9, V.int 300, V.int ((10 : Int) ^ (29 : Int).toNat)]) = [9, 300, 10 ^ 29].map fun n : Nat => V.int (n : Int) := by decide +kernel
    have e1 := Ext.new hB (.lst [V.int 9, V.int 300, V.int ((10 : Int) ^ (29 : Int).toNat)]) nq
    have E1 := e0.trans e1
    have S1 := S.ext e1
    refine ⟨_, rfl, _, sa, n, 3, e1.w, rfl, S1, by omega, by decide, by decide, fun B2 H2 r2 e2 S2 hr2 => ?_⟩
    have E2 := Ext.transW Wo.at E1 e2
    have hz := pick3 (a := 9) (b := 300) (c := 10 ^ 29) (m := 10 ^ 29) (by decide) (by decide) (Nat.le_refl _) hr2
    have hz1 := pick3g (a := 9) (b := 300) (c := 10 ^ 29) (m := 1) (by decide) (by decide) (by decide) hr2
    have hat := map_getD [9, 300, 10 ^ 29] (show r2 < [9, 300, 10 ^ 29].length from hr2)
    rw [← hq29] at hat
    generalize [9, 300, 10 ^ 29].getD r2 0 = wz at hz hz1 hat
    refine ⟨q, _, _, _, rfl, rfl, SqL.of (e2.w _ _ (e2.b _ _ upd_same)), atI_nat hat, B2, sa, n + 1, wz, e2.w, rfl, S2, by omega, hz1, hz, fun B3 H3 r3 e3 S3 hr3 => ?_⟩
    have E3 := Ext.transW Wo.at E2 e3
    refine ⟨_, _, rfl, rfl, ?_⟩
    have hm30 : 1 + r3 < 10 ^ 30 := Nat.lt_of_le_of_lt (show 1 + r3 ≤ 10 ^ 29 by omega) (by decide)
    have hm29 : 1 + r3 ≤ 10 ^ 29 := by omega
    have hcast : (1 : Int) + (r3 : Int) = ((1 + r3 : Nat) : Int) := by omega
    have hm0 : 1 ≤ 1 + r3 := by omega
    generalize 1 + r3 = mm at hm30 hcast hm29 hm0
    have hdm : (dg mm).length ≤ 30 := dg_len (by decide) hm30
    -- the console
    refine ⟨_, rfl, _, rfl, _, rfl, by rw [hcast]; exact hlg _ hm30, _, _, rfl, rfl, ?_, by show 1 ≤ sizeLine; decide, fun z nz => ?_⟩
    · rw [hcast, show ("run " : Str).length = 4 by decide +kernel]
      have : (toString (mm : Int) : Str).length ≤ 30 := hdm
      exact Nat.le_of_lt (small1000 (by omega))
    have htx : V.str (("run " : Str) ++ (toString ((1 : Int) + (r3 : Int)) : Str)) = V.str (Cmd.run mm).text := by
      rw [hcast, ← text_run]
      rfl
    have e4 := Ext.new e3.w (.lst [V.str (("run " : Str) ++ (toString ((1 : Int) + (r3 : Int)) : Str))]) nz
    have E4 := E3.trans e4
    have S4 := S3.ext e4
    refine ⟨_, .ref ka, z, c, [Cmd.run mm], e4.w, rfl, hck.mono E4.b, ok, by rw [upd_same, htx]; rfl, one_run hm0 hm30, by simp, fun B5 H5 co lo q5 e5 hco hlo C5 hq5 => ?_⟩
    have X5 : SS K B (Wo H sa) sa co lo B5 H5 c (stepN c.rs mm (first c)) q5 (n + 1 + 1) := ⟨E4.trans e5, S4.ext e5, C5, E4.h.free hco, E4.h.free hlo, Ne.symm (S4.ne hco), Ne.symm (S4.ne hlo)⟩
    have hvs := stepN_vs ok mm (first_vs ok)
    generalize hss : stepN c.rs mm (first c) = ss at X5 hvs
    obtain ⟨x5, u5, i5, _⟩ := C5.ex
    have hrb := rows_bounds ok hvs
    have hvl := hvs.len
    rw [show after c [Cmd.run mm] (first c) = ss from hss] at C5
    refine ⟨_, rfl, _, rfl, co, _, _, rfl, i5, rfl, B5, co, lo, c, ss, q5, .sight, e5.w, rfl, C5, by omega, trivial, fun B6 H6 lo6 q6 a6 fr6 hlo6 hq6 C6 ha6 => ?_⟩
    obtain rfl : a6 = sightT ss := ha6
    have X6 : SS K B (Wo H sa) sa co lo6 B6 H6 c ss q6 (n + 1 + 1) := X5.step fr6 hlo6 C6
    have hbk6 : Same B B6 := X6.e.b
    refine ⟨B6, _, fr6.w, ⟨.ref ka, c, ss, rfl, hck.mono hbk6, ok, hvs, rfl⟩, fun B7 H7 v7 e7 hv7 => ?_⟩
    have X7 := X6.ext e7
    obtain ⟨va, svs, rfl, hva, hsv⟩ := hv7
    have hsl : svs.length = ss.2.length + 1 := Paired.length hsv
    refine ⟨va, svs, rfl, e7.w.seq hva, for_it (walk_enum0 svs) (fun i σ' H' => ∃ (Bi : Hp) (loi : Addr) (q : Nat) (v4 v5 v6 v7 v8 : Option V), σ' = [some (.ref sa), some (.ref ka), some (.int (1 + (r3 : Int))), some (.ref co), v4, v5, v6, v7, v8, none, none, none, none] ∧ SS K B (Wo H sa) sa co loi Bi H' c ss q (n + 1 + 1) ∧ Same B7 Bi ∧ q ≤ 12 + 5 * i)
      ⟨B7, lo6, q6, none, none, none, none, none, rfl, X7, Same.refl _, by omega⟩ (fun i σ' H' _ ⟨Bi, _, _, _, _, _, _, _, _, X, s', _⟩ => X.e.w.seq (s'.seq hva)) ?_ ?_⟩
    · rintro i y σ' H8 H8' hi ⟨B8, lo8, q8, v4, v5, v6, v7, v8, rfl, X8, s8, hq8⟩ ⟨Tp, zz, rfl, nT, rfl, hzz⟩
      obtain ⟨row, hrow, ra, rfl, hra⟩ := pat hsv hzz
      have hrow' : (rowsO ss)[i]? = some row := hrow
      have hrb1 := hrb row (List.mem_of_getElem? hrow)
      have e9 := Ext.tmp X8.e.w (.tup [.int (i : Nat), .ref ra]) nT
      have X9 := X8.ext e9
      refine ⟨Tp, _, rfl, SqT.of upd_same, rfl, _, _, rfl, _, _, rfl, rfl, ?_⟩
      refine ⟨_, rfl, 4, rfl, ra, _, rfl, X9.e.w.seq (s8.seq hra), fun d nd => ?_⟩
      have e10 := Ext.new X9.e.w (.lst (cutV (row.map fun n : Nat => V.int (n : Int)) none (some 4))) nd
      have X10 := X9.ext e10
      have hcut : cutV (row.map fun n : Nat => V.int (n : Int)) none (some 4) = (row.map fun n : Nat => V.int (n : Int)).take 4 := cut_to _ 4
      rw [hcut] at e10 X10 ⊢
      refine ⟨d, _, rfl, SqL.of upd_same, for_it (walk_enum0 _) (fun j σ' H' => ∃ (Bi : Hp) (loi : Addr) (q : Nat) (v6 v7 v8 : Option V), σ' = [some (.ref sa), some (.ref ka), some (.int (1 + (r3 : Int))), some (.ref co), some (.int (i : Nat)), some (.ref ra), v6, v7, v8, none, none, none, none] ∧ SS K B (Wo H sa) sa co loi Bi H' c ss q (n + 1 + 1) ∧ Same B7 Bi ∧ Bi d = some (.lst ((row.map fun n : Nat => V.int (n : Int)).take 4)) ∧ q ≤ 12 + 5 * i + j)
        ⟨_, lo8, q8, v6, v7, v8, rfl, X10, s8.trans e10.b, upd_same, by omega⟩ (fun i σ' H' _ ⟨Bi, _, _, _, _, _, _, X, _, hd, _⟩ => X.e.w.seq (SqL.of hd)) ?_ ?_⟩
      · rintro j y σ' H11 H11' hj ⟨B11, lo11, q11, v6, v7, v8, rfl, X11, s11, hd11, hq11⟩ ⟨Tp2, z2, rfl, nT2, rfl, hz2⟩
        have hj4 : j < 4 := by rw [List.length_take] at hj; omega
        rw [List.getElem?_take_of_lt hj4, List.getElem?_map] at hz2
        obtain ⟨b, hb, rfl⟩ := Option.map_eq_some_iff.mp hz2
        have hbn := hrb1.2 b (List.mem_of_getElem? hb)
        have hspot : SpotO ss b i j := by
          unfold SpotO
          rw [hrow']
          exact hb
        have e12 := Ext.tmp X11.e.w (.tup [.int (j : Nat), .int (b : Int)]) nT2
        have X12 := X11.ext e12
        refine ⟨Tp2, _, rfl, SqT.of upd_same, rfl, _, _, rfl, _, _, rfl, rfl, ?_⟩
        have h100 : (100 : Nat) < 10 ^ 30 := by decide
        have hil : i ≤ 3 := by rw [hsl] at hi; omega
        have hdi : (toString (i : Int) : Str).length ≤ 30 := (dg_len (n := i) (by decide) (by omega) : (dg i).length ≤ 30)
        have hdj : (toString (j : Int) : Str).length ≤ 30 := (dg_len (n := j) (by decide) (by omega) : (dg j).length ≤ 30)
        have hdb : (toString (b : Int) : Str).length ≤ 30 := (dg_len (n := b) (by decide) (by omega) : (dg b).length ≤ 30)
        have hdm' : (toString ((1 : Int) + (r3 : Int)) : Str).length ≤ 30 := by rw [hcast]; exact hdm
        have hsp : (" " : Str).length = 1 := by decide +kernel
        have hspo : ("spot " : Str).length = 5 := by decide +kernel
        refine ⟨_, rfl, _, rfl, hlg i (by omega), _, _, rfl, rfl, Nat.le_of_lt (small1000 (by rw [hsp]; omega)), _, rfl, _, rfl, hlg j (by omega), _, _, rfl, rfl, Nat.le_of_lt (small1000 (by rw [len_app, hsp]; omega)), ?_⟩
        obtain ⟨x12, u12, i12, _⟩ := X12.C.ex
        have hts : ("spot " : Str) ++ (toString (b : Int) : Str) ++ (" " : Str) ++ (toString ((1 : Int) + (r3 : Int)) : Str) = (Cmd.spot b mm).text := by
          rw [hcast, ← text_spot]
          rfl
        refine ⟨_, rfl, co, _, _, rfl, i12, rfl, _, rfl, _, rfl, hlg b (by omega), _, _, rfl, rfl, Nat.le_of_lt (small1000 (by rw [hspo]; omega)), _, _, rfl, rfl, Nat.le_of_lt (small1000 (by rw [len_app, hspo, hsp]; omega)), _, rfl, _, rfl, by rw [hcast]; exact hlg _ hm30, _, _, rfl, rfl, Nat.le_of_lt (small1000 (by rw [len_app, len_app, hspo, hsp]; omega)), B11, co, lo11, c, ss, q11, .spot b mm, X12.e.w, congrArg (fun z : Str => [V.ref co, V.str z]) hts, X12.C, by omega, ⟨hbn, hm30⟩, fun B13 H13 lo13 q13 a13 fr13 hlo13 hq13 C13 ha13 => ?_⟩
        obtain ⟨r, p, rfl, hrp⟩ := ha13
        rw [hss] at hrp
        obtain ⟨rfl, rfl⟩ := spot_uniq hvs hspot hrp
        have X13 : SS K B (Wo H sa) sa co lo13 B13 H13 c ss q13 (n + 1 + 1) := X12.step fr13 hlo13 C13
        refine ⟨_, rfl, rfl, _, rfl, iteBF (by rw [nums2]; simp; rfl) ?_⟩
        exact ⟨B13, lo13, q13, _, _, _, rfl, X13, s11.trans fr13.b, fr13.b _ _ hd11, by omega⟩
      · rintro σ' H11 ⟨B11, lo11, q11, v6, v7, v8, rfl, X11, s11, hd11, hq11⟩
        refine ⟨B11, lo11, q11, _, _, _, _, _, rfl, X11, s11, ?_⟩
        rw [List.length_take] at hq11
        omega
    · rintro σ' H8 ⟨B8, lo8, q8, v4, v5, v6, v7, v8, rfl, X8, s8, hq8⟩
      rw [hsl] at hq8
      have hq8b : q8 ≤ 40 := by omega
      have h100 : (100 : Nat) < 10 ^ 30 := by decide
      have hsp : (" " : Str).length = 1 := by decide +kernel
      have hspo : ("spot " : Str).length = 5 := by decide +kernel
      have hlo : ("look " : Str).length = 5 := by decide +kernel
      have hdm' : (toString ((1 : Int) + (r3 : Int)) : Str).length ≤ 30 := by rw [hcast]; exact hdm
      -- ball
      refine ⟨_, rfl, _, rfl, ka, _, 0, _, rfl, rfl, X8.e.bh.tup hka, atI_nat (j := 0) rfl, B8, sa, n + 1 + 1, c.n, X8.e.w, rfl, X8.S, by omega, by omega, Nat.le_trans hn100 (by decide), fun B9 H9 b e9 S9 hbn => ?_⟩
      have X9 := X8.draw Wo.at e9 S9
      have hdb : (toString (b : Int) : Str).length ≤ 30 := (dg_len (n := b) (by decide) (by omega) : (dg b).length ≤ 30)
      refine ⟨_, rfl, hlg b (by omega), ?_⟩
      -- asked, wait
      refine ⟨_, rfl, _, _, rfl, rfl, Nat.le_of_lt (small1000 (by rw [hspo]; omega)), _, _, rfl, rfl, Nat.le_of_lt (small1000 (by rw [len_app, hspo, hsp]; omega)), _, rfl, B9, sa, n + 1 + 1 + 1, 9, X9.e.w, rfl, S9, by omega, by decide, by decide, fun B10 H10 wt e10 S10 hwt => ?_⟩
      have X10 := X9.draw Wo.at e10 S10
      refine ⟨_, _, rfl, ?_⟩
      have hdw : (toString (wt : Int) : Str).length ≤ 30 := (dg_len (n := wt) (by decide) (by omega) : (dg wt).length ≤ 30)
      -- spot
      obtain ⟨x10, u10, i10, _⟩ := X10.C.ex
      have hts : ("spot " : Str) ++ (toString (b : Int) : Str) ++ (" " : Str) ++ (toString ((1 : Int) + (r3 : Int)) : Str) = (Cmd.spot b mm).text := by
        rw [hcast, ← text_spot]
        rfl
      have hasked : (("spot " : Str) ++ (toString (b : Int) : Str) ++ (" " : Str)).length ≤ 36 := by rw [len_app, len_app, hspo, hsp]; omega
      refine ⟨_, rfl, co, _, _, rfl, i10, rfl, _, rfl, _, rfl, _, rfl, by rw [hcast]; exact hlg _ hm30, _, _, rfl, rfl, Nat.le_of_lt (small1000 (by omega)), B10, co, lo8, c, ss, q8, .spot b mm, X10.e.w, congrArg (fun z : Str => [V.ref co, V.str z]) hts, X10.C, by omega, ⟨hbn, hm30⟩, fun B11 H11 lo11 q11 a11 fr11 hlo11 hq11 C11 ha11 => ?_⟩
      obtain ⟨r, p, rfl, hrp⟩ := ha11
      rw [hss] at hrp
      have X11 : SS K B (Wo H sa) sa co lo11 B11 H11 c ss q11 (n + 1 + 1 + 1 + 1) := X10.step fr11 hlo11 C11
      obtain ⟨hr3', hp100⟩ := spot_small ok hvs (spotO_of.mpr hrp)
      have hrl : r ≤ c.rs.length := by
        obtain ⟨row, h1, h2⟩ := spotO_of.mpr hrp
        have := (List.getElem?_eq_some_iff.mp h1).1
        have h3 : (rowsOf ss).length = ss.2.length + 1 := rfl
        omega
      have hnl : (numsT [r, p]).length ≤ 61 := by
        rw [nums2, len_app, len_app, hsp]
        have h1 : (dg r).length ≤ 30 := dg_len (by decide) (by omega)
        have h2 : (dg p).length ≤ 30 := dg_len (by decide) (by omega)
        omega
      -- told
      obtain ⟨x11, u11, i11, _⟩ := X11.C.ex
      have htl : ("look " : Str) ++ (toString (wt : Int) : Str) ++ (" " : Str) ++ (toString (b : Int) : Str) ++ (" " : Str) ++ numsT [r, p] = (Cmd.look ⟨wt, b, r, p⟩).text := text_look ⟨wt, b, r, p⟩
      refine ⟨_, rfl, co, _, _, rfl, i11, rfl, _, rfl, _, rfl, hlg wt (by omega), _, _, rfl, rfl, Nat.le_of_lt (small1000 (by rw [hlo]; omega)), _, _, rfl, rfl, Nat.le_of_lt (small1000 (by rw [len_app, hlo, hsp]; omega)), _, rfl, _, _, rfl, rfl, Nat.le_of_lt (small1000 (by rw [len_app, len_app, hlo, hsp]; omega)), _, _, rfl, rfl, Nat.le_of_lt (small1000 (by rw [len_app, len_app, len_app, hlo, hsp]; omega)), _, rfl, _, _, rfl, rfl, Nat.le_of_lt (small1000 (by rw [len_app, len_app, len_app, len_app, hlo, hsp]; omega)), B11, co, lo11, c, ss, q11, .look ⟨wt, b, r, p⟩, X11.e.w, congrArg (fun z : Str => [V.ref co, V.str z]) htl, X11.C, by omega, ⟨⟨hbn, hrl⟩, by show wt < 10 ^ 30; omega, by show p < 10 ^ 30; omega⟩, fun B12 H12 lo12 q12 a12 fr12 hlo12 hq12 C12 ha12 => ?_⟩
      have X12 : SS K B (Wo H sa) sa co lo12 B12 H12 c ss q12 (n + 1 + 1 + 1 + 1) := X11.step fr12 hlo12 C12
      obtain ⟨⟨pp, hpp, hper⟩, o, rfl, hnone, hsome⟩ := ha12
      have hPp : 1 ≤ prod c.rs * pp := Nat.mul_pos (prod_pos c.rs ok.two) hpp
      cases o with
      | none =>
        exfalso
        have h1 := hnone rfl (mm + wt * (prod c.rs * pp) - wt)
        apply h1
        have h2 : wt ≤ wt * (prod c.rs * pp) := Nat.le_mul_of_pos_right _ hPp
        show SpotO (stepN c.rs (mm + wt * (prod c.rs * pp) - wt + wt) (first c)) b r p
        rw [show mm + wt * (prod c.rs * pp) - wt + wt = mm + wt * (prod c.rs * pp) by omega, stepN_add, hss, stepN_per ok hvs hper]
        exact hrp
      | some t =>
        obtain ⟨hfit, htlt, hleast⟩ := hsome t rfl
        have hfit : SpotO (stepN c.rs (t + wt) (first c)) b r p := hfit
        have hleast : ∀ u, SpotO (stepN c.rs (u + wt) (first c)) b r p → t ≤ u := hleast
        have htb : t ≤ 172800 := by
          have : prod c.rs * c.n ≤ 1728 * 100 := Nat.mul_le_mul hp1728 hn100
          have h2 : t < prod c.rs * c.n := htlt
          omega
        have hbig : (200000 : Nat) < 10 ^ 30 := by decide
        have hdt : (dg t).length ≤ 30 := dg_len (by decide) (by omega)
        have hti : intText? (dg t) = some (t : Int) := dg_int (by omega)
        have hdt640 : (optT (some t)).length ≤ 640 := by show (dg t).length ≤ 640; omega
        have hdn : dg t ≠ "none" := fun e => by
          have : 110 ∉ (dg t).cps.toList := dg_free (.inr (by decide))
          rw [e] at this
          exact this (by decide +kernel)
        refine ⟨_, rfl, rfl, _, rfl, iteBF (decide_eq_false fun e => hdn (V.str.inj e)) ?_⟩
        -- spot at told + wait
        have ask : ∀ u : Nat, u < 10 ^ 30 → ("spot " : Str) ++ (toString (b : Int) : Str) ++ (" " : Str) ++ (toString (u : Int) : Str) = (Cmd.spot b u).text := fun u _ => text_spot b u
        have hdu : ∀ u : Nat, u < 10 ^ 30 → (toString (u : Int) : Str).length ≤ 30 := fun u hu => (dg_len (by decide) hu : (dg u).length ≤ 30)
        have htw : (t : Int) + (wt : Int) = ((t + wt : Nat) : Int) := by omega
        obtain ⟨x12, u12, i12, _⟩ := X12.C.ex
        refine ⟨_, rfl, co, _, _, rfl, i12, rfl, _, rfl, _, rfl, _, _, rfl, hti, hdt640, _, rfl, _, _, rfl, rfl, _, rfl, by rw [htw]; exact hlg _ (by omega), _, _, rfl, rfl, ?_, ?_⟩
        · rw [htw]
          have := hdu (t + wt) (by omega)
          exact Nat.le_of_lt (small1000 (by omega))
        have hts2 : ("spot " : Str) ++ (toString (b : Int) : Str) ++ (" " : Str) ++ (toString ((t : Int) + (wt : Int)) : Str) = (Cmd.spot b (t + wt)).text := by rw [htw]; exact ask _ (by omega)
        refine ⟨B12, co, lo12, c, ss, q12, .spot b (t + wt), X12.e.w, congrArg (fun z : Str => [V.ref co, V.str z]) hts2, X12.C, by omega, ⟨hbn, by omega⟩, fun B13 H13 lo13 q13 a13 fr13 hlo13 hq13 C13 ha13 => ?_⟩
        obtain ⟨r2, p2, rfl, hrp2⟩ := ha13
        obtain ⟨rfl, rfl⟩ := spot_uniq (stepN_vs ok (t + wt) (first_vs ok)) hfit hrp2
        have X13 : SS K B (Wo H sa) sa co lo13 B13 H13 c ss q13 (n + 1 + 1 + 1 + 1) := X12.step fr13 hlo13 C13
        refine ⟨_, rfl, rfl, _, rfl, iteBF (by simp) ?_⟩
        -- none earlier
        refine ⟨_, rfl, _, _, rfl, hti, hdt640, _, _, rfl, rfl, _, _, rfl, _, rfl, _, _, rfl, hti, hdt640, _, _, rfl, ?_, ?_⟩
        · split <;> omega
        obtain ⟨lw, hlw, hlwt⟩ : ∃ lw : Nat, (if (t : Int) - 9 > 0 then (t : Int) - 9 else 0) = (lw : Int) ∧ lw ≤ t := by
          split
          · exact ⟨t - 9, by omega, by omega⟩
          · exact ⟨0, rfl, Nat.zero_le _⟩
        rw [hlw, show ((t : Int) - (lw : Int)).toNat = t - lw by omega]
        have hlw9 : t - lw ≤ 9 := by
          split at hlw <;> omega
        refine for_it (walk_rng (t - lw)) (fun i σ' H' => ∃ (Bi : Hp) (loi : Addr) (q : Nat) (v4 v5 v6 v12 : Option V), σ' = [some (.ref sa), some (.ref ka), some (.int (1 + (r3 : Int))), some (.ref co), v4, v5, v6, some (.str (toString (b : Int) : Str)), some (.str (numsT [r, p])), some (.str (("spot " : Str) ++ (toString (b : Int) : Str) ++ (" " : Str))), some (.int (wt : Int)), some (.str (dg t)), v12] ∧ SS K B (Wo H sa) sa co loi Bi H' c ss q (n + 1 + 1 + 1 + 1) ∧ q ≤ 60 + i)
          ⟨B13, lo13, q13, v4, v5, v6, none, rfl, X13, by omega⟩ (fun i σ' H' _ _ => trivial) ?_ ?_
        · rintro i y σ' H14 H14' hi ⟨B14, lo14, q14, v4, v5, v6, v12, rfl, X14, hq14⟩ ⟨rfl, rfl⟩
          have hnw : (lw : Int) + (i : Int) + (wt : Int) = ((lw + i + wt : Nat) : Int) := by omega
          obtain ⟨x14, u14, i14, _⟩ := X14.C.ex
          have hts3 : ("spot " : Str) ++ (toString (b : Int) : Str) ++ (" " : Str) ++ (toString ((lw : Int) + (i : Int) + (wt : Int)) : Str) = (Cmd.spot b (lw + i + wt)).text := by rw [hnw]; exact ask _ (by omega)
          refine ⟨_, rfl, co, _, _, rfl, i14, rfl, _, rfl, _, rfl, _, rfl, _, _, rfl, rfl, _, rfl, by rw [hnw]; exact hlg _ (by omega), _, _, rfl, rfl, ?_, ?_⟩
          · rw [hnw]
            have := hdu (lw + i + wt) (by omega)
            exact Nat.le_of_lt (small1000 (by omega))
          refine ⟨B14, co, lo14, c, ss, q14, .spot b (lw + i + wt), X14.e.w, congrArg (fun z : Str => [V.ref co, V.str z]) hts3, X14.C, by omega, ⟨hbn, by omega⟩, fun B15 H15 lo15 q15 a15 fr15 hlo15 hq15 C15 ha15 => ?_⟩
          obtain ⟨r4, p4, rfl, hrp4⟩ := ha15
          have X15 : SS K B (Wo H sa) sa co lo15 B15 H15 c ss q15 (n + 1 + 1 + 1 + 1) := X14.step fr15 hlo15 C15
          have hne : numsT [r4, p4] ≠ numsT [r, p] := fun e => by
            obtain ⟨rfl, rfl⟩ := nums_inj e
            have := hleast (lw + i) hrp4
            omega
          refine ⟨_, rfl, rfl, _, rfl, iteBF (decide_eq_false fun e => hne (V.str.inj e)) ?_⟩
          exact ⟨B15, lo15, q15, _, _, _, _, rfl, X15, by omega⟩
        · rintro σ' H14 ⟨B14, lo14, q14, v4, v5, v6, v12, rfl, X14, hq14⟩
          have hk := k B14 H14 (n + 1 + 1 + 1 + 1) X14.e X14.S (by omega)
          refine ⟨_, rfl, _, _, rfl, hti, hdt640, _, rfl, _, rfl, _, _, rfl, rfl, _, _, rfl, _, _, rfl, rfl, _, rfl, ?_⟩
          by_cases hw : wt ≤ mm
          · have h1 := hleast (mm - wt) (by rw [show mm - wt + wt = mm by omega, hss]; exact hrp)
            have h2 : decide ((t : Int) ≤ (if (1 : Int) + (r3 : Int) - (wt : Int) > 0 then (1 : Int) + (r3 : Int) - (wt : Int) else 0)) = true := decide_eq_true (by split <;> omega)
            rw [if_pos h2]
            exact hk
          · by_cases h2 : decide ((t : Int) ≤ (if (1 : Int) + (r3 : Int) - (wt : Int) > 0 then (1 : Int) + (r3 : Int) - (wt : Int) else 0)) = true
            · rw [if_pos h2]
              exact hk
            · rw [if_neg h2]
              refine ⟨_, rfl, _, rfl, _, _, rfl, rfl, ?_⟩
              show Q (.bl (decide ((1 : Int) + (r3 : Int) < (wt : Int)))) H14
              rw [show decide ((1 : Int) + (r3 : Int) < (wt : Int)) = true from decide_eq_true (by omega)]
              exact hk
end
end BH
end
section
set_option Elab.async false
set_option linter.all false
set_option maxRecDepth 100000
set_option maxHeartbeats 4000000
namespace BH
open PySem PySem.Spec PyProof.Rows L2 BM
theorem LV.fr {K : PySem.W.Frag} {B H B1 H1 : Hp} {lo co2 lo2 : Addr} {c : Clk} {s : Sg Nat} {q : Nat} (l : LV K B H lo c s q) (n1 : lo ≠ co2) (n2 : lo ≠ lo2) (e : Fr B H co2 lo2 B1 H1) : LV K B1 H1 lo c s q := by
  obtain ⟨hb, ⟨dx, kc, cl, cvs, h1, h2, h3, h4, h5⟩, ok, vs⟩ := l
  have h1' : Wo (Wo H co2) lo2 lo = some (.ins (He.ga K "BallClock") dx [("kept_clock", .ref kc), ("kept_calls", .ref cl)]) := by rw [Wo.other n2, Wo.other n1]; exact h1
  exact ⟨by rw [e.n lo (by rw [h1']; exact fun z => nomatch z)]; exact hb, ⟨dx, kc, cl, cvs, e.h _ _ h1', h2.mono e.b, e.b.seq h3, h4, h5.mono e.b⟩, ok, vs⟩
theorem CS.fr {K : PySem.W.Frag} {B H B1 H1 : Hp} {co lo co2 lo2 : Addr} {c : Clk} {s : Sg Nat} {q : Nat} (l : CS K B H co lo c s q) (n1 : co ≠ co2) (n2 : co ≠ lo2) (n3 : lo ≠ co2) (n4 : lo ≠ lo2) (e : Fr B H co2 lo2 B1 H1) : CS K B1 H1 co lo c s q := by
  obtain ⟨hb, ⟨dx, cv, h1, h2⟩, L, n⟩ := l
  have h1' : Wo (Wo H co2) lo2 co = some (.ins (He.ga K "Console") dx [("set_clock", cv), ("set_live", .ref lo)]) := by rw [Wo.other n2, Wo.other n1]; exact h1
  exact ⟨by rw [e.n co (by rw [h1']; exact fun z => nomatch z)]; exact hb, ⟨dx, cv, e.h _ _ h1', h2.mono e.b⟩, L.fr n3 n4 e, n⟩
theorem CS.here {K : PySem.W.Frag} {B H : Hp} {co lo : Addr} {c : Clk} {s : Sg Nat} {q : Nat} (l : CS K B H co lo c s q) : H co ≠ none ∧ H lo ≠ none := by
  obtain ⟨hb, ⟨dx, cv, h1, h2⟩, L, n⟩ := l
  obtain ⟨_, _, _, _, h3, _⟩ := L.ex
  exact ⟨(by rw [h1]; exact (fun z => nomatch z)), (by rw [h3]; exact (fun z => nomatch z))⟩
/-- two fresh consoles -/
structure P2S (K : PySem.W.Frag) (B H0 : Hp) (sa co1 lo1 co2 lo2 : Addr) (Bi Hi : Hp) (c1 : Clk) (s1 : Sg Nat) (c2 : Clk) (s2 : Sg Nat) (q n : Nat) : Prop where
  X1 : ∃ q', q' ≤ q ∧ SS K B H0 sa co1 lo1 Bi Hi c1 s1 q' n
  X2 : ∃ q', q' ≤ q ∧ SS K B H0 sa co2 lo2 Bi Hi c2 s2 q' n
  n1 : co1 ≠ co2
  n2 : co1 ≠ lo2
  n3 : lo1 ≠ co2
  n4 : lo1 ≠ lo2
theorem P2S.sym {K : PySem.W.Frag} {B H0 : Hp} {sa co1 lo1 co2 lo2 : Addr} {Bi Hi : Hp} {c1 : Clk} {s1 : Sg Nat} {c2 : Clk} {s2 : Sg Nat} {q n : Nat} (x : P2S K B H0 sa co1 lo1 co2 lo2 Bi Hi c1 s1 c2 s2 q n) : P2S K B H0 sa co2 lo2 co1 lo1 Bi Hi c2 s2 c1 s1 q n :=
  ⟨x.X2, x.X1, Ne.symm x.n1, Ne.symm x.n3, Ne.symm x.n2, Ne.symm x.n4⟩
theorem P2S.ext {K : PySem.W.Frag} {B H0 : Hp} {sa co1 lo1 co2 lo2 : Addr} {Bi Hi B2 H2 : Hp} {c1 : Clk} {s1 : Sg Nat} {c2 : Clk} {s2 : Sg Nat} {q n : Nat} (x : P2S K B H0 sa co1 lo1 co2 lo2 Bi Hi c1 s1 c2 s2 q n) (e : Ext Bi Hi B2 H2) : P2S K B H0 sa co1 lo1 co2 lo2 B2 H2 c1 s1 c2 s2 q n := by
  obtain ⟨⟨q1, h1, X1⟩, ⟨q2, h2, X2⟩, a, b, c, d⟩ := x
  exact ⟨⟨q1, h1, X1.ext e⟩, ⟨q2, h2, X2.ext e⟩, a, b, c, d⟩
theorem P2S.step {K : PySem.W.Frag} {B H0 : Hp} {sa co1 lo1 co2 lo2 lo3 : Addr} {Bi Hi B2 H2 : Hp} {c1 c3 : Clk} {s1 s3 : Sg Nat} {c2 : Clk} {s2 : Sg Nat} {q q' q3 n : Nat} (x : P2S K B H0 sa co1 lo1 co2 lo2 Bi Hi c1 s1 c2 s2 q n) (hq : q' ≤ q)
    (f : Fr Bi Hi co1 lo1 B2 H2) (h : lo3 = lo1 ∨ Hi lo3 = none) (hq3 : q3 ≤ q' + 1) (C : CS K B2 H2 co1 lo3 c3 s3 q3) : P2S K B H0 sa co1 lo3 co2 lo2 B2 H2 c3 s3 c2 s2 (q + 1) n := by
  obtain ⟨⟨q1, h1, X1⟩, ⟨q2, h2, X2⟩, a, b, c, d⟩ := x
  have hh := X2.C.here
  refine ⟨⟨q3, by omega, X1.step f h C⟩, ⟨q2, by omega, ⟨Fr.fresh X1.e X1.hco X1.hlo f, X2.S.fr X1.nco X1.nlo f, X2.C.fr (Ne.symm a) (Ne.symm c) (Ne.symm b) (Ne.symm d) f, X2.hco, X2.hlo, X2.nco, X2.nlo⟩⟩, a, b, ?_, ?_⟩
  · rcases h with h | h
    · rw [h]; exact c
    · exact fun z => hh.1 (by rw [← z]; exact h)
  · rcases h with h | h
    · rw [h]; exact d
    · exact fun z => hh.2 (by rw [← z]; exact h)
/-- another clock with one other rail -/
structure Alt (c c2 : Clk) (b b2 : Nat) (w w2 : Bool) (I O : List Rail) : Prop where
  h1 : c.rs = I ++ (b, w) :: O
  h2 : c2.rs = I ++ (b2, w2) :: O
  n : c2.n = c.n
  how : (b2 = b ∧ w2 = !w) ∨ (2 < b ∧ b2 = b - 1 ∧ w2 = w)
theorem Alt.ok {c c2 : Clk} {b b2 : Nat} {w w2 : Bool} {I O : List Rail} (A : Alt c c2 b b2 w w2 I O) (ok : c.Ok) : c2.Ok := by
  have hb2 : 2 ≤ b := ok.two (b, w) (by rw [A.h1]; simp)
  have hb12 : b ≤ 12 := ok.b12 (b, w) (by rw [A.h1]; simp)
  have hbb : 2 ≤ b2 ∧ b2 ≤ b := by rcases A.how with ⟨h, _⟩ | ⟨h1, h, _⟩ <;> omega
  refine ⟨by rw [A.n]; exact ok.n2, by rw [A.n]; exact ok.n100, by rw [A.h2]; simp, ?_, ?_, ?_, ?_⟩
  · intro r hr
    rw [A.h2] at hr
    rcases List.mem_append.mp hr with h | h
    · exact ok.two r (by rw [A.h1]; exact List.mem_append.mpr (.inl h))
    · rcases List.mem_cons.mp h with h | h
      · rw [h]; exact hbb.1
      · exact ok.two r (by rw [A.h1]; exact List.mem_append.mpr (.inr (List.mem_cons_of_mem _ h)))
  · have h := ok.need
    rw [A.n]
    have e1 := need_append I ((b, w) :: O)
    have e2 := need_append I ((b2, w2) :: O)
    have e3 : need ((b, w) :: O) = (b - 1) + need O := rfl
    have e4 : need ((b2, w2) :: O) = (b2 - 1) + need O := rfl
    rw [A.h1] at h
    rw [A.h2]
    omega
  · have h := ok.l3
    rw [A.h1] at h
    rw [A.h2]
    simp at h ⊢
    exact h
  · intro r hr
    rw [A.h2] at hr
    rcases List.mem_append.mp hr with h | h
    · exact ok.b12 r (by rw [A.h1]; exact List.mem_append.mpr (.inl h))
    · rcases List.mem_cons.mp h with h | h
      · rw [h]; show b2 ≤ 12; omega
      · exact ok.b12 r (by rw [A.h1]; exact List.mem_append.mpr (.inr (List.mem_cons_of_mem _ h)))
theorem Alt.len {c c2 : Clk} {b b2 : Nat} {w w2 : Bool} {I O : List Rail} (A : Alt c c2 b b2 w w2 I O) : c.rs.length = c2.rs.length := by rw [A.h1, A.h2]; simp
/-- what the parting tick tells -/
theorem Alt.part {c c2 : Clk} {b b2 : Nat} {w w2 : Bool} {I O : List Rail} (A : Alt c c2 b b2 w w2 I O) (ok : c.Ok) :
    unl c2.rs c.rs 1 = unl c.rs c2.rs 1 ∧ (unl c.rs c2.rs 1 = none → b2 = 2 ∨ b = 2) ∧ ∀ t, unl c.rs c2.rs 1 = some t → 1 ≤ t ∧ t ≤ 1728 * 12 ∧ stepN c.rs (t - 1) (first c) = stepN c2.rs (t - 1) (first c2) ∧ stepN c.rs t (first c) ≠ stepN c2.rs t (first c2) := by
  have ok2 := A.ok ok
  have hb2 : 2 ≤ b := ok.two (b, w) (by rw [A.h1]; simp)
  have hpI : 1 ≤ prod I := prod_pos I fun r hr => ok.two r (by rw [A.h1]; exact List.mem_append.mpr (.inl hr))
  obtain ⟨cn, crs⟩ := c
  obtain ⟨c2n, c2rs⟩ := c2
  obtain ⟨h1, h2, hn, how⟩ := A
  have h1 : crs = I ++ (b, w) :: O := h1
  have h2 : c2rs = I ++ (b2, w2) :: O := h2
  have hn : c2n = cn := hn
  subst h1; subst h2; subst hn
  have hprod := prod_1728 ok
  have hpb : prod I * b ≤ 1728 := by
    have : prod (I ++ (b, w) :: O) = prod I * (b * prod O) := prod_split I O b w
    have hpO : 1 ≤ prod O := prod_pos O fun r hr => ok.two r (List.mem_append.mpr (.inr (List.mem_cons_of_mem _ hr)))
    have h5 : prod I * b ≤ prod I * b * prod O := Nat.le_mul_of_pos_right _ hpO
    rw [Nat.mul_assoc, ← this] at h5
    exact Nat.le_trans h5 hprod
  show unl (I ++ (b2, w2) :: O) (I ++ (b, w) :: O) 1 = unl (I ++ (b, w) :: O) (I ++ (b2, w2) :: O) 1 ∧ (unl (I ++ (b, w) :: O) (I ++ (b2, w2) :: O) 1 = none → _) ∧ ∀ t, unl (I ++ (b, w) :: O) (I ++ (b2, w2) :: O) 1 = some t → _
  rw [unl_at, unl_at, Nat.one_mul]
  rcases how with ⟨rfl, rfl⟩ | ⟨hb, rfl, rfl⟩
  · -- another way
    have hw : w ≠ !w := by cases w <;> simp
    have hnn : ¬ (b2 ≠ b2) := fun z => z rfl
    rw [if_neg hnn, if_neg hnn]
    by_cases h3 : 2 < b2
    · rw [if_pos ⟨Ne.symm hw, h3⟩, if_pos ⟨hw, h3⟩]
      refine ⟨rfl, fun h => (by cases h), fun t ht => ?_⟩
      have ht := Option.some.inj ht
      subst ht
      have hge : 1 ≤ prod I * b2 := Nat.mul_pos hpI (by omega)
      refine ⟨hge, by omega, ?_, part_way ok ok2 hw h3⟩
      exact part_same rfl ok ok2 (by omega) (by omega)
    · rw [if_neg (fun z => h3 z.2), if_neg (fun z => h3 z.2)]
      exact ⟨rfl, fun _ => .inl (by omega), fun t ht => (by cases ht)⟩
  · -- a smaller bound
    have hne : b ≠ b - 1 := by omega
    rw [if_pos (Ne.symm hne), if_pos hne, Nat.min_comm (b - 1) b]
    refine ⟨rfl, fun h => (by cases h), fun t ht => ?_⟩
    have ht := Option.some.inj ht
    have hmin : min b (b - 1) = b - 1 := by omega
    rw [hmin] at ht
    subst ht
    have hge : 1 ≤ prod I * (b - 1) := Nat.mul_pos hpI (by omega)
    have hle : prod I * (b - 1) ≤ prod I * b := Nat.mul_le_mul_left _ (by omega)
    refine ⟨hge, by omega, ?_, fun e => part_bound ok2 ok (show b - 1 < b by omega) e.symm⟩
    exact part_same rfl ok ok2 (by omega) (by omega)
end BH
end
section
set_option Elab.async false
set_option linter.all false
set_option maxRecDepth 100000
set_option maxHeartbeats 4000000
namespace BH
open PySem PySem.Spec PyProof.Rows L2 BM
theorem split_at {rs : List Rail} {i : Nat} {r : Rail} (h : rs[i]? = some r) : rs = rs.take i ++ r :: rs.drop (i + 1) := by
  obtain ⟨h1, h2⟩ := List.getElem?_eq_some_iff.mp h
  have := List.drop_eq_getElem_cons h1
  rw [h2] at this
  rw [← this, List.take_append_drop]
theorem pe_ifK {X : Cx} {c : Expr} {tA : L2.TT} {x y : Str} {k k' : Nat} {p p' pos : Pos} (hc : PT X c tA) : PE X (.IfExp c (.Constant (.str x) k p) (.Constant (.str y) k' p') pos) (fun σ H Q => tA σ H fun b H1 => Q (.str (if b = true then x else y)) H1) := by
  refine ⟨fun pins s σ H Q I h => (pe_ifExp hc pe_str pe_str).run pins s σ H Q I ?_⟩
  have e : (fun (b : Bool) (H1 : Hp) => Q (.str (if b = true then x else y)) H1) = fun b H1 => if b = true then tC (.str x) σ H1 Q else tC (.str y) σ H1 Q := by
    funext b H1
    cases b <;> rfl
  show tA σ H fun b H1 => if b = true then tC (.str x) σ H1 Q else tC (.str y) σ H1 Q
  rw [← e]
  exact h
/-- ways that come together -/
theorem join2 {G Hy : Addr → Hp → Prop} {X : Prop} (main : (∀ p h, Hy p h → G p h) → X) (tail : ∀ p h, Hy p h → G p h) : X := main tail
theorem join2o {G Hy : Option V → Hp → Prop} {X : Prop} (main : (∀ p h, Hy p h → G p h) → X) (tail : ∀ p h, Hy p h → G p h) : X := main tail
theorem other_way (w : Bool) : (if decide (V.str (wayS w) = V.str "through") = true then ("back" : Str) else "through") = wayS (!w) := by cases w <;> decide
section
variable {P : Program} {w : World} {K : PySem.W.Frag} {mg : Str → Option Value} {base : Heap}
def sp_parts_right (K : PySem.W.Frag) : Sp := fun vs H Q _ => ∃ (B : Hp) (sa : Addr) (n : Nat) (kv : V) (c : Clk), Same B H ∧ vs = [.ref sa, kv] ∧ STK B H sa n ∧ n ≤ 100000 ∧ CK K B kv c ∧ c.Ok ∧ ∀ B' H' n', Ext B (Wo H sa) B' H' → STK B' H' sa n' → n' ≤ n + 10 → Q (.bl true) H'
theorem c_law_parts_right (T : Txt w K mg) : Has P w K mg base "_law_parts_right" 20 ["_law_stock_here", "_law_kind_here"] (sp_parts_right K) := by
  refine Has.of T.f_law_parts_right T.g_law_parts_right sc_law_parts_right (fun _ _ _ _ _ _ us hl => match us, hl with | [_, _], _ => rfl) (fun vs H Q E h => ?_) (fun f cdv A outer s0 H vs Q E hr h => ?_)
  · obtain ⟨B, sa, n, kv, c, hB, rfl, _⟩ := h; rfl
  · obtain ⟨B, sa, n, kv, c, hB, rfl, S, hn, hck, ok, k⟩ := h
    obtain ⟨ka, krv, rfl, hka, ⟨rb, rls, rfl, hrb, hpr⟩⟩ := id hck
    have hlr : rls.length = c.rs.length := Paired.length hpr
    have hn2 := ok.n2
    have hn100 := ok.n100
    have hl3 := ok.l3
    have hl1 : 1 ≤ c.rs.length := by
      cases h : c.rs with
      | nil => exact absurd h ok.ne
      | cons _ _ => simp
    have e0 : Ext B (Wo H sa) B H := ⟨Same.refl _, hB, Wo.same (Same.refl _), fun _ _ => rfl⟩
    refine ⟨_, (pss_cons (ps_set (i := 2) sc_law_parts_right.nd rfl (.inl rfl) (pc (c_law_draw T) hr (pa_cons (pv 0) (pa_cons (pe_callB (cLen (K := K) rfl) (by rfl) T.b_len (by decide +kernel) (pa_cons (pe_ix (xT (K := K) rfl) (pv 1) pe_int (fun _ _ => rfl)) pa_nil)) pa_nil))))
      (pss_cons (ps_asg (pe_ix (xL (K := K) rfl) (pe_ix (xT (K := K) rfl) (pv 1) pe_int (fun _ _ => rfl)) (pv 2) (fun _ _ => rfl)) (pg_tup rfl (pgs_cons (pg_name (i := 3) sc_law_parts_right.nd rfl (.inl rfl)) (pgs_cons (pg_name (i := 4) sc_law_parts_right.nd rfl (.inl rfl)) pgs_nil))))
      (pss_cons (ps_set (i := 5) sc_law_parts_right.nd rfl (.inl rfl) (pe_tup (pa_cons (pv 3) (pa_cons (pe_ifK (pt_cmpR op_eq (pv 4) pe_str (nomark _))) pa_nil))))
      (pss_cons (ps_if (PW.pt (pw_and (pt_cmpR op_gt (pv 3) pe_int (nomark _)) (pw_and1 (pt_cmpR op_eq (pc (c_law_draw T) hr (pa_cons (pv 0) (pa_cons pe_int pa_nil))) pe_int (nomark _))))) (pss_one (ps_set (i := 5) sc_law_parts_right.nd rfl (.inl rfl) (pe_tup (pa_cons (pe_op op_sub (pv 3) pe_int) (pa_cons (pv 4) pa_nil))))) pss_nil)
      (pss_cons (ps_set (i := 6) sc_law_parts_right.nd rfl (.inl rfl) (pe_tup (pa_cons (pe_ix (xT (K := K) rfl) (pv 1) pe_int (fun _ _ => rfl)) (pa_cons (pe_op op_cat (pe_op op_cat (pe_slice (slL (K := K) rfl) (pe_ix (xT (K := K) rfl) (pv 1) pe_int (fun _ _ => rfl)) po_none (po_some (pv 2))) (pe_lst (pa_cons (pv 5) pa_nil))) (pe_slice (slL (K := K) rfl) (pe_ix (xT (K := K) rfl) (pv 1) pe_int (fun _ _ => rfl)) (po_some (pe_op op_add (pv 2) pe_int)) po_none)) pa_nil))))
      (pss_cons (ps_par (i := 7) (j := 8) rfl sc_law_parts_right.nd rfl rfl (by decide) rfl rfl (pa_cons (pc (c_law_console T) hr (pa_cons (pv 1) (pa_cons (pe_lst pa_nil) pa_nil))) (pa_cons (pc (c_law_console T) hr (pa_cons (pv 6) (pa_cons (pe_lst pa_nil) pa_nil))) pa_nil)) (by rfl))
      (pss_cons (ps_set (i := 9) sc_law_parts_right.nd rfl (.inl rfl) (pmK (K := K) rfl (c_Console_execute T) hr (pv 7) (pa_cons (pe_op op_add_str pe_str (pc (c_format_clock T) hr (pa_cons (pv 6) pa_nil))) pa_nil)))
      (pss_cons (ps_if (PW.pt (pw_or (pt_cmpR op_ne (pmK (K := K) rfl (c_Console_execute T) hr (pv 7) (pa_cons (pe_op op_add_str pe_str (pc (c_format_clock T) hr (pa_cons (pv 1) pa_nil))) pa_nil)) pe_str (nomark _)) (pw_or1 (pt_cmpR op_ne (pmK (K := K) rfl (c_Console_execute T) hr (pv 8) (pa_cons (pe_op op_add_str pe_str (pc (c_format_clock T) hr (pa_cons (pv 1) pa_nil))) pa_nil)) (pv 9) (nomark _))))) (pss_one (ps_ret pe_bl)) pss_nil)
      (pss_cons (ps_if (pt_cmpR op_eq (pv 9) pe_str (nomark _)) (pss_one (ps_ret (pe_or (pe_cmpR op_eq (pe_ix (xT (K := K) rfl) (pv 5) pe_int (fun _ _ => rfl)) pe_int (nomark _)) (pe_one (pe_cmpR op_eq (pv 3) pe_int (nomark _)))))) pss_nil)
      (pss_cons (ps_if (pt_cmpR op_gt (pe_callTy call_int_str (by rfl) T.b_int (by decide +kernel) (pa_cons (pv 9) pa_nil)) pe_int (nomark _)) (pss_cons (ps_for PassesOwn.never rfl (piT (K := K) rfl (pe_tup (pa_cons (pv 7) (pa_cons (pv 8) pa_nil)))) (pg_name (i := 10) sc_law_parts_right.nd rfl (.inl rfl))
      (pss_one (ps_expr (pmK (K := K) rfl (c_Console_execute T) hr (pv 10) (pa_cons (pe_op op_add_str pe_str (pe_callTy call_str_int (by rfl) T.b_str (by decide +kernel) (pa_cons (pe_op op_sub (pe_callTy call_int_str (by rfl) T.b_int (by decide +kernel) (pa_cons (pv 9) pa_nil)) pe_int) pa_nil))) pa_nil)))))
      (pss_one (ps_if (pt_cmpR op_ne (pmK (K := K) rfl (c_Console_execute T) hr (pv 7) (pa_cons pe_str pa_nil)) (pmK (K := K) rfl (c_Console_execute T) hr (pv 8) (pa_cons pe_str pa_nil)) (nomark _)) (pss_one (ps_ret pe_bl)) pss_nil))) pss_nil)
      (pss_cons (ps_for PassesOwn.never rfl (piT (K := K) rfl (pe_tup (pa_cons (pv 7) (pa_cons (pv 8) pa_nil)))) (pg_name (i := 10) sc_law_parts_right.nd rfl (.inl rfl))
      (pss_one (ps_expr (pmK (K := K) rfl (c_Console_execute T) hr (pv 10) (pa_cons pe_str pa_nil)))))
      (pss_one (ps_ret (pe_cmpR op_ne (pmK (K := K) rfl (c_Console_execute T) hr (pv 7) (pa_cons pe_str pa_nil)) (pmK (K := K) rfl (c_Console_execute T) hr (pv 8) (pa_cons pe_str pa_nil)) (nomark _))))))))))))))), ?_⟩
    -- spot
    refine ⟨_, rfl, _, rfl, ka, _, 1, _, rfl, rfl, hB.tup hka, atI_nat (j := 1) rfl, rb, _, rfl, .inl (hB.seq hrb), B, sa, n, c.rs.length, hB, by rw [hlr], S, by omega, hl1, Nat.le_trans hl3 (by decide), fun B1 H1 sp e1 S1 hsp => ?_⟩
    have E1 := Ext.transW Wo.at e0 e1
    obtain ⟨⟨b, wy⟩, hrail⟩ : ∃ rl, c.rs[sp]? = some rl := ⟨_, List.getElem?_eq_getElem hsp⟩
    obtain ⟨rlv, hrlv, q1, rfl, hq1⟩ := pat2 hpr hrail
    have hb2 : 2 ≤ b := ok.two _ (List.mem_of_getElem? hrail)
    have hb12 : b ≤ 12 := ok.b12 _ (List.mem_of_getElem? hrail)
    -- bound, road
    refine ⟨_, rfl, ka, _, 1, _, rfl, rfl, E1.bh.tup hka, atI_nat (j := 1) rfl, _, rfl, rb, _, _, _, rfl, rfl, E1.bh.seq hrb, atI_nat hrlv, q1, _, rfl, E1.bh.tup hq1, rfl, _, _, rfl, _, _, rfl, rfl, ?_⟩
    apply join2 (Hy := fun p5 H5 => ∃ (B5 : Hp) (b2 : Nat) (w2 : Bool) (n5 : Nat), ((b2 = b ∧ w2 = !wy) ∨ (2 < b ∧ b2 = b - 1 ∧ w2 = wy)) ∧ B5 p5 = some (.tup [.int (b2 : Int), .str (wayS w2)]) ∧ Ext B (Wo H sa) B5 H5 ∧ STK B5 H5 sa n5 ∧ n5 ≤ n + 2)
    case main =>
      intro tail
      -- other_rail
      refine ⟨_, rfl, _, rfl, rfl, _, rfl, by show 2 ≤ sizeLine; decide, fun p2 np2 => ?_⟩
      have e2 := Ext.new e1.w (.tup [.int (b : Int), .str (if decide (V.str (wayS wy) = V.str "through") = true then ("back" : Str) else "through")]) np2
      have E2 := E1.trans e2
      have S2 := S1.ext e2
      have hp2 : (upd B1 p2 (.tup [.int (b : Int), .str (if decide (V.str (wayS wy) = V.str "through") = true then ("back" : Str) else "through")])) p2 = some (.tup [.int (b : Int), .str (wayS (!wy))]) := by rw [upd_same, other_way]
      generalize hB2 : (upd B1 p2 (.tup [.int (b : Int), .str (if decide (V.str (wayS wy) = V.str "through") = true then ("back" : Str) else "through")])) = B2 at e2 E2 S2 hp2
      generalize hH2 : (upd H1 p2 (.tup [.int (b : Int), .str (if decide (V.str (wayS wy) = V.str "through") = true then ("back" : Str) else "through")])) = H2 at e2 E2 S2
      -- the other rail, in one of three ways
      refine ⟨_, rfl, _, _, rfl, rfl, _, rfl, ?_⟩
      by_cases hbig : 2 < b
      · refine iteB (decide_eq_true (by show (2 : Int) < (b : Int); omega)) ?_
        refine ⟨_, rfl, B2, sa, n + 1, 2, e2.w, rfl, S2, by omega, by decide, by decide, fun B3 H3 r e3 S3 hr => ?_⟩
        have E3 := Ext.transW Wo.at E2 e3
        refine ⟨rfl, _, rfl, ?_⟩
        by_cases hr0 : r ≠ 0
        · refine iteBF (by simp; omega) ?_
          exact tail p2 H3 ⟨B3, b, !wy, n + 1 + 1, .inl ⟨rfl, rfl⟩, e3.b _ _ hp2, E3, S3, by omega⟩
        · refine iteB (by rw [show r = 0 by omega]; rfl) ?_
          refine ⟨_, rfl, _, _, rfl, rfl, _, rfl, by show 2 ≤ sizeLine; decide, fun p5 np5 => ?_⟩
          have e4 := Ext.new e3.w (.tup [.int ((b : Int) - 1), .str (wayS wy)]) np5
          exact tail p5 _ ⟨_, b - 1, wy, n + 1 + 1, .inr ⟨hbig, rfl, rfl⟩, by rw [upd_same, show (b : Int) - 1 = ((b - 1 : Nat) : Int) by omega], E3.trans e4, S3.ext e4, by omega⟩
      · refine iteBF (decide_eq_false (by show ¬ (2 : Int) < (b : Int); omega)) ?_
        exact tail p2 H2 ⟨B2, b, !wy, n + 1, .inl ⟨rfl, rfl⟩, hp2, E2, S2, by omega⟩
    case tail =>
      rintro p5 H5 ⟨B5, b2, w2, n5, how, hp5, E5, S5, hn5⟩
      have hb5 : RL K B5 (.ref p5) (b2, w2) := ⟨p5, rfl, SqT.of hp5⟩
      have hck5 := hck.mono E5.b
      have hrls5 : Paired (RL K B5) rls c.rs := Paired.mapP hpr fun _ _ h => h.mono E5.b
      -- other_kind
      refine ⟨_, rfl, ka, _, 0, _, rfl, rfl, E5.bh.tup hka, atI_nat (j := 0) rfl, _, rfl, ka, _, 1, _, rfl, rfl, E5.bh.tup hka, atI_nat (j := 1) rfl, _, rfl, _, rfl, rb, _, rfl, E5.bh.seq hrb, fun d1 nd1 => ?_⟩
      have e6 := Ext.new E5.w (.lst (cutV rls none (some (sp : Int)))) nd1
      refine ⟨_, rfl, by show 1 ≤ sizeLine; decide, fun d2 nd2 => ?_⟩
      have e7 := Ext.new e6.w (.lst [V.ref p5]) nd2
      rw [cut_to] at *
      refine ⟨d1, d2, _, _, rfl, rfl, e7.h _ _ upd_same, upd_same, ?_, fun d3 nd3 => ?_⟩
      · simp only [List.length_take, List.length_cons, List.length_nil]
        exact Nat.le_of_lt (small1000 (by omega))
      have e8 := Ext.new e7.w (.lst (rls.take sp ++ [V.ref p5])) nd3
      have E8 := ((E5.trans e6).trans e7).trans e8
      refine ⟨_, rfl, ka, _, 1, _, rfl, rfl, E8.bh.tup hka, atI_nat (j := 1) rfl, _, rfl, _, _, rfl, rfl, _, rfl, rb, _, rfl, E8.bh.seq hrb, fun d4 nd4 => ?_⟩
      have hcf : cutV rls (some ((sp : Int) + 1)) none = rls.drop (sp + 1) := by
        rw [show ((sp : Int) + 1) = ((sp + 1 : Nat) : Int) by omega, cut_from]
      rw [hcf]
      have e9 := Ext.new e8.w (.lst (rls.drop (sp + 1))) nd4
      refine ⟨d3, d4, _, _, rfl, rfl, e9.h _ _ upd_same, upd_same, ?_, fun d5 nd5 => ?_⟩
      · simp only [List.length_take, List.length_append, List.length_drop, List.length_cons, List.length_nil]
        exact Nat.le_of_lt (small1000 (by omega))
      have e10 := Ext.new e9.w (.lst (rls.take sp ++ [V.ref p5] ++ rls.drop (sp + 1))) nd5
      refine ⟨by show 2 ≤ sizeLine; decide, fun p6 np6 => ?_⟩
      have e11 := Ext.new e10.w (.tup [.int (c.n : Int), .ref d5]) np6
      have E11 := ((E8.trans e9).trans e10).trans e11
      have S11 := (((((S5.ext e6).ext e7).ext e8).ext e9).ext e10).ext e11
      have hb11 : Same B5 _ := ((((e6.b.trans e7.b).trans e8.b).trans e9.b).trans e10.b).trans e11.b
      have A : Alt c ⟨c.n, c.rs.take sp ++ (b2, w2) :: c.rs.drop (sp + 1)⟩ b b2 wy w2 (c.rs.take sp) (c.rs.drop (sp + 1)) := ⟨split_at hrail, rfl, rfl, how⟩
      have hck2 : CK K (upd (upd (upd (upd (upd (upd B5 d1 (.lst (rls.take sp))) d2 (.lst [V.ref p5])) d3 (.lst (rls.take sp ++ [V.ref p5]))) d4 (.lst (rls.drop (sp + 1)))) d5 (.lst (rls.take sp ++ [V.ref p5] ++ rls.drop (sp + 1)))) p6 (.tup [.int (c.n : Int), .ref d5])) (.ref p6) ⟨c.n, c.rs.take sp ++ (b2, w2) :: c.rs.drop (sp + 1)⟩ := by
        refine ⟨p6, _, rfl, SqT.of upd_same, d5, _, rfl, e11.b.seq (SqL.of upd_same), ?_⟩
        have h1 : Paired (RL K B5) (rls.take sp ++ [V.ref p5] ++ rls.drop (sp + 1)) (c.rs.take sp ++ [(b2, w2)] ++ c.rs.drop (sp + 1)) := paired_app (paired_app (paired_take sp hrls5) (.cons hb5 .nil)) (paired_drop (sp + 1) hrls5)
        rw [List.append_assoc (c.rs.take sp)] at h1
        exact Paired.mapP h1 fun _ _ h => h.mono hb11
      generalize (upd (upd (upd (upd (upd (upd B5 d1 (.lst (rls.take sp))) d2 (.lst [V.ref p5])) d3 (.lst (rls.take sp ++ [V.ref p5]))) d4 (.lst (rls.drop (sp + 1)))) d5 (.lst (rls.take sp ++ [V.ref p5] ++ rls.drop (sp + 1)))) p6 (.tup [.int (c.n : Int), .ref d5])) = B11 at E11 S11 hb11 hck2
      have hck11 := hck5.mono hb11
      have ok2 := A.ok ok
      generalize hc2 : (Clk.mk c.n (c.rs.take sp ++ (b2, w2) :: c.rs.drop (sp + 1))) = c2 at A hck2 ok2
      -- one, two
      have h0sa : Wo H sa sa = none := Wo.at
      refine ⟨_, rfl, by show 0 ≤ sizeLine; decide, fun z1 nz1 => ?_⟩
      have e12 := Ext.new E11.w (.lst []) nz1
      have E12 := E11.trans e12
      have S12 := S11.ext e12
      refine ⟨_, .ref ka, z1, c, [], e12.w, rfl, hck11.mono e12.b, ok, upd_same, fun x h => (by cases h), by simp, fun B13 H13 co1 lo1 q1' e13 hco1 hlo1 C13 hq1' => ?_⟩
      have X13 : SS K B (Wo H sa) sa co1 lo1 B13 H13 c (first c) q1' n5 := ⟨E12.trans e13, S12.ext e13, C13, E12.h.free hco1, E12.h.free hlo1, Ne.symm (S12.ne hco1), Ne.symm (S12.ne hlo1)⟩
      refine ⟨_, rfl, by show 0 ≤ sizeLine; decide, fun z2 nz2 => ?_⟩
      have e14 := Ext.new X13.e.w (.lst []) nz2
      have X14 := X13.ext e14
      refine ⟨_, .ref p6, z2, c2, [], e14.w, rfl, ((hck2.mono e12.b).mono e13.b).mono e14.b, ok2, upd_same, fun x h => (by cases h), by simp, fun B15 H15 co2 lo2 q2' e15 hco2 hlo2 C15 hq2' => ?_⟩
      have X15 := X14.ext e15
      have hh := X14.C.here
      have Y15 : P2S K B (Wo H sa) sa co1 lo1 co2 lo2 B15 H15 c (first c) c2 (first c2) 8 n5 := by
        refine ⟨⟨q1', hq1', X15⟩, ⟨q2', hq2', ⟨X14.e.trans e15, X14.S.ext e15, C15, X14.e.h.free hco2, X14.e.h.free hlo2, Ne.symm (X14.S.ne hco2), Ne.symm (X14.S.ne hlo2)⟩⟩, ?_, ?_, ?_, ?_⟩
        · exact fun z => hh.1 (by rw [z]; exact hco2)
        · exact fun z => hh.1 (by rw [z]; exact hlo2)
        · exact fun z => hh.2 (by rw [z]; exact hco2)
        · exact fun z => hh.2 (by rw [z]; exact hlo2)
      refine ⟨_, _, rfl, ?_⟩
      have hckc : CK K B15 (.ref ka) c := (((hck11.mono e12.b).mono e13.b).mono e14.b).mono e15.b
      have hckd : CK K B15 (.ref p6) c2 := (((hck2.mono e12.b).mono e13.b).mono e14.b).mono e15.b
      have htlen : ∀ k : Clk, k.Ok → ("parts " : Str).length + (clockT k).length ≤ sizeLine := fun kk hk => by
        have h1 := join_len (clockW kk) 4 (clockW_len hk)
        have h2 : (clockW kk).length * 5 ≤ 4 * 5 := Nat.mul_le_mul_right 5 (clockW_count hk)
        rw [show ("parts " : Str).length = 6 by decide +kernel]
        exact Nat.le_of_lt (small1000 (by unfold clockT; omega))
      obtain ⟨hsym, hnon, hsom⟩ := A.part ok
      -- told
      obtain ⟨⟨qa, hqa, Xa⟩, _, _, _, _, _⟩ := id Y15
      obtain ⟨xa, ua, ia, _⟩ := Xa.C.ex
      refine ⟨_, rfl, co1, _, _, rfl, ia, rfl, _, rfl, B15, _, Xa.e.w, ⟨.ref p6, c2, rfl, hckd, ok2, rfl⟩, fun B16 H16 v16 e16 hv16 => ?_⟩
      subst hv16
      have Y16 := Y15.ext e16
      have Xa16 := Xa.ext e16
      refine ⟨_, _, rfl, rfl, htlen c2 ok2, B16, co1, lo1, c, first c, qa, .parts c2, Xa16.e.w, congrArg (fun z : Str => [V.ref co1, V.str z]) (text_parts c2), Xa16.C, by omega, ⟨ok2, A.n.symm, A.len⟩, fun B17 H17 lo17 q17 a17 fr17 hlo17 hq17 C17 ha17 => ?_⟩
      obtain rfl : a17 = optT (unl c.rs c2.rs 1) := ha17
      have Y17 : P2S K B (Wo H sa) sa co1 lo17 co2 lo2 B17 H17 c (first c) c2 (first c2) 9 n5 := Y16.step hqa fr17 hlo17 hq17 C17
      have hb17 : Same B15 B17 := e16.b.trans fr17.b
      -- the own clock
      obtain ⟨⟨qb, hqb, Xb⟩, _, _, _, _, _⟩ := id Y17
      obtain ⟨xb, ub, ib, _⟩ := Xb.C.ex
      refine ⟨_, rfl, co1, _, _, rfl, ib, rfl, _, rfl, B17, _, Xb.e.w, ⟨.ref ka, c, rfl, hckc.mono hb17, ok, rfl⟩, fun B18 H18 v18 e18 hv18 => ?_⟩
      subst hv18
      have Y18 := Y17.ext e18
      have Xb18 := Xb.ext e18
      refine ⟨_, _, rfl, rfl, htlen c ok, B18, co1, lo17, c, first c, qb, .parts c, Xb18.e.w, congrArg (fun z : Str => [V.ref co1, V.str z]) (text_parts c), Xb18.C, by omega, ⟨ok, rfl, rfl⟩, fun B19 H19 lo19 q19 a19 fr19 hlo19 hq19 C19 ha19 => ?_⟩
      obtain rfl : a19 = optT (unl c.rs c.rs 1) := ha19
      have Y19 : P2S K B (Wo H sa) sa co1 lo19 co2 lo2 B19 H19 c (first c) c2 (first c2) 10 n5 := Y18.step hqb fr19 hlo19 hq19 C19
      have hb19 : Same B17 B19 := e18.b.trans fr19.b
      refine ⟨rfl, _, rfl, iteBF (by rw [unl_same]; decide +kernel) ?_⟩
      -- the other's
      obtain ⟨_, ⟨qc, hqc, Xc⟩, _, _, _, _⟩ := id Y19
      obtain ⟨xc, uc, ic, _⟩ := Xc.C.ex
      refine ⟨_, rfl, co2, _, _, rfl, ic, rfl, _, rfl, B19, _, Xc.e.w, ⟨.ref ka, c, rfl, (hckc.mono hb17).mono hb19, ok, rfl⟩, fun B20 H20 v20 e20 hv20 => ?_⟩
      subst hv20
      have Y20 := Y19.ext e20
      have Xc20 := Xc.ext e20
      refine ⟨_, _, rfl, rfl, htlen c ok, B20, co2, lo2, c2, first c2, qc, .parts c, Xc20.e.w, congrArg (fun z : Str => [V.ref co2, V.str z]) (text_parts c), Xc20.C, by omega, ⟨ok, A.n, A.len.symm⟩, fun B21 H21 lo21 q21 a21 fr21 hlo21 hq21 C21 ha21 => ?_⟩
      obtain rfl : a21 = optT (unl c2.rs c.rs 1) := ha21
      have Y21 : P2S K B (Wo H sa) sa co1 lo19 co2 lo21 B21 H21 c (first c) c2 (first c2) 11 n5 := (Y20.sym.step hqc fr21 hlo21 hq21 C21).sym
      refine ⟨_, rfl, rfl, _, rfl, iteBF (by rw [hsym]; simp) ?_⟩
      have hp21 : B21 p5 = some (.tup [.int (b2 : Int), .str (wayS w2)]) := fr21.b _ _ (e20.b _ _ (hb19 _ _ (hb17 _ _ (e15.b _ _ (e14.b _ _ (e13.b _ _ (e12.b _ _ (hb11 _ _ hp5))))))))
      have fin : ∀ B' H' co1' lo1' co2' lo2' s1' s2' q', P2S K B (Wo H sa) sa co1' lo1' co2' lo2' B' H' c s1' c2 s2' q' n5 → Q (.bl true) H' := fun B' H' _ _ _ _ _ _ _ Y => by
        obtain ⟨⟨_, _, X⟩, _⟩ := Y
        exact k B' H' n5 X.e X.S (by omega)
      cases hun : unl c.rs c2.rs 1 with
      | none =>
        refine ⟨_, rfl, rfl, _, rfl, iteB (by decide +kernel) ?_⟩
        obtain ⟨⟨qd, hqd, Xd⟩, _⟩ := id Y21
        refine ⟨_, rfl, p5, _, 0, _, rfl, rfl, SqT.of (Xd.e.w _ _ hp21), atI_nat (j := 0) rfl, rfl, _, rfl, ?_⟩
        have hq21 : Q (.bl true) H21 := fin _ _ _ _ _ _ _ _ _ Y21
        by_cases hb : b2 = 2
        · have h2 : decide (V.int ((b2 : Nat) : Int) = V.int 2) = true := decide_eq_true (by rw [hb]; rfl)
          rw [if_pos h2]
          exact hq21
        · have h2 : ¬ decide (V.int ((b2 : Nat) : Int) = V.int 2) = true := fun z => hb (by have := V.int.inj (of_decide_eq_true z); omega)
          rw [if_neg h2]
          have hb' : b = 2 := (hnon hun).resolve_left hb
          refine ⟨_, rfl, rfl, ?_⟩
          show Q (.bl (decide (V.int ((b : Nat) : Int) = V.int 2))) H21
          rw [show decide (V.int ((b : Nat) : Int) = V.int 2) = true from decide_eq_true (by rw [hb']; rfl)]
          exact hq21
      | some t =>
        obtain ⟨ht1, htb, hsame, hdiff⟩ := hsom t hun
        have hbig : (200000 : Nat) < 10 ^ 30 := by decide
        have hdt : (dg t).length ≤ 30 := dg_len (by decide) (by omega)
        have hti : intText? (dg t) = some (t : Int) := dg_int (by omega)
        have hdt640 : (optT (some t)).length ≤ 640 := by show (dg t).length ≤ 640; omega
        have hdn : dg t ≠ "none" := fun e => by
          have : 110 ∉ (dg t).cps.toList := dg_free (.inr (by decide))
          rw [e] at this
          exact this (by decide +kernel)
        refine ⟨_, rfl, rfl, _, rfl, iteBF (decide_eq_false fun e => hdn (V.str.inj e)) ?_⟩
        refine ⟨_, rfl, _, _, rfl, hti, hdt640, _, _, rfl, rfl, _, rfl, ?_⟩
        apply join2o (Hy := fun (_ : Option V) H22 => ∃ (B22 : Hp) (l1 l2 : Addr) (q : Nat), q ≤ 40 ∧ P2S K B (Wo H sa) sa co1 l1 co2 l2 B22 H22 c (stepN c.rs (t - 1) (first c)) c2 (stepN c2.rs (t - 1) (first c2)) q n5)
        case main =>
          intro tail
          by_cases h1 : 1 < t
          · refine iteB (decide_eq_true (by omega)) ?_
            have ht30 : t - 1 < 10 ^ 30 := by omega
            have hcast : (t : Int) - 1 = ((t - 1 : Nat) : Int) := by omega
            have hdr : (toString ((t : Int) - 1) : Str).length ≤ 30 := by rw [hcast]; exact (dg_len (by decide) ht30 : (dg (t - 1)).length ≤ 30)
            have htx : ("run " : Str) ++ (toString ((t : Int) - 1) : Str) = (Cmd.run (t - 1)).text := by rw [hcast]; exact text_run (t - 1)
            obtain ⟨⟨qd, hqd, Xd⟩, _⟩ := id Y21
            refine ⟨_, rfl, _, rfl, by show 2 ≤ sizeLine; decide, fun p7 np7 => ?_⟩
            have e22 := Ext.new Xd.e.w (.tup [.ref co1, .ref co2]) np7
            refine ⟨p7, rfl, ⟨_, SqT.of upd_same⟩, for_it (walk_tup [.ref co1, .ref co2]) (fun i σ' H' => ∃ (Bi : Hp) (l1 l2 : Addr) (v10 : Option V), σ' = [some (.ref sa), some (.ref ka), some (.int (sp : Int)), some (.int (b : Int)), some (.str (wayS wy)), some (.ref p5), some (.ref p6), some (.ref co1), some (.ref co2), some (.str (optT (some t))), v10] ∧ Bi p7 = some (.tup [.ref co1, .ref co2]) ∧ P2S K B (Wo H sa) sa co1 l1 co2 l2 Bi H' c (if 1 ≤ i then stepN c.rs (t - 1) (first c) else first c) c2 (if 2 ≤ i then stepN c2.rs (t - 1) (first c2) else first c2) (20 + i) n5)
              ⟨upd B21 p7 (.tup [.ref co1, .ref co2]), lo19, lo21, none, rfl, upd_same, ?_⟩ (fun i σ' H' _ ⟨Bi, _, _, _, _, hp7, Y⟩ => by obtain ⟨⟨_, _, X⟩, _⟩ := Y; exact SqT.of (X.e.w _ _ hp7)) ?_ ?_⟩
            · have Y22 := Y21.ext e22
              rw [if_neg (by decide), if_neg (by decide)]
              obtain ⟨⟨u1, v1, x1⟩, ⟨u2, v2, x2⟩, y1, y2, y3, y4⟩ := Y22
              exact ⟨⟨u1, by omega, x1⟩, ⟨u2, by omega, x2⟩, y1, y2, y3, y4⟩
            · rintro i y σ' H23 H23' hi ⟨B23, l1, l2, v10, rfl, hp7, Y23⟩ ⟨rfl, hy⟩
              match i, hi with
              | 0, _ =>
                have hy' : V.ref co1 = y := by simpa using hy
                subst hy'
                rw [if_neg (by decide), if_neg (by decide)] at Y23
                obtain ⟨⟨qe, hqe, Xe⟩, _⟩ := id Y23
                obtain ⟨xe, ue, ie, _⟩ := Xe.C.ex
                refine ⟨_, rfl, co1, _, _, rfl, ie, rfl, _, rfl, _, _, rfl, hti, hdt640, _, _, rfl, rfl, _, rfl, by rw [hcast]; exact log_small (lt30 ht30) (by decide) (by decide), _, _, rfl, rfl, Nat.le_of_lt (small1000 (by rw [show ("run " : Str).length = 4 by decide +kernel]; omega)), B23, co1, l1, c, _, qe, .run (t - 1), Xe.e.w, congrArg (fun z : Str => [V.ref co1, V.str z]) htx, Xe.C, by omega, ⟨by omega, ht30⟩, fun B24 H24 lo24 q24 a24 fr24 hlo24 hq24 C24 ha24 => ?_⟩
                have Y24 := Y23.step hqe fr24 hlo24 hq24 C24
                refine ⟨B24, lo24, l2, some (.ref co1), rfl, fr24.b _ _ hp7, ?_⟩
                rw [if_pos (by decide), if_neg (by decide)]
                exact Y24
              | 1, _ =>
                have hy' : V.ref co2 = y := by simpa using hy
                subst hy'
                rw [if_pos (by decide), if_neg (by decide)] at Y23
                obtain ⟨⟨qe, hqe, Xe⟩, _⟩ := id Y23.sym
                obtain ⟨xe, ue, ie, _⟩ := Xe.C.ex
                refine ⟨_, rfl, co2, _, _, rfl, ie, rfl, _, rfl, _, _, rfl, hti, hdt640, _, _, rfl, rfl, _, rfl, by rw [hcast]; exact log_small (lt30 ht30) (by decide) (by decide), _, _, rfl, rfl, Nat.le_of_lt (small1000 (by rw [show ("run " : Str).length = 4 by decide +kernel]; omega)), B23, co2, l2, c2, _, qe, .run (t - 1), Xe.e.w, congrArg (fun z : Str => [V.ref co2, V.str z]) htx, Xe.C, by omega, ⟨by omega, ht30⟩, fun B24 H24 lo24 q24 a24 fr24 hlo24 hq24 C24 ha24 => ?_⟩
                have Y24 := (Y23.sym.step hqe fr24 hlo24 hq24 C24).sym
                refine ⟨B24, l1, lo24, some (.ref co2), rfl, fr24.b _ _ hp7, ?_⟩
                rw [if_pos (by decide), if_pos (by decide)]
                exact Y24
            · rintro σ' H23 ⟨B23, l1, l2, v10, rfl, hp7, Y23⟩
              rw [if_pos (show 1 ≤ [V.ref co1, V.ref co2].length from Nat.le_succ 1), if_pos (show 2 ≤ [V.ref co1, V.ref co2].length from Nat.le_refl 2)] at Y23
              obtain ⟨⟨qe, hqe, Xe⟩, _⟩ := id Y23
              obtain ⟨xe, ue, ie, _⟩ := Xe.C.ex
              refine ⟨_, rfl, co1, _, _, rfl, ie, rfl, B23, co1, l1, c, _, qe, .sight, Xe.e.w, rfl, Xe.C, by have : qe ≤ 22 := hqe; omega, trivial, fun B24 H24 lo24 q24 a24 fr24 hlo24 hq24 C24 ha24 => ?_⟩
              obtain rfl : a24 = sightT (stepN c.rs (t - 1) (first c)) := ha24
              have Y24 : P2S K B (Wo H sa) sa co1 lo24 co2 l2 B24 H24 c (stepN c.rs (t - 1) (first c)) c2 (stepN c2.rs (t - 1) (first c2)) 23 n5 := Y23.step hqe fr24 hlo24 hq24 C24
              obtain ⟨⟨qf, hqf, Xf⟩, _⟩ := id Y24.sym
              obtain ⟨xf, uf, jf, _⟩ := Xf.C.ex
              refine ⟨_, rfl, co2, _, _, rfl, jf, rfl, B24, co2, l2, c2, _, qf, .sight, Xf.e.w, rfl, Xf.C, by omega, trivial, fun B25 H25 lo25 q25 a25 fr25 hlo25 hq25 C25 ha25 => ?_⟩
              obtain rfl : a25 = sightT (stepN c2.rs (t - 1) (first c2)) := ha25
              have Y25 : P2S K B (Wo H sa) sa co1 lo24 co2 lo25 B25 H25 c (stepN c.rs (t - 1) (first c)) c2 (stepN c2.rs (t - 1) (first c2)) 24 n5 := (Y24.sym.step hqf fr25 hlo25 hq25 C25).sym
              refine ⟨rfl, _, rfl, iteBF (by rw [hsame]; simp) ?_⟩
              exact tail v10 H25 ⟨B25, lo24, lo25, 24, by omega, Y25⟩
          · refine iteBF (decide_eq_false (by omega)) ?_
            have e0 : t - 1 = 0 := by omega
            refine tail none H21 ⟨B21, lo19, lo21, 11, by omega, ?_⟩
            rw [e0]
            exact Y21
        case tail =>
          rintro v10 H22 ⟨B22, l1, l2, q22, hq22, Y22⟩
          refine ⟨_, rfl, _, rfl, by show 2 ≤ sizeLine; decide, fun p7 np7 => ?_⟩
          obtain ⟨⟨_, _, Xd⟩, _⟩ := id Y22
          have e23 := Ext.new Xd.e.w (.tup [.ref co1, .ref co2]) np7
          refine ⟨p7, rfl, ⟨_, SqT.of upd_same⟩, for_it (walk_tup [.ref co1, .ref co2]) (fun i σ' H' => ∃ (Bi : Hp) (l1 l2 : Addr) (v10 : Option V), σ' = [some (.ref sa), some (.ref ka), some (.int (sp : Int)), some (.int (b : Int)), some (.str (wayS wy)), some (.ref p5), some (.ref p6), some (.ref co1), some (.ref co2), some (.str (optT (some t))), v10] ∧ Bi p7 = some (.tup [.ref co1, .ref co2]) ∧ P2S K B (Wo H sa) sa co1 l1 co2 l2 Bi H' c (if 1 ≤ i then stepN c.rs t (first c) else stepN c.rs (t - 1) (first c)) c2 (if 2 ≤ i then stepN c2.rs t (first c2) else stepN c2.rs (t - 1) (first c2)) (50 + i) n5)
            ⟨upd B22 p7 (.tup [.ref co1, .ref co2]), l1, l2, v10, rfl, upd_same, ?_⟩ (fun i σ' H' _ ⟨Bi, _, _, _, _, hp7, Y⟩ => by obtain ⟨⟨_, _, X⟩, _⟩ := Y; exact SqT.of (X.e.w _ _ hp7)) ?_ ?_⟩
          · have Y23 := Y22.ext e23
            rw [if_neg (by decide), if_neg (by decide)]
            obtain ⟨⟨u1, v1, x1⟩, ⟨u2, v2, x2⟩, y1, y2, y3, y4⟩ := Y23
            exact ⟨⟨u1, by omega, x1⟩, ⟨u2, by omega, x2⟩, y1, y2, y3, y4⟩
          · rintro i y σ' H23 H23' hi ⟨B23, l1, l2, v10, rfl, hp7, Y23⟩ ⟨rfl, hy⟩
            have hone : ∀ (k : Clk), Cmd.sg .tick k (stepN k.rs (t - 1) (first k)) = stepN k.rs t (first k) := fun k => by
              show stepN k.rs 1 (stepN k.rs (t - 1) (first k)) = _
              rw [← stepN_add]
              congr 1
              omega
            match i, hi with
            | 0, _ =>
              have hy' : V.ref co1 = y := by simpa using hy
              subst hy'
              rw [if_neg (by decide), if_neg (by decide)] at Y23
              obtain ⟨⟨qe, hqe, Xe⟩, _⟩ := id Y23
              obtain ⟨xe, ue, ie, _⟩ := Xe.C.ex
              refine ⟨_, rfl, co1, _, _, rfl, ie, rfl, B23, co1, l1, c, _, qe, .tick, Xe.e.w, rfl, Xe.C, by omega, trivial, fun B24 H24 lo24 q24 a24 fr24 hlo24 hq24 C24 ha24 => ?_⟩
              rw [hone] at C24
              have Y24 := Y23.step hqe fr24 hlo24 hq24 C24
              refine ⟨B24, lo24, l2, some (.ref co1), rfl, fr24.b _ _ hp7, ?_⟩
              rw [if_pos (by decide), if_neg (by decide)]
              exact Y24
            | 1, _ =>
              have hy' : V.ref co2 = y := by simpa using hy
              subst hy'
              rw [if_pos (by decide), if_neg (by decide)] at Y23
              obtain ⟨⟨qe, hqe, Xe⟩, _⟩ := id Y23.sym
              obtain ⟨xe, ue, ie, _⟩ := Xe.C.ex
              refine ⟨_, rfl, co2, _, _, rfl, ie, rfl, B23, co2, l2, c2, _, qe, .tick, Xe.e.w, rfl, Xe.C, by omega, trivial, fun B24 H24 lo24 q24 a24 fr24 hlo24 hq24 C24 ha24 => ?_⟩
              rw [hone] at C24
              have Y24 := (Y23.sym.step hqe fr24 hlo24 hq24 C24).sym
              refine ⟨B24, l1, lo24, some (.ref co2), rfl, fr24.b _ _ hp7, ?_⟩
              rw [if_pos (by decide), if_pos (by decide)]
              exact Y24
          · rintro σ' H23 ⟨B23, l1, l2, v10, rfl, hp7, Y23⟩
            rw [if_pos (show 1 ≤ [V.ref co1, V.ref co2].length from Nat.le_succ 1), if_pos (show 2 ≤ [V.ref co1, V.ref co2].length from Nat.le_refl 2)] at Y23
            obtain ⟨⟨qe, hqe, Xe⟩, _⟩ := id Y23
            obtain ⟨xe, ue, ie, _⟩ := Xe.C.ex
            refine ⟨_, rfl, co1, _, _, rfl, ie, rfl, B23, co1, l1, c, _, qe, .sight, Xe.e.w, rfl, Xe.C, by have : qe ≤ 52 := hqe; omega, trivial, fun B24 H24 lo24 q24 a24 fr24 hlo24 hq24 C24 ha24 => ?_⟩
            obtain rfl : a24 = sightT (stepN c.rs t (first c)) := ha24
            have Y24 : P2S K B (Wo H sa) sa co1 lo24 co2 l2 B24 H24 c (stepN c.rs t (first c)) c2 (stepN c2.rs t (first c2)) 53 n5 := Y23.step hqe fr24 hlo24 hq24 C24
            obtain ⟨⟨qf, hqf, Xf⟩, _⟩ := id Y24.sym
            obtain ⟨xf, uf, jf, _⟩ := Xf.C.ex
            refine ⟨_, rfl, co2, _, _, rfl, jf, rfl, B24, co2, l2, c2, _, qf, .sight, Xf.e.w, rfl, Xf.C, by omega, trivial, fun B25 H25 lo25 q25 a25 fr25 hlo25 hq25 C25 ha25 => ?_⟩
            obtain rfl : a25 = sightT (stepN c2.rs t (first c2)) := ha25
            have Y25 : P2S K B (Wo H sa) sa co1 lo24 co2 lo25 B25 H25 c (stepN c.rs t (first c)) c2 (stepN c2.rs t (first c2)) 54 n5 := (Y24.sym.step hqf fr25 hlo25 hq25 C25).sym
            have hfin := fin _ _ _ _ _ _ _ _ _ Y25
            have hne : sightT (stepN c.rs t (first c)) ≠ sightT (stepN c2.rs t (first c2)) := fun e => hdiff (sightT_inj (VS.head ok (stepN_vs ok t (first_vs ok))) (VS.head ok2 (stepN_vs ok2 t (first_vs ok2))) e)
            refine ⟨rfl, ?_⟩
            simpa [hne] using hfin
end
end BH
end
section
set_option Elab.async false
set_option linter.all false
set_option maxRecDepth 100000
set_option maxHeartbeats 4000000
namespace BH
open PySem PySem.Spec PyProof.Rows L2 BM
section
variable {P : Program} {w : World} {K : PySem.W.Frag} {mg : Str → Option Value}
def sp_law (K : PySem.W.Frag) : Sp := fun vs H Q _ => ∃ (sc : Addr) (xs : List Int), vs = [.ref sc] ∧ SqL K H sc (xs.map V.int) ∧ xs.length ≤ 63 ∧ ∀ H', Q (.bl true) H'
theorem law_binds {fd : FuncData} {f : Addr} (F : Fun K "law" "law" s_law f fd) (s : Shared) (u : Value) : BindsTo s fd ⟨[u], []⟩ [("_law_script", u)] := by
  obtain ⟨oc, od, kV, doc, pm, an, cdv, ct, osl, rfl, _, _⟩ := F.ex
  exact .of_eq rfl
theorem c_law (T : Txt w K mg) {fd : FuncData} (F : Fun K "law" "law" s_law (He.ga K "law") fd) (base : Heap) : FnOk P w K mg base CX0 21 (He.ga K "law") fd ["_law_script"] (sp_law K) := by
  refine F.ok sc_law (fun vs H Q E h => ?_) (fun cdv A outer s0 H vs Q E hr h => ?_)
  · obtain ⟨sc, xs, rfl, _⟩ := h; rfl
  · obtain ⟨sc, xs, rfl, hsc, hl, k⟩ := h
    refine ⟨_, (pss_cons (ps_set (i := 1) sc_law.nd rfl (.inl rfl) (pc (c_law_stock T) hr (pa_cons (pv 0) pa_nil)))
      (pss_cons (ps_for PassesOwn.never rfl (pi_range1 rfl T.b_range (pa_cons pe_int pa_nil)) (pg_name (i := 2) sc_law.nd rfl (.inl rfl))
      (pss_cons (ps_set (i := 3) sc_law.nd rfl (.inl rfl) (pc (c_law_kind T) hr (pa_cons (pv 1) (pa_cons pe_int (pa_cons pe_int (pa_cons pe_int pa_nil))))))
      (pss_cons (ps_set (i := 4) sc_law.nd rfl (.inl rfl) (pc (c_law_console T) hr (pa_cons (pv 3) (pa_cons (pc (c_law_texts T) hr (pa_cons (pv 1) (pa_cons (pv 3) (pa_cons (pc (c_law_draw T) hr (pa_cons (pv 1) (pa_cons pe_int pa_nil))) pa_nil)))) pa_nil))))
      (pss_cons (ps_if (PW.pt (pw_or (pt_not (pt_val (pc (c_law_again_right T) hr (pa_cons (pv 3) (pa_cons (pv 4) pa_nil))))) (pw_or1 (pt_not (pt_val (pc (c_law_spots_right T) hr (pa_cons (pv 1) (pa_cons (pv 3) pa_nil)))))))) (pss_one (ps_ret pe_bl)) pss_nil)
      (pss_one (ps_if (pt_not (pt_val (pc (c_law_parts_right T) hr (pa_cons (pv 1) (pa_cons (pv 3) pa_nil))))) (pss_one (ps_ret pe_bl)) pss_nil))))))
      (pss_one (ps_ret pe_bl)))), ?_⟩
    -- stock
    refine ⟨_, rfl, H, sc, xs, Same.refl _, rfl, hsc, hl, fun B1 H1 sa e1 nsa S1 => ?_⟩
    refine ⟨_, rfl, by omega, by omega, ?_⟩
    rw [show (4 : Int).toNat = 4 from rfl]
    refine for_it (walk_rng 4) (fun i σ' H' => ∃ (Bi : Hp) (n : Nat) (v2 v3 v4 : Option V), σ' = [some (.ref sc), some (.ref sa), v2, v3, v4] ∧ Same Bi H' ∧ STK Bi H' sa n ∧ n ≤ 100 * i)
      ⟨B1, 0, none, none, none, rfl, e1.w, S1, by omega⟩ (fun i σ' H' _ _ => trivial) ?_ ?_
    · rintro i y σ' H2 H2' hi ⟨B2, n2, v2, v3, v4, rfl, hB2, S2, hn2⟩ ⟨rfl, rfl⟩
      -- kind
      refine ⟨_, rfl, B2, sa, n2, hB2, rfl, S2, by omega, fun B3 H3 kv c n3 e3 S3 hn3 hck ok h18 => ?_⟩
      -- texts, console
      refine ⟨_, rfl, _, rfl, _, rfl, _, rfl, B3, sa, n3, 8, e3.w, rfl, S3, by omega, by decide, by decide, fun B4 H4 r e4 S4 hr => ?_⟩
      refine ⟨B4, sa, n3 + 1, r, kv, c, e4.w, rfl, S4, by omega, hck.mono e4.b, ok, by omega, fun B5 H5 ta cmds n5 e5 S5 hn5 hta hmv hcl => ?_⟩
      have hck5 := (hck.mono e4.b).mono e5.b
      refine ⟨B5, kv, ta, c, cmds, e5.w, rfl, hck5, ok, hta, hmv, hcl, fun B6 H6 co lo q e6 hco hlo C6 hq => ?_⟩
      have hck6 := hck5.mono e6.b
      have S6 := S5.ext e6
      have nco : sa ≠ co := Ne.symm (S5.ne hco)
      have nlo : sa ≠ lo := Ne.symm (S5.ne hlo)
      -- again
      refine ⟨_, rfl, _, rfl, B6, kv, co, lo, c, _, q, e6.w, rfl, hck6, h18, C6, by omega, fun B7 H7 fr7 => ?_⟩
      have S7 := S6.fr nco nlo fr7
      have hck7 := hck6.mono fr7.b
      refine ⟨_, rfl, ?_⟩
      -- spots
      refine ⟨_, rfl, _, rfl, B7, sa, n5, kv, c, fr7.w, rfl, S7, by omega, hck7, ok, fun B8 H8 n8 e8 S8 hn8 => ?_⟩
      have hck8 := hck7.mono e8.b
      refine ⟨_, rfl, ?_⟩
      -- parts
      refine ⟨_, rfl, _, rfl, B8, sa, n8, kv, c, e8.w, rfl, S8, by omega, hck8, ok, fun B9 H9 n9 e9 S9 hn9 => ?_⟩
      exact ⟨_, rfl, B9, n9, _, _, _, rfl, e9.w, S9, by omega⟩
    · rintro σ' H2 ⟨B2, n2, v2, v3, v4, rfl, hB2, S2, hn2⟩
      exact k _
end
end BH
end
section
set_option Elab.async false
set_option linter.all false
set_option maxRecDepth 100000
set_option maxHeartbeats 0
open PySem PySem.W PySem.Calls PyProof.Rows
theorem PySem.Challenge.cw_ballhours_k77_whole_consoles_and_functio_holds : PySem.Challenge.rw_ballhours_k77_whole_consoles_and_functio.Holds := by
  w_on; o_law
  refine HandSHeadRun.head_any (r := OpenLaw.row PySem.Challenge.rw_ballhours_k77_whole_consoles_and_functio) (q := view (OpenLaw.row PySem.Challenge.rw_ballhours_k77_whole_consoles_and_functio).prog [106]) (H := BH.hook) (ob := BH.ob) (M := 9000) (loose := BH.loose) (d := HandSHeadRun.topDef (OpenLaw.row PySem.Challenge.rw_ballhours_k77_whole_consoles_and_functio).prog 106) (kwd := []) BH.ob_eq
    (by kernel_rfl) (fun s => by kernel_rfl) BH.run (by kernel_rfl) (by kernel_rfl) (by kernel_rfl) (by rfl) (by first | assumption | decide +kernel) (by decide +kernel) ⟨rfl, rfl, rfl, rfl, rfl, by decide +kernel⟩ ?hw ?hc
  case hw => w_witness2
  case hc =>
    refine L2.walk_ofE (l := PySem.Challenge.rw_ballhours_k77_whole_consoles_and_functio) (n := 63) (k := 21) (x := "_law_script") (CX := L2.CX0) rfl (by decide) (by kernel_rfl) ⟨rfl, by decide, by decide⟩ ?F (fun _ _ _ _ z => z)
    intro w mg fa h Y G hmg0
    obtain ⟨K, KX, c⟩ := Y
    have hmg : mg ("law" : PySem.Str) = some (.ref fa) := by
      have e : (HandSHeadRun.topDef (OpenLaw.row PySem.Challenge.rw_ballhours_k77_whole_consoles_and_functio).prog 106).name = ("law" : PySem.Str) := by kernel_rfl
      rw [← e]
      exact hmg0
    have T : BH.Txt w K mg := BH.Says.txt KX G c
    have e := hmg.symm.trans T.g_law
    cases e
    obtain ⟨fd, F⟩ := T.f_law
    exact ⟨K, fd, BH.sp_law K, KX, fun s u => BH.law_binds F s u, fun H a ns hl _ hS => ⟨a, ns, rfl, hS, hl, fun _ => rfl⟩, fun base _ _ => BH.c_law T F base⟩
end
