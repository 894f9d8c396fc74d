import PyProof.Rows.All
import Wide.All
import OpenK.AllK
import Wide.FinOn
import HandS.Codes
import HandS.Property
import KE.KStateDown
import HandS.Head0
import HandS.Head1
import HandS.Head2
import HandS.HeadEnd
import HandS.HeadHook1
import HandS.HeadHook2
import PySem.Challenge.RW_owntimes_k50_whole_none_more_for_any_tim
import Lean
import HandS.ForMost
import HandS.Star
import HandS.Style
import HandS.Flow
import HandS.Defaults
import HandS.MakeKwOnly
import HandS.DictComp
import HandS.Zip
import HandS.Conv
import HandS.IsInst
import HandS.WideBits
import HandS.TupAny
import HandS.Small
import KE.GoesEnum
import KE.GoesMore
import HandS.Spec
import KE.DataAny
import HandS.Sort
import OpenK.KOps
import KE.KeyNested
import PyProof.DictRoadsH
import HandS.DictTup
import KE.KDictDisplayH
import KE.DataMinMax
import PyProof.DictWalks
import PyProof.Rows.CallKwBuiltin
import HandS.SortKw
import KE.KDictKeyed
/-! text Tx -/
set_option Elab.async false
set_option linter.all false
set_option maxRecDepth 100000
set_option maxHeartbeats 2000000
/-! Tx: the defs of the text as data; what the head tells of them. -/
namespace Sd
abbrev Fg := PySem.W.Frag
end Sd
namespace Tx
open PySem PySem.Spec PyProof.Rows L2 Sd C8
def top (i : Nat) : Stmt := PySem.Challenge.pw_owntimes_k50_whole_none_more_for_any_tim.main.body.getD i (.Pass ⟨0, 0, 0, 0⟩)
def meth (i j : Nat) : Stmt := (clsBody (top i)).getD j (.Pass ⟨0, 0, 0, 0⟩)
/-- the getter of the property f of the class at C -/
def gt (K : Fg) (C : Addr) (f : Str) : Addr := match PySem.W.recIn K (He.ma K C f) "property" with
  | some (.ref g :: _) => g
  | _ => 0
structure DefY where
  at_ : Fg → Addr
  name : Str
  qual : Str
  params : Arguments
  body : List Stmt
  scope : Scope
  dfl : List He.Dv
  kwd : List (Str × He.Dv)
def fnY (K : Fg) (a : Addr) : He.FnW := match K.lookup a with
  | some ⟨_, _, .func fd, _⟩ => some (fd.name, fd.qualname, fd.params, fd.body, fd.scope, fd.globals, fd.closure, fd.builtins)
  | _ => none
def DefY.val (d : DefY) : He.FnW := some (d.name, d.qual, d.params, .stmts d.body, d.scope, mainGlobals, [], builtinsNs)
def DefY.dvs (K : Fg) (d : DefY) : List V := d.dfl.map (He.Dv.v K)
def DefY.kws (K : Fg) (d : DefY) : List (Str × V) := d.kwd.map fun q => (q.1, q.2.v K)
def DefY.ok (K : Fg) (d : DefY) : Bool := PySem.W.keepIn K (.ref (d.at_ K)) && (match K.lookup (d.at_ K) with
  | some ⟨_, _, .func fd, _⟩ => PySem.W.codeIn K fd.code d.qual && (He.dflB K fd.defaults (d.dvs K) && He.kwdB K fd.kwdefaults (d.kws K))
  | _ => false)
theorem DefY.funD {K : Fg} {d : DefY} (e : fnY K (d.at_ K) = d.val) (c : d.ok K = true) : ∃ fd, FunD K d.name d.qual d.params d.body d.scope (d.dvs K) (d.kws K) (d.at_ K) fd := by
  obtain ⟨kp, c2⟩ := He.ba c
  unfold fnY at e
  cases q : K.lookup (d.at_ K) with
  | none => rw [q] at c2; cases c2
  | some o =>
    obtain ⟨oc, od, dt, osl⟩ := o
    rw [q] at c2 e
    cases dt with
    | func fd =>
      obtain ⟨n1, n2, n3, n4, n5, n6, n7, n8, n9, n10, n11, n12, n13, n14, n15⟩ := fd
      have e2 : (some (n1, n2, n3, n4, n5, n6, n7, n15) : He.FnW) = some (d.name, d.qual, d.params, .stmts d.body, d.scope, mainGlobals, [], builtinsNs) := e
      simp only [Option.some.injEq, Prod.mk.injEq] at e2
      obtain ⟨g1, g2, g3, g4, g5, g6, g7, g8⟩ := e2
      subst g1 g2 g3 g4 g5 g6 g7 g8
      have c3 : (PySem.W.codeIn K n13 d.qual && (He.dflB K n8 (d.dvs K) && He.kwdB K n9 (d.kws K))) = true := c2
      obtain ⟨y1, y2⟩ := He.ba c3
      obtain ⟨y3, y4⟩ := He.ba y2
      exact ⟨_, ⟨oc, od, n8, n9, n10, n11, n12, n13, n14, osl, rfl, q, y1, He.dflB_ok y3, He.kwdB_ok y4⟩, kp⟩
    | _ => cases c2
/-- f is a property of the class x -/
def prB (K : Fg) (x f : Str) : Bool := He.eqO (PySem.W.findIn K (.ref (He.ga K x)) f) (some (some (.ref (He.ma K (He.ga K x) f)))) &&
  (He.eqO (PySem.W.specialIn K (.ref (He.ma K (He.ga K x) f)) "__get__") (some (some (.builtin "property.__get__"))) && (decide (PySem.W.takesIn K (.ref (He.ma K (He.ga K x) f)) = some true) &&
  (match PySem.W.recIn K (He.ma K (He.ga K x) f) "property" with
  | some (.ref _ :: _) => true
  | _ => false)))
theorem prB_ok {K : Fg} {x f : Str} (h : prB K x f = true) : PropOf K (He.ga K x) f (He.ma K (He.ga K x) f) (gt K (He.ga K x) f) := by
  obtain ⟨h1, h⟩ := He.ba h
  obtain ⟨h2, h⟩ := He.ba h
  obtain ⟨h3, h4⟩ := He.ba h
  refine ⟨He.eqO_ok h1, He.eqO_ok h2, of_decide_eq_true h3, ?_⟩
  unfold gt
  cases q : PySem.W.recIn K (He.ma K (He.ga K x) f) "property" with
  | none => rw [q] at h4; cases h4
  | some l =>
    rw [q] at h4
    cases l with
    | nil => cases h4
    | cons v r =>
      cases v with
      | ref g => exact ⟨r, rfl⟩
      | _ => cases h4
/-- the default at i of the def at f is the empty tuple -/
def emptyB (K : Fg) (a : Addr) : Bool := match K.lookup a with
  | some ⟨.type c, _, .seq its _, _⟩ => decide (c = "tuple") && its.isEmpty
  | _ => false
theorem emptyB_ok {K : Fg} {a : Addr} (h : emptyB K a = true) (H : Hp) : SqT K H a [] := by
  unfold emptyB at h
  cases q : K.lookup a with
  | none => rw [q] at h; cases h
  | some o =>
    obtain ⟨oc, od, dt, osl⟩ := o
    rw [q] at h
    cases oc with
    | type c =>
      cases dt with
      | seq its n =>
        obtain ⟨h1, h2⟩ := He.ba (show (decide (c = "tuple") && its.isEmpty) = true from h)
        have e : its = #[] := Array.isEmpty_iff.mp h2
        subst e
        exact .inr ⟨_, #[], n, q, congrArg Value.type (of_decide_eq_true h1), rfl, Nat.zero_le _, .nil⟩
      | _ => cases h
    | _ => cases dt <;> cases h
abbrev s_is_integer : Stmt := top 31
def d_is_integer : DefY := ⟨fun K => He.ga K "is_integer", "is_integer", "is_integer", fnArgs s_is_integer, fnBody s_is_integer, fnScope s_is_integer, [], []⟩
abbrev s_is_name : Stmt := top 32
def d_is_name : DefY := ⟨fun K => He.ga K "is_name", "is_name", "is_name", fnArgs s_is_name, fnBody s_is_name, fnScope s_is_name, [], []⟩
abbrev s_check_name : Stmt := top 35
def d_check_name : DefY := ⟨fun K => He.ga K "check_name", "check_name", "check_name", fnArgs s_check_name, fnBody s_check_name, fnScope s_check_name, [], []⟩
abbrev s_check_flag : Stmt := top 36
def d_check_flag : DefY := ⟨fun K => He.ga K "check_flag", "check_flag", "check_flag", fnArgs s_check_flag, fnBody s_check_flag, fnScope s_check_flag, [], []⟩
abbrev s_check_stations : Stmt := top 39
def d_check_stations : DefY := ⟨fun K => He.ga K "check_stations", "check_stations", "check_stations", fnArgs s_check_stations, fnBody s_check_stations, fnScope s_check_stations, [], []⟩
abbrev s_check_links : Stmt := top 40
def d_check_links : DefY := ⟨fun K => He.ga K "check_links", "check_links", "check_links", fnArgs s_check_links, fnBody s_check_links, fnScope s_check_links, [], []⟩
abbrev s_check_line : Stmt := top 50
def d_check_line : DefY := ⟨fun K => He.ga K "check_line", "check_line", "check_line", fnArgs s_check_line, fnBody s_check_line, fnScope s_check_line, [], []⟩
abbrev s_check_numbers : Stmt := top 55
def d_check_numbers : DefY := ⟨fun K => He.ga K "check_numbers", "check_numbers", "check_numbers", fnArgs s_check_numbers, fnBody s_check_numbers, fnScope s_check_numbers, [], []⟩
abbrev s_least_period : Stmt := top 56
def d_least_period : DefY := ⟨fun K => He.ga K "least_period", "least_period", "least_period", fnArgs s_least_period, fnBody s_least_period, fnScope s_least_period, [], []⟩
abbrev s_least_form : Stmt := top 57
def d_least_form : DefY := ⟨fun K => He.ga K "least_form", "least_form", "least_form", fnArgs s_least_form, fnBody s_least_form, fnScope s_least_form, [], []⟩
abbrev s_flags_of : Stmt := top 58
def d_flags_of : DefY := ⟨fun K => He.ga K "flags_of", "flags_of", "flags_of", fnArgs s_flags_of, fnBody s_flags_of, fnScope s_flags_of, [], []⟩
abbrev s_lags_with : Stmt := top 67
def d_lags_with : DefY := ⟨fun K => He.ga K "lags_with", "lags_with", "lags_with", fnArgs s_lags_with, fnBody s_lags_with, fnScope s_lags_with, [], []⟩
abbrev s_lags_of : Stmt := top 75
def d_lags_of : DefY := ⟨fun K => He.ga K "lags_of", "lags_of", "lags_of", fnArgs s_lags_of, fnBody s_lags_of, fnScope s_lags_of, [], []⟩
abbrev s_ends_of : Stmt := top 77
def d_ends_of : DefY := ⟨fun K => He.ga K "ends_of", "ends_of", "ends_of", fnArgs s_ends_of, fnBody s_ends_of, fnScope s_ends_of, [], []⟩
abbrev s_rings_from : Stmt := top 78
def d_rings_from : DefY := ⟨fun K => He.ga K "rings_from", "rings_from", "rings_from", fnArgs s_rings_from, fnBody s_rings_from, fnScope s_rings_from, [], []⟩
abbrev s_rings : Stmt := top 79
def d_rings : DefY := ⟨fun K => He.ga K "rings", "rings", "rings", fnArgs s_rings, fnBody s_rings, fnScope s_rings, [], []⟩
abbrev s_stuck : Stmt := top 80
def d_stuck : DefY := ⟨fun K => He.ga K "stuck", "stuck", "stuck", fnArgs s_stuck, fnBody s_stuck, fnScope s_stuck, [], []⟩
abbrev s_check_free : Stmt := top 81
def d_check_free : DefY := ⟨fun K => He.ga K "check_free", "check_free", "check_free", fnArgs s_check_free, fnBody s_check_free, fnScope s_check_free, [], []⟩
abbrev s_width_of : Stmt := top 83
def d_width_of : DefY := ⟨fun K => He.ga K "width_of", "width_of", "width_of", fnArgs s_width_of, fnBody s_width_of, fnScope s_width_of, [], []⟩
abbrev s_entries_of : Stmt := top 84
def d_entries_of : DefY := ⟨fun K => He.ga K "entries_of", "entries_of", "entries_of", fnArgs s_entries_of, fnBody s_entries_of, fnScope s_entries_of, [], []⟩
abbrev s_is_begun : Stmt := top 85
def d_is_begun : DefY := ⟨fun K => He.ga K "is_begun", "is_begun", "is_begun", fnArgs s_is_begun, fnBody s_is_begun, fnScope s_is_begun, [], []⟩
abbrev s_next_row : Stmt := top 86
def d_next_row : DefY := ⟨fun K => He.ga K "next_row", "next_row", "next_row", fnArgs s_next_row, fnBody s_next_row, fnScope s_next_row, [], []⟩
abbrev s_walked : Stmt := top 88
def d_walked : DefY := ⟨fun K => He.ga K "walked", "walked", "walked", fnArgs s_walked, fnBody s_walked, fnScope s_walked, [], []⟩
abbrev s_chosen_names : Stmt := top 92
def d_chosen_names : DefY := ⟨fun K => He.ga K "chosen_names", "chosen_names", "chosen_names", fnArgs s_chosen_names, fnBody s_chosen_names, fnScope s_chosen_names, [], []⟩
abbrev s_exchange_of : Stmt := top 94
def d_exchange_of : DefY := ⟨fun K => He.ga K "exchange_of", "exchange_of", "exchange_of", fnArgs s_exchange_of, fnBody s_exchange_of, fnScope s_exchange_of, [], []⟩
abbrev s_most_at_once : Stmt := top 95
def d_most_at_once : DefY := ⟨fun K => He.ga K "most_at_once", "most_at_once", "most_at_once", fnArgs s_most_at_once, fnBody s_most_at_once, fnScope s_most_at_once, [.non], []⟩
abbrev s_overlapping : Stmt := top 96
def d_overlapping : DefY := ⟨fun K => He.ga K "overlapping", "overlapping", "overlapping", fnArgs s_overlapping, fnBody s_overlapping, fnScope s_overlapping, [.non], []⟩
abbrev s_law_cell : Stmt := top 98
def d_law_cell : DefY := ⟨fun K => He.ga K "_law_cell", "_law_cell", "_law_cell", fnArgs s_law_cell, fnBody s_law_cell, fnScope s_law_cell, [], []⟩
abbrev s_law_pool : Stmt := top 99
def d_law_pool : DefY := ⟨fun K => He.ga K "_law_pool", "_law_pool", "_law_pool", fnArgs s_law_pool, fnBody s_law_pool, fnScope s_law_pool, [], []⟩
abbrev s_law_draw : Stmt := top 100
def d_law_draw : DefY := ⟨fun K => He.ga K "_law_draw", "_law_draw", "_law_draw", fnArgs s_law_draw, fnBody s_law_draw, fnScope s_law_draw, [], []⟩
abbrev s_law_tag : Stmt := top 101
def d_law_tag : DefY := ⟨fun K => He.ga K "_law_tag", "_law_tag", "_law_tag", fnArgs s_law_tag, fnBody s_law_tag, fnScope s_law_tag, [], []⟩
abbrev s_law_wire : Stmt := top 102
def d_law_wire : DefY := ⟨fun K => He.ga K "_law_wire", "_law_wire", "_law_wire", fnArgs s_law_wire, fnBody s_law_wire, fnScope s_law_wire, [], []⟩
abbrev s_law_plan : Stmt := top 103
def d_law_plan : DefY := ⟨fun K => He.ga K "_law_plan", "_law_plan", "_law_plan", fnArgs s_law_plan, fnBody s_law_plan, fnScope s_law_plan, [], []⟩
abbrev s_law_line : Stmt := top 104
def d_law_line : DefY := ⟨fun K => He.ga K "_law_line", "_law_line", "_law_line", fnArgs s_law_line, fnBody s_law_line, fnScope s_law_line, [], []⟩
abbrev s_law_play : Stmt := top 105
def d_law_play : DefY := ⟨fun K => He.ga K "_law_play", "_law_play", "_law_play", fnArgs s_law_play, fnBody s_law_play, fnScope s_law_play, [], []⟩
abbrev s_law_span : Stmt := top 106
def d_law_span : DefY := ⟨fun K => He.ga K "_law_span", "_law_span", "_law_span", fnArgs s_law_span, fnBody s_law_span, fnScope s_law_span, [], []⟩
abbrev s_law_spans : Stmt := top 107
def d_law_spans : DefY := ⟨fun K => He.ga K "_law_spans", "_law_spans", "_law_spans", fnArgs s_law_spans, fnBody s_law_spans, fnScope s_law_spans, [], []⟩
abbrev s_law_busy : Stmt := top 108
def d_law_busy : DefY := ⟨fun K => He.ga K "_law_busy", "_law_busy", "_law_busy", fnArgs s_law_busy, fnBody s_law_busy, fnScope s_law_busy, [], []⟩
abbrev s_law_right : Stmt := top 109
def d_law_right : DefY := ⟨fun K => He.ga K "_law_right", "_law_right", "_law_right", fnArgs s_law_right, fnBody s_law_right, fnScope s_law_right, [], []⟩
abbrev s_law : Stmt := top 110
def d_law : DefY := ⟨fun K => He.ga K "law", "law", "law", fnArgs s_law, fnBody s_law, fnScope s_law, [], []⟩
abbrev s_Station_init : Stmt := meth 37 0
def d_Station_init : DefY := ⟨fun K => He.ma K (He.ga K "Station") "__init__", "__init__", "Station.__init__", fnArgs s_Station_init, fnBody s_Station_init, fnScope s_Station_init, [.int 1], [("timed", .bl true)]⟩
abbrev s_Link_init : Stmt := meth 38 0
def d_Link_init : DefY := ⟨fun K => He.ma K (He.ga K "Link") "__init__", "__init__", "Link.__init__", fnArgs s_Link_init, fnBody s_Link_init, fnScope s_Link_init, [.int 0], [("early", .bl false)]⟩
abbrev s_Line_init : Stmt := meth 46 0
def d_Line_init : DefY := ⟨fun K => He.ma K (He.ga K "Line") "__init__", "__init__", "Line.__init__", fnArgs s_Line_init, fnBody s_Line_init, fnScope s_Line_init, [], []⟩
abbrev s_Line_len : Stmt := meth 46 7
def d_Line_len : DefY := ⟨fun K => He.ma K (He.ga K "Line") "__len__", "__len__", "Line.__len__", fnArgs s_Line_len, fnBody s_Line_len, fnScope s_Line_len, [], []⟩
abbrev s_Lags_init : Stmt := meth 64 0
def d_Lags_init : DefY := ⟨fun K => He.ma K (He.ga K "Lags") "__init__", "__init__", "Lags.__init__", fnArgs s_Lags_init, fnBody s_Lags_init, fnScope s_Lags_init, [.adr (He.dflAt ("Lags", some "__init__") 0), .adr (He.dflAt ("Lags", some "__init__") 1), .int 1], []⟩
abbrev s_FormedLags_init : Stmt := meth 66 0
def d_FormedLags_init : DefY := ⟨fun K => He.ma K (He.ga K "FormedLags") "__init__", "__init__", "FormedLags.__init__", fnArgs s_FormedLags_init, fnBody s_FormedLags_init, fnScope s_FormedLags_init, [], []⟩
abbrev s_Walk_init : Stmt := meth 87 0
def d_Walk_init : DefY := ⟨fun K => He.ma K (He.ga K "Walk") "__init__", "__init__", "Walk.__init__", fnArgs s_Walk_init, fnBody s_Walk_init, fnScope s_Walk_init, [], []⟩
abbrev s_Walk_lags_at : Stmt := meth 87 1
def d_Walk_lags_at : DefY := ⟨fun K => He.ma K (He.ga K "Walk") "lags_at", "lags_at", "Walk.lags_at", fnArgs s_Walk_lags_at, fnBody s_Walk_lags_at, fnScope s_Walk_lags_at, [], []⟩
abbrev s_Walk_ends : Stmt := meth 87 2
def d_Walk_ends : DefY := ⟨fun K => He.ma K (He.ga K "Walk") "ends", "ends", "Walk.ends", fnArgs s_Walk_ends, fnBody s_Walk_ends, fnScope s_Walk_ends, [], []⟩
abbrev s_Walk_begins : Stmt := meth 87 3
def d_Walk_begins : DefY := ⟨fun K => He.ma K (He.ga K "Walk") "begins", "begins", "Walk.begins", fnArgs s_Walk_begins, fnBody s_Walk_begins, fnScope s_Walk_begins, [], []⟩
abbrev s_Orders_init : Stmt := meth 90 0
def d_Orders_init : DefY := ⟨fun K => He.ma K (He.ga K "Orders") "__init__", "__init__", "Orders.__init__", fnArgs s_Orders_init, fnBody s_Orders_init, fnScope s_Orders_init, [], []⟩
abbrev s_Orders_between : Stmt := meth 90 2
def d_Orders_between : DefY := ⟨fun K => He.ma K (He.ga K "Orders") "between", "between", "Orders.between", fnArgs s_Orders_between, fnBody s_Orders_between, fnScope s_Orders_between, [], []⟩
abbrev s_Exchange_init : Stmt := meth 93 0
def d_Exchange_init : DefY := ⟨fun K => He.ma K (He.ga K "Exchange") "__init__", "__init__", "Exchange.__init__", fnArgs s_Exchange_init, fnBody s_Exchange_init, fnScope s_Exchange_init, [], []⟩
abbrev s_Exchange_cheapest : Stmt := meth 93 1
def d_Exchange_cheapest : DefY := ⟨fun K => He.ma K (He.ga K "Exchange") "cheapest", "cheapest", "Exchange.cheapest", fnArgs s_Exchange_cheapest, fnBody s_Exchange_cheapest, fnScope s_Exchange_cheapest, [], []⟩
abbrev s_Exchange_floors : Stmt := meth 93 2
def d_Exchange_floors : DefY := ⟨fun K => He.ma K (He.ga K "Exchange") "floors", "floors", "Exchange.floors", fnArgs s_Exchange_floors, fnBody s_Exchange_floors, fnScope s_Exchange_floors, [], []⟩
abbrev s_Exchange_tasks_apart : Stmt := meth 93 3
def d_Exchange_tasks_apart : DefY := ⟨fun K => He.ma K (He.ga K "Exchange") "tasks_apart", "tasks_apart", "Exchange.tasks_apart", fnArgs s_Exchange_tasks_apart, fnBody s_Exchange_tasks_apart, fnScope s_Exchange_tasks_apart, [], []⟩
abbrev s_Station_name : Stmt := meth 37 1
def d_Station_name : DefY := ⟨fun K => gt K (He.ga K "Station") "name", "name", "Station.name", fnArgs s_Station_name, fnBody s_Station_name, fnScope s_Station_name, [], []⟩
abbrev s_Station_hands : Stmt := meth 37 2
def d_Station_hands : DefY := ⟨fun K => gt K (He.ga K "Station") "hands", "hands", "Station.hands", fnArgs s_Station_hands, fnBody s_Station_hands, fnScope s_Station_hands, [], []⟩
abbrev s_Station_timed : Stmt := meth 37 3
def d_Station_timed : DefY := ⟨fun K => gt K (He.ga K "Station") "timed", "timed", "Station.timed", fnArgs s_Station_timed, fnBody s_Station_timed, fnScope s_Station_timed, [], []⟩
abbrev s_Link_source : Stmt := meth 38 1
def d_Link_source : DefY := ⟨fun K => gt K (He.ga K "Link") "source", "source", "Link.source", fnArgs s_Link_source, fnBody s_Link_source, fnScope s_Link_source, [], []⟩
abbrev s_Link_target : Stmt := meth 38 2
def d_Link_target : DefY := ⟨fun K => gt K (He.ga K "Link") "target", "target", "Link.target", fnArgs s_Link_target, fnBody s_Link_target, fnScope s_Link_target, [], []⟩
abbrev s_Link_stock : Stmt := meth 38 3
def d_Link_stock : DefY := ⟨fun K => gt K (He.ga K "Link") "stock", "stock", "Link.stock", fnArgs s_Link_stock, fnBody s_Link_stock, fnScope s_Link_stock, [], []⟩
abbrev s_Link_early : Stmt := meth 38 4
def d_Link_early : DefY := ⟨fun K => gt K (He.ga K "Link") "early", "early", "Link.early", fnArgs s_Link_early, fnBody s_Link_early, fnScope s_Link_early, [], []⟩
abbrev s_Line_stations : Stmt := meth 46 2
def d_Line_stations : DefY := ⟨fun K => gt K (He.ga K "Line") "stations", "stations", "Line.stations", fnArgs s_Line_stations, fnBody s_Line_stations, fnScope s_Line_stations, [], []⟩
abbrev s_Line_links : Stmt := meth 46 3
def d_Line_links : DefY := ⟨fun K => gt K (He.ga K "Line") "links", "links", "Line.links", fnArgs s_Line_links, fnBody s_Line_links, fnScope s_Line_links, [], []⟩
abbrev s_Line_outlet : Stmt := meth 46 4
def d_Line_outlet : DefY := ⟨fun K => gt K (He.ga K "Line") "outlet", "outlet", "Line.outlet", fnArgs s_Line_outlet, fnBody s_Line_outlet, fnScope s_Line_outlet, [], []⟩
abbrev s_Line_names : Stmt := meth 46 5
def d_Line_names : DefY := ⟨fun K => gt K (He.ga K "Line") "names", "names", "Line.names", fnArgs s_Line_names, fnBody s_Line_names, fnScope s_Line_names, [], []⟩
abbrev s_Line_timed : Stmt := meth 46 6
def d_Line_timed : DefY := ⟨fun K => gt K (He.ga K "Line") "timed", "timed", "Line.timed", fnArgs s_Line_timed, fnBody s_Line_timed, fnScope s_Line_timed, [], []⟩
abbrev s_Lags_members : Stmt := meth 64 4
def d_Lags_members : DefY := ⟨fun K => gt K (He.ga K "FormedLags") "members", "members", "Lags.members", fnArgs s_Lags_members, fnBody s_Lags_members, fnScope s_Lags_members, [], []⟩
abbrev s_Lags_first : Stmt := meth 64 5
def d_Lags_first : DefY := ⟨fun K => gt K (He.ga K "FormedLags") "first", "first", "Lags.first", fnArgs s_Lags_first, fnBody s_Lags_first, fnScope s_Lags_first, [], []⟩
def fns : List DefY := [d_is_integer, d_is_name, d_check_name, d_check_flag, d_check_stations, d_check_links, d_check_line, d_check_numbers, d_least_period, d_least_form, d_flags_of, d_lags_with, d_lags_of, d_ends_of, d_rings_from, d_rings, d_stuck, d_check_free, d_width_of, d_entries_of, d_is_begun, d_next_row, d_walked, d_chosen_names, d_exchange_of, d_most_at_once, d_overlapping, d_law_cell, d_law_pool, d_law_draw, d_law_tag, d_law_wire, d_law_plan, d_law_line, d_law_play, d_law_span, d_law_spans, d_law_busy, d_law_right, d_law, d_Station_init, d_Link_init, d_Line_init, d_Line_len, d_Lags_init, d_FormedLags_init, d_Walk_init, d_Walk_lags_at, d_Walk_ends, d_Walk_begins, d_Orders_init, d_Orders_between, d_Exchange_init, d_Exchange_cheapest, d_Exchange_floors, d_Exchange_tasks_apart, d_Station_name, d_Station_hands, d_Station_timed, d_Link_source, d_Link_target, d_Link_stock, d_Link_early, d_Line_stations, d_Line_links, d_Line_outlet, d_Line_names, d_Line_timed, d_Lags_members, d_Lags_first]
def glos : List Str := (["is_integer", "is_name", "check_name", "check_flag", "check_stations", "check_links", "check_line", "check_numbers", "least_period", "least_form", "flags_of", "lags_with", "lags_of", "ends_of", "rings_from", "rings", "stuck", "check_free", "width_of", "entries_of"] : List Str) ++ (["is_begun", "next_row", "walked", "chosen_names", "exchange_of", "most_at_once", "overlapping", "_law_cell", "_law_pool", "_law_draw", "_law_tag", "_law_wire", "_law_plan", "_law_line", "_law_play", "_law_span", "_law_spans", "_law_busy", "_law_right", "law"] : List Str) ++ (["Station", "Link", "Line", "Lags", "FormedLags", "Walk", "Orders", "Exchange"] : List Str)
def frs : List Str := ["len", "range", "isinstance", "int", "bool", "str", "tuple", "sorted", "list", "enumerate", "max", "min", "sum", "any", "all", "abs", "divmod", "dict", "zip", "set"]
def intsL : List (Str × Int) := [("MOST_STATIONS", 6), ("MOST_LINKS", 12), ("MOST_HANDS", 4), ("MOST_STOCK", 5), ("MOST_SIGNS", 8), ("MOST_MEMBER", 1000), ("MOST_PERIOD", 60)]
def strsL : List (Str × Str) := [("LETTERS", "abcdefghijklmnopqrstuvwxyz"), ("DIGITS", "0123456789")]
def clss : List Str := ["Station", "Link", "Line", "Lags", "FormedLags", "Walk", "Orders", "Exchange"]
def noats : List (Str × Str) := [("Station", "sides"), ("Link", "sides"), ("Line", "sides"), ("Lags", "form"), ("FormedLags", "form"), ("Walk", "rows"), ("Walk", "begin_row"), ("Walk", "end_row"), ("Orders", "known"), ("Orders", "outlets"), ("Orders", "found"), ("Orders", "none"), ("Exchange", "chosen"), ("Exchange", "firsts"), ("Exchange", "cost"), ("Exchange", "mates")]
def meths : List (Str × Str) := [("Line", "__len__"), ("Walk", "lags_at"), ("Walk", "ends"), ("Walk", "begins"), ("Orders", "between"), ("Exchange", "cheapest"), ("Exchange", "floors"), ("Exchange", "tasks_apart")]
def props : List (Str × Str) := [("Station", "name"), ("Station", "hands"), ("Station", "timed"), ("Link", "source"), ("Link", "target"), ("Link", "stock"), ("Link", "early"), ("Line", "stations"), ("Line", "links"), ("Line", "outlet"), ("Line", "names"), ("Line", "timed"), ("FormedLags", "members"), ("FormedLags", "first")]
def insB (K : Fg) (x : Str) : Bool := He.eqO (PySem.W.findIn K (.ref (He.ga K x)) "__class__") (some (some (.builtin "object.__class__"))) && (He.eqO (PySem.W.specialIn K (.builtin "object.__class__") "__get__") (some (some (.builtin "getset_descriptor.__get__"))) && (decide (PySem.W.takesIn K (.builtin "object.__class__") = some true) && (decide (PySem.W.mroIn K (He.ga K x) (.type "object") = some true) && decide (PySem.W.kitOne K (.ref (He.ga K x)) (.ref (He.ga K x)) = some true))))
def inss : List Str := ["Station", "Link", "Line"]
def fas : List He.Fa := glos.map .glo ++ (frs.map .free ++ (intsL.map (fun q => .int q.1 q.2) ++ (strsL.map (fun q => .str q.1 q.2) ++ (clss.map .cls ++ (clss.map .mkr ++ (noats.map (fun q => .noat q.1 q.2) ++ meths.map (fun q => .meth q.1 q.2)))))))
def exB (K : Fg) : Bool := (props.all fun q => prB K q.1 q.2) && ((inss.all fun q => insB K q) && (emptyB K (He.dflAt ("Lags", some "__init__") 0 K) && emptyB K (He.dflAt ("Lags", some "__init__") 1 K)))
abbrev AlY : Type := Bool × List He.FnW
def obsY (K : Fg) : AlY := ((fas.all fun f => f.ok K) && (exB K && fns.all fun d => d.ok K), fns.map fun d => fnY K (d.at_ K))
def valY : AlY := (true, fns.map DefY.val)
def Says (K : Fg) : Prop := obsY K = valY
/-- the addresses that are looked at: the module's defs and the classes of these names, what they name -/
def more1 (g : Addr → Option Obj) (a : Addr) : List Addr := match g a with
  | some ⟨_, _, .func fd, _⟩ => He.refV fd.code ++ (He.refV fd.defaults ++ He.refV fd.kwdefaults)
  | some ⟨_, _, .cls cd, _⟩ => [cd.ns]
  | some ⟨.type "property", _, .fields vs, _⟩ => vs.toList.flatMap He.refV
  | some ⟨_, _, .seq its _, _⟩ => its.toList.flatMap He.refV
  | some ⟨_, _, .dict es _, _⟩ => es.toList.flatMap fun e => He.refV e.val
  | _ => []
def keepA (g : Addr → Option Obj) (a : Addr) : Bool := match g a with
  | some ⟨_, _, .func _, _⟩ => true
  | some ⟨_, _, .cls cd, _⟩ => clss.contains cd.name
  | _ => false
def asY (g : Addr → Option Obj) : List Addr :=
  let l1 := (more1 g mainGlobals).filter (keepA g)
  let l2 := l1.flatMap (more1 g)
  let l3 := l2.flatMap (more1 g)
  let l4 := l3.flatMap (more1 g)
  mainGlobals :: (l1 ++ (l2 ++ (l3 ++ (l4 ++ l4.flatMap (more1 g)))))
def obsYG (g : Addr → Option Obj) : AlY := obsY (He.frG g (asY g))
def hookY : PySem.W.Hook where
  α := AlY
  obs := fun s => obsYG s.heap.get?
  val := fun _ => valY
  says := fun _ h => ∃ K : Fg, K.In h ∧ Says K
  of := fun _ _ e => ⟨_, He.frG_in, e⟩
  keeps := fun _ _ _ ⟨K, hK, c⟩ k => ⟨K, PySem.W.Frag.In.keeps hK k, c⟩
theorem obsYG_eq {g : Addr → Option Obj} {s : Shared} (h : ∀ a, g a = s.heap.get? a) : obsYG g = hookY.obs s := by
  have e : g = s.heap.get? := funext h
  rw [e] <;> rfl
theorem Says.all {K : Fg} (c : Says K) : (fas.all fun f => f.ok K) = true ∧ exB K = true ∧ (fns.all fun d => d.ok K) = true := by
  have c1 := congrArg (fun z : AlY => z.1) c
  obtain ⟨h1, h2⟩ := He.ba (show ((fas.all fun f => f.ok K) && (exB K && fns.all fun d => d.ok K)) = true from c1)
  exact ⟨h1, He.ba h2⟩
theorem Says.def_ {K : Fg} (c : Says K) (i : Nat) {d : DefY} (h : fns[i]? = some d := by rfl) : ∃ fd, FunD K d.name d.qual d.params d.body d.scope (d.dvs K) (d.kws K) (d.at_ K) fd := by
  have e : fns.map (fun d => fnY K (d.at_ K)) = fns.map DefY.val := congrArg (fun z : AlY => z.2) c
  have e2 : (fns.map fun d => fnY K (d.at_ K))[i]? = (fns.map DefY.val)[i]? := by rw [e]
  rw [List.getElem?_map, List.getElem?_map, h] at e2
  exact DefY.funD (Option.some.inj e2) (List.all_eq_true.mp c.all.2.2 d (List.mem_of_getElem? h))
/-- what the walk leans on -/
structure Txt (K : Fg) (mg : Str → Option Value) : Prop where
  says : Says K
  mod : ∃ h : Heap, K.In h ∧ h.Ns mainGlobals mg
section
variable {K : Fg} {mg : Str → Option Value}
theorem Txt.fact (T : Txt K mg) {f : He.Fa} (h : f ∈ fas) : f.ok K = true := List.all_eq_true.mp T.says.all.1 f h
theorem Txt.glo (T : Txt K mg) (x : Str) (h : x ∈ glos := by decide +kernel) : mg x = some (.ref (He.ga K x)) := by
  obtain ⟨hp, X, G⟩ := T.mod
  exact He.glo_ok X G (T.fact (List.mem_append_left _ (List.mem_map.mpr ⟨x, h, rfl⟩)))
theorem Txt.free (T : Txt K mg) (x : Str) (h : x ∈ frs := by decide +kernel) : mg x = none := by
  obtain ⟨hp, X, G⟩ := T.mod
  exact He.free_ok X G (T.fact (List.mem_append_right _ (List.mem_append_left _ (List.mem_map.mpr ⟨x, h, rfl⟩))))
theorem Txt.int (T : Txt K mg) (x : Str) (i : Int) (h : (x, i) ∈ intsL := by decide +kernel) : ∃ t, mg x = some (.int i t) := by
  obtain ⟨hp, X, G⟩ := T.mod
  exact He.int_ok X G (T.fact (List.mem_append_right _ (List.mem_append_right _ (List.mem_append_left _ (List.mem_map.mpr ⟨(x, i), h, rfl⟩)))))
theorem Txt.str (T : Txt K mg) (x z : Str) (h : (x, z) ∈ strsL := by decide +kernel) : ∃ t, mg x = some (.str z t) := by
  obtain ⟨hp, X, G⟩ := T.mod
  exact He.str_ok X G (T.fact (List.mem_append_right _ (List.mem_append_right _ (List.mem_append_right _ (List.mem_append_left _ (List.mem_map.mpr ⟨(x, z), h, rfl⟩))))))
theorem Txt.cls (T : Txt K mg) (x : Str) (h : x ∈ clss := by decide +kernel) : Cls K (He.ga K x) :=
  He.cls_ok (T.fact (List.mem_append_right _ (List.mem_append_right _ (List.mem_append_right _ (List.mem_append_right _ (List.mem_append_left _ (List.mem_map.mpr ⟨x, h, rfl⟩)))))))
theorem Txt.mkr (T : Txt K mg) (x : Str) (h : x ∈ clss := by decide +kernel) : Mk K (He.ga K x) (He.ma K (He.ga K x) "__init__") :=
  He.mkr_ok (T.fact (List.mem_append_right _ (List.mem_append_right _ (List.mem_append_right _ (List.mem_append_right _ (List.mem_append_right _ (List.mem_append_left _ (List.mem_map.mpr ⟨x, h, rfl⟩))))))))
theorem Txt.noat (T : Txt K mg) (x f : Str) (h : (x, f) ∈ noats := by decide +kernel) : NoAttr K (He.ga K x) f :=
  He.noat_ok (T.fact (List.mem_append_right _ (List.mem_append_right _ (List.mem_append_right _ (List.mem_append_right _ (List.mem_append_right _ (List.mem_append_right _ (List.mem_append_left _ (List.mem_map.mpr ⟨(x, f), h, rfl⟩)))))))))
theorem Txt.meth (T : Txt K mg) (x f : Str) (h : (x, f) ∈ meths := by decide +kernel) : Meth K (He.ga K x) f (He.ma K (He.ga K x) f) :=
  He.meth_ok (T.fact (List.mem_append_right _ (List.mem_append_right _ (List.mem_append_right _ (List.mem_append_right _ (List.mem_append_right _ (List.mem_append_right _ (List.mem_append_right _ (List.mem_map.mpr ⟨(x, f), h, rfl⟩)))))))))
theorem Txt.prop (T : Txt K mg) (x f : Str) (h : (x, f) ∈ props := by decide +kernel) : PropOf K (He.ga K x) f (He.ma K (He.ga K x) f) (gt K (He.ga K x) f) := by
  obtain ⟨h1, _⟩ := He.ba T.says.all.2.1
  exact prB_ok (List.all_eq_true.mp h1 (x, f) h)
theorem Txt.ins (T : Txt K mg) (x : Str) (h : x ∈ inss := by decide +kernel) (hc : x ∈ clss := by decide +kernel) : C8.InsC K (He.ga K x) := by
  obtain ⟨_, h1⟩ := He.ba T.says.all.2.1
  obtain ⟨h2, _⟩ := He.ba h1
  obtain ⟨y1, y2⟩ := He.ba (List.all_eq_true.mp h2 x h)
  obtain ⟨y5, y2⟩ := He.ba y2
  obtain ⟨y6, y2⟩ := He.ba y2
  obtain ⟨y3, y4⟩ := He.ba y2
  exact ⟨T.cls x hc, He.eqO_ok y1, He.eqO_ok y5, of_decide_eq_true y6, of_decide_eq_true y3, of_decide_eq_true y4⟩
theorem Txt.empty0 (T : Txt K mg) (H : Hp) : SqT K H (He.dflAt ("Lags", some "__init__") 0 K) [] := by
  obtain ⟨_, h1⟩ := He.ba T.says.all.2.1
  exact emptyB_ok (He.ba (He.ba h1).2).1 H
theorem Txt.empty1 (T : Txt K mg) (H : Hp) : SqT K H (He.dflAt ("Lags", some "__init__") 1 K) [] := by
  obtain ⟨_, h1⟩ := He.ba T.says.all.2.1
  exact emptyB_ok (He.ba (He.ba h1).2).2 H
end

theorem Txt.f_is_integer {K : Fg} {mg : Str → Option Value} (T : Txt K mg) : ∃ fd, FunD K d_is_integer.name d_is_integer.qual (fnArgs s_is_integer) (fnBody s_is_integer) (fnScope s_is_integer) (d_is_integer.dvs K) (d_is_integer.kws K) (d_is_integer.at_ K) fd := T.says.def_ 0 (d := d_is_integer)
theorem Txt.f_is_name {K : Fg} {mg : Str → Option Value} (T : Txt K mg) : ∃ fd, FunD K d_is_name.name d_is_name.qual (fnArgs s_is_name) (fnBody s_is_name) (fnScope s_is_name) (d_is_name.dvs K) (d_is_name.kws K) (d_is_name.at_ K) fd := T.says.def_ 1 (d := d_is_name)
theorem Txt.f_check_name {K : Fg} {mg : Str → Option Value} (T : Txt K mg) : ∃ fd, FunD K d_check_name.name d_check_name.qual (fnArgs s_check_name) (fnBody s_check_name) (fnScope s_check_name) (d_check_name.dvs K) (d_check_name.kws K) (d_check_name.at_ K) fd := T.says.def_ 2 (d := d_check_name)
theorem Txt.f_check_flag {K : Fg} {mg : Str → Option Value} (T : Txt K mg) : ∃ fd, FunD K d_check_flag.name d_check_flag.qual (fnArgs s_check_flag) (fnBody s_check_flag) (fnScope s_check_flag) (d_check_flag.dvs K) (d_check_flag.kws K) (d_check_flag.at_ K) fd := T.says.def_ 3 (d := d_check_flag)
theorem Txt.f_check_stations {K : Fg} {mg : Str → Option Value} (T : Txt K mg) : ∃ fd, FunD K d_check_stations.name d_check_stations.qual (fnArgs s_check_stations) (fnBody s_check_stations) (fnScope s_check_stations) (d_check_stations.dvs K) (d_check_stations.kws K) (d_check_stations.at_ K) fd := T.says.def_ 4 (d := d_check_stations)
theorem Txt.f_check_links {K : Fg} {mg : Str → Option Value} (T : Txt K mg) : ∃ fd, FunD K d_check_links.name d_check_links.qual (fnArgs s_check_links) (fnBody s_check_links) (fnScope s_check_links) (d_check_links.dvs K) (d_check_links.kws K) (d_check_links.at_ K) fd := T.says.def_ 5 (d := d_check_links)
theorem Txt.f_check_line {K : Fg} {mg : Str → Option Value} (T : Txt K mg) : ∃ fd, FunD K d_check_line.name d_check_line.qual (fnArgs s_check_line) (fnBody s_check_line) (fnScope s_check_line) (d_check_line.dvs K) (d_check_line.kws K) (d_check_line.at_ K) fd := T.says.def_ 6 (d := d_check_line)
theorem Txt.f_check_numbers {K : Fg} {mg : Str → Option Value} (T : Txt K mg) : ∃ fd, FunD K d_check_numbers.name d_check_numbers.qual (fnArgs s_check_numbers) (fnBody s_check_numbers) (fnScope s_check_numbers) (d_check_numbers.dvs K) (d_check_numbers.kws K) (d_check_numbers.at_ K) fd := T.says.def_ 7 (d := d_check_numbers)
theorem Txt.f_least_period {K : Fg} {mg : Str → Option Value} (T : Txt K mg) : ∃ fd, FunD K d_least_period.name d_least_period.qual (fnArgs s_least_period) (fnBody s_least_period) (fnScope s_least_period) (d_least_period.dvs K) (d_least_period.kws K) (d_least_period.at_ K) fd := T.says.def_ 8 (d := d_least_period)
theorem Txt.f_least_form {K : Fg} {mg : Str → Option Value} (T : Txt K mg) : ∃ fd, FunD K d_least_form.name d_least_form.qual (fnArgs s_least_form) (fnBody s_least_form) (fnScope s_least_form) (d_least_form.dvs K) (d_least_form.kws K) (d_least_form.at_ K) fd := T.says.def_ 9 (d := d_least_form)
theorem Txt.f_flags_of {K : Fg} {mg : Str → Option Value} (T : Txt K mg) : ∃ fd, FunD K d_flags_of.name d_flags_of.qual (fnArgs s_flags_of) (fnBody s_flags_of) (fnScope s_flags_of) (d_flags_of.dvs K) (d_flags_of.kws K) (d_flags_of.at_ K) fd := T.says.def_ 10 (d := d_flags_of)
theorem Txt.f_lags_with {K : Fg} {mg : Str → Option Value} (T : Txt K mg) : ∃ fd, FunD K d_lags_with.name d_lags_with.qual (fnArgs s_lags_with) (fnBody s_lags_with) (fnScope s_lags_with) (d_lags_with.dvs K) (d_lags_with.kws K) (d_lags_with.at_ K) fd := T.says.def_ 11 (d := d_lags_with)
theorem Txt.f_lags_of {K : Fg} {mg : Str → Option Value} (T : Txt K mg) : ∃ fd, FunD K d_lags_of.name d_lags_of.qual (fnArgs s_lags_of) (fnBody s_lags_of) (fnScope s_lags_of) (d_lags_of.dvs K) (d_lags_of.kws K) (d_lags_of.at_ K) fd := T.says.def_ 12 (d := d_lags_of)
theorem Txt.f_ends_of {K : Fg} {mg : Str → Option Value} (T : Txt K mg) : ∃ fd, FunD K d_ends_of.name d_ends_of.qual (fnArgs s_ends_of) (fnBody s_ends_of) (fnScope s_ends_of) (d_ends_of.dvs K) (d_ends_of.kws K) (d_ends_of.at_ K) fd := T.says.def_ 13 (d := d_ends_of)
theorem Txt.f_rings_from {K : Fg} {mg : Str → Option Value} (T : Txt K mg) : ∃ fd, FunD K d_rings_from.name d_rings_from.qual (fnArgs s_rings_from) (fnBody s_rings_from) (fnScope s_rings_from) (d_rings_from.dvs K) (d_rings_from.kws K) (d_rings_from.at_ K) fd := T.says.def_ 14 (d := d_rings_from)
theorem Txt.f_rings {K : Fg} {mg : Str → Option Value} (T : Txt K mg) : ∃ fd, FunD K d_rings.name d_rings.qual (fnArgs s_rings) (fnBody s_rings) (fnScope s_rings) (d_rings.dvs K) (d_rings.kws K) (d_rings.at_ K) fd := T.says.def_ 15 (d := d_rings)
theorem Txt.f_stuck {K : Fg} {mg : Str → Option Value} (T : Txt K mg) : ∃ fd, FunD K d_stuck.name d_stuck.qual (fnArgs s_stuck) (fnBody s_stuck) (fnScope s_stuck) (d_stuck.dvs K) (d_stuck.kws K) (d_stuck.at_ K) fd := T.says.def_ 16 (d := d_stuck)
theorem Txt.f_check_free {K : Fg} {mg : Str → Option Value} (T : Txt K mg) : ∃ fd, FunD K d_check_free.name d_check_free.qual (fnArgs s_check_free) (fnBody s_check_free) (fnScope s_check_free) (d_check_free.dvs K) (d_check_free.kws K) (d_check_free.at_ K) fd := T.says.def_ 17 (d := d_check_free)
theorem Txt.f_width_of {K : Fg} {mg : Str → Option Value} (T : Txt K mg) : ∃ fd, FunD K d_width_of.name d_width_of.qual (fnArgs s_width_of) (fnBody s_width_of) (fnScope s_width_of) (d_width_of.dvs K) (d_width_of.kws K) (d_width_of.at_ K) fd := T.says.def_ 18 (d := d_width_of)
theorem Txt.f_entries_of {K : Fg} {mg : Str → Option Value} (T : Txt K mg) : ∃ fd, FunD K d_entries_of.name d_entries_of.qual (fnArgs s_entries_of) (fnBody s_entries_of) (fnScope s_entries_of) (d_entries_of.dvs K) (d_entries_of.kws K) (d_entries_of.at_ K) fd := T.says.def_ 19 (d := d_entries_of)
theorem Txt.f_is_begun {K : Fg} {mg : Str → Option Value} (T : Txt K mg) : ∃ fd, FunD K d_is_begun.name d_is_begun.qual (fnArgs s_is_begun) (fnBody s_is_begun) (fnScope s_is_begun) (d_is_begun.dvs K) (d_is_begun.kws K) (d_is_begun.at_ K) fd := T.says.def_ 20 (d := d_is_begun)
theorem Txt.f_next_row {K : Fg} {mg : Str → Option Value} (T : Txt K mg) : ∃ fd, FunD K d_next_row.name d_next_row.qual (fnArgs s_next_row) (fnBody s_next_row) (fnScope s_next_row) (d_next_row.dvs K) (d_next_row.kws K) (d_next_row.at_ K) fd := T.says.def_ 21 (d := d_next_row)
theorem Txt.f_walked {K : Fg} {mg : Str → Option Value} (T : Txt K mg) : ∃ fd, FunD K d_walked.name d_walked.qual (fnArgs s_walked) (fnBody s_walked) (fnScope s_walked) (d_walked.dvs K) (d_walked.kws K) (d_walked.at_ K) fd := T.says.def_ 22 (d := d_walked)
theorem Txt.f_chosen_names {K : Fg} {mg : Str → Option Value} (T : Txt K mg) : ∃ fd, FunD K d_chosen_names.name d_chosen_names.qual (fnArgs s_chosen_names) (fnBody s_chosen_names) (fnScope s_chosen_names) (d_chosen_names.dvs K) (d_chosen_names.kws K) (d_chosen_names.at_ K) fd := T.says.def_ 23 (d := d_chosen_names)
theorem Txt.f_exchange_of {K : Fg} {mg : Str → Option Value} (T : Txt K mg) : ∃ fd, FunD K d_exchange_of.name d_exchange_of.qual (fnArgs s_exchange_of) (fnBody s_exchange_of) (fnScope s_exchange_of) (d_exchange_of.dvs K) (d_exchange_of.kws K) (d_exchange_of.at_ K) fd := T.says.def_ 24 (d := d_exchange_of)
theorem Txt.f_most_at_once {K : Fg} {mg : Str → Option Value} (T : Txt K mg) : ∃ fd, FunD K d_most_at_once.name d_most_at_once.qual (fnArgs s_most_at_once) (fnBody s_most_at_once) (fnScope s_most_at_once) (d_most_at_once.dvs K) (d_most_at_once.kws K) (d_most_at_once.at_ K) fd := T.says.def_ 25 (d := d_most_at_once)
theorem Txt.f_overlapping {K : Fg} {mg : Str → Option Value} (T : Txt K mg) : ∃ fd, FunD K d_overlapping.name d_overlapping.qual (fnArgs s_overlapping) (fnBody s_overlapping) (fnScope s_overlapping) (d_overlapping.dvs K) (d_overlapping.kws K) (d_overlapping.at_ K) fd := T.says.def_ 26 (d := d_overlapping)
theorem Txt.f_law_cell {K : Fg} {mg : Str → Option Value} (T : Txt K mg) : ∃ fd, FunD K d_law_cell.name d_law_cell.qual (fnArgs s_law_cell) (fnBody s_law_cell) (fnScope s_law_cell) (d_law_cell.dvs K) (d_law_cell.kws K) (d_law_cell.at_ K) fd := T.says.def_ 27 (d := d_law_cell)
theorem Txt.f_law_pool {K : Fg} {mg : Str → Option Value} (T : Txt K mg) : ∃ fd, FunD K d_law_pool.name d_law_pool.qual (fnArgs s_law_pool) (fnBody s_law_pool) (fnScope s_law_pool) (d_law_pool.dvs K) (d_law_pool.kws K) (d_law_pool.at_ K) fd := T.says.def_ 28 (d := d_law_pool)
theorem Txt.f_law_draw {K : Fg} {mg : Str → Option Value} (T : Txt K mg) : ∃ fd, FunD K d_law_draw.name d_law_draw.qual (fnArgs s_law_draw) (fnBody s_law_draw) (fnScope s_law_draw) (d_law_draw.dvs K) (d_law_draw.kws K) (d_law_draw.at_ K) fd := T.says.def_ 29 (d := d_law_draw)
theorem Txt.f_law_tag {K : Fg} {mg : Str → Option Value} (T : Txt K mg) : ∃ fd, FunD K d_law_tag.name d_law_tag.qual (fnArgs s_law_tag) (fnBody s_law_tag) (fnScope s_law_tag) (d_law_tag.dvs K) (d_law_tag.kws K) (d_law_tag.at_ K) fd := T.says.def_ 30 (d := d_law_tag)
theorem Txt.f_law_wire {K : Fg} {mg : Str → Option Value} (T : Txt K mg) : ∃ fd, FunD K d_law_wire.name d_law_wire.qual (fnArgs s_law_wire) (fnBody s_law_wire) (fnScope s_law_wire) (d_law_wire.dvs K) (d_law_wire.kws K) (d_law_wire.at_ K) fd := T.says.def_ 31 (d := d_law_wire)
theorem Txt.f_law_plan {K : Fg} {mg : Str → Option Value} (T : Txt K mg) : ∃ fd, FunD K d_law_plan.name d_law_plan.qual (fnArgs s_law_plan) (fnBody s_law_plan) (fnScope s_law_plan) (d_law_plan.dvs K) (d_law_plan.kws K) (d_law_plan.at_ K) fd := T.says.def_ 32 (d := d_law_plan)
theorem Txt.f_law_line {K : Fg} {mg : Str → Option Value} (T : Txt K mg) : ∃ fd, FunD K d_law_line.name d_law_line.qual (fnArgs s_law_line) (fnBody s_law_line) (fnScope s_law_line) (d_law_line.dvs K) (d_law_line.kws K) (d_law_line.at_ K) fd := T.says.def_ 33 (d := d_law_line)
theorem Txt.f_law_play {K : Fg} {mg : Str → Option Value} (T : Txt K mg) : ∃ fd, FunD K d_law_play.name d_law_play.qual (fnArgs s_law_play) (fnBody s_law_play) (fnScope s_law_play) (d_law_play.dvs K) (d_law_play.kws K) (d_law_play.at_ K) fd := T.says.def_ 34 (d := d_law_play)
theorem Txt.f_law_span {K : Fg} {mg : Str → Option Value} (T : Txt K mg) : ∃ fd, FunD K d_law_span.name d_law_span.qual (fnArgs s_law_span) (fnBody s_law_span) (fnScope s_law_span) (d_law_span.dvs K) (d_law_span.kws K) (d_law_span.at_ K) fd := T.says.def_ 35 (d := d_law_span)
theorem Txt.f_law_spans {K : Fg} {mg : Str → Option Value} (T : Txt K mg) : ∃ fd, FunD K d_law_spans.name d_law_spans.qual (fnArgs s_law_spans) (fnBody s_law_spans) (fnScope s_law_spans) (d_law_spans.dvs K) (d_law_spans.kws K) (d_law_spans.at_ K) fd := T.says.def_ 36 (d := d_law_spans)
theorem Txt.f_law_busy {K : Fg} {mg : Str → Option Value} (T : Txt K mg) : ∃ fd, FunD K d_law_busy.name d_law_busy.qual (fnArgs s_law_busy) (fnBody s_law_busy) (fnScope s_law_busy) (d_law_busy.dvs K) (d_law_busy.kws K) (d_law_busy.at_ K) fd := T.says.def_ 37 (d := d_law_busy)
theorem Txt.f_law_right {K : Fg} {mg : Str → Option Value} (T : Txt K mg) : ∃ fd, FunD K d_law_right.name d_law_right.qual (fnArgs s_law_right) (fnBody s_law_right) (fnScope s_law_right) (d_law_right.dvs K) (d_law_right.kws K) (d_law_right.at_ K) fd := T.says.def_ 38 (d := d_law_right)
theorem Txt.f_law {K : Fg} {mg : Str → Option Value} (T : Txt K mg) : ∃ fd, FunD K d_law.name d_law.qual (fnArgs s_law) (fnBody s_law) (fnScope s_law) (d_law.dvs K) (d_law.kws K) (d_law.at_ K) fd := T.says.def_ 39 (d := d_law)
theorem Txt.f_Station_init {K : Fg} {mg : Str → Option Value} (T : Txt K mg) : ∃ fd, FunD K d_Station_init.name d_Station_init.qual (fnArgs s_Station_init) (fnBody s_Station_init) (fnScope s_Station_init) (d_Station_init.dvs K) (d_Station_init.kws K) (d_Station_init.at_ K) fd := T.says.def_ 40 (d := d_Station_init)
theorem Txt.f_Link_init {K : Fg} {mg : Str → Option Value} (T : Txt K mg) : ∃ fd, FunD K d_Link_init.name d_Link_init.qual (fnArgs s_Link_init) (fnBody s_Link_init) (fnScope s_Link_init) (d_Link_init.dvs K) (d_Link_init.kws K) (d_Link_init.at_ K) fd := T.says.def_ 41 (d := d_Link_init)
theorem Txt.f_Line_init {K : Fg} {mg : Str → Option Value} (T : Txt K mg) : ∃ fd, FunD K d_Line_init.name d_Line_init.qual (fnArgs s_Line_init) (fnBody s_Line_init) (fnScope s_Line_init) (d_Line_init.dvs K) (d_Line_init.kws K) (d_Line_init.at_ K) fd := T.says.def_ 42 (d := d_Line_init)
theorem Txt.f_Line_len {K : Fg} {mg : Str → Option Value} (T : Txt K mg) : ∃ fd, FunD K d_Line_len.name d_Line_len.qual (fnArgs s_Line_len) (fnBody s_Line_len) (fnScope s_Line_len) (d_Line_len.dvs K) (d_Line_len.kws K) (d_Line_len.at_ K) fd := T.says.def_ 43 (d := d_Line_len)
theorem Txt.f_Lags_init {K : Fg} {mg : Str → Option Value} (T : Txt K mg) : ∃ fd, FunD K d_Lags_init.name d_Lags_init.qual (fnArgs s_Lags_init) (fnBody s_Lags_init) (fnScope s_Lags_init) (d_Lags_init.dvs K) (d_Lags_init.kws K) (d_Lags_init.at_ K) fd := T.says.def_ 44 (d := d_Lags_init)
theorem Txt.f_FormedLags_init {K : Fg} {mg : Str → Option Value} (T : Txt K mg) : ∃ fd, FunD K d_FormedLags_init.name d_FormedLags_init.qual (fnArgs s_FormedLags_init) (fnBody s_FormedLags_init) (fnScope s_FormedLags_init) (d_FormedLags_init.dvs K) (d_FormedLags_init.kws K) (d_FormedLags_init.at_ K) fd := T.says.def_ 45 (d := d_FormedLags_init)
theorem Txt.f_Walk_init {K : Fg} {mg : Str → Option Value} (T : Txt K mg) : ∃ fd, FunD K d_Walk_init.name d_Walk_init.qual (fnArgs s_Walk_init) (fnBody s_Walk_init) (fnScope s_Walk_init) (d_Walk_init.dvs K) (d_Walk_init.kws K) (d_Walk_init.at_ K) fd := T.says.def_ 46 (d := d_Walk_init)
theorem Txt.f_Walk_lags_at {K : Fg} {mg : Str → Option Value} (T : Txt K mg) : ∃ fd, FunD K d_Walk_lags_at.name d_Walk_lags_at.qual (fnArgs s_Walk_lags_at) (fnBody s_Walk_lags_at) (fnScope s_Walk_lags_at) (d_Walk_lags_at.dvs K) (d_Walk_lags_at.kws K) (d_Walk_lags_at.at_ K) fd := T.says.def_ 47 (d := d_Walk_lags_at)
theorem Txt.f_Walk_ends {K : Fg} {mg : Str → Option Value} (T : Txt K mg) : ∃ fd, FunD K d_Walk_ends.name d_Walk_ends.qual (fnArgs s_Walk_ends) (fnBody s_Walk_ends) (fnScope s_Walk_ends) (d_Walk_ends.dvs K) (d_Walk_ends.kws K) (d_Walk_ends.at_ K) fd := T.says.def_ 48 (d := d_Walk_ends)
theorem Txt.f_Walk_begins {K : Fg} {mg : Str → Option Value} (T : Txt K mg) : ∃ fd, FunD K d_Walk_begins.name d_Walk_begins.qual (fnArgs s_Walk_begins) (fnBody s_Walk_begins) (fnScope s_Walk_begins) (d_Walk_begins.dvs K) (d_Walk_begins.kws K) (d_Walk_begins.at_ K) fd := T.says.def_ 49 (d := d_Walk_begins)
theorem Txt.f_Orders_init {K : Fg} {mg : Str → Option Value} (T : Txt K mg) : ∃ fd, FunD K d_Orders_init.name d_Orders_init.qual (fnArgs s_Orders_init) (fnBody s_Orders_init) (fnScope s_Orders_init) (d_Orders_init.dvs K) (d_Orders_init.kws K) (d_Orders_init.at_ K) fd := T.says.def_ 50 (d := d_Orders_init)
theorem Txt.f_Orders_between {K : Fg} {mg : Str → Option Value} (T : Txt K mg) : ∃ fd, FunD K d_Orders_between.name d_Orders_between.qual (fnArgs s_Orders_between) (fnBody s_Orders_between) (fnScope s_Orders_between) (d_Orders_between.dvs K) (d_Orders_between.kws K) (d_Orders_between.at_ K) fd := T.says.def_ 51 (d := d_Orders_between)
theorem Txt.f_Exchange_init {K : Fg} {mg : Str → Option Value} (T : Txt K mg) : ∃ fd, FunD K d_Exchange_init.name d_Exchange_init.qual (fnArgs s_Exchange_init) (fnBody s_Exchange_init) (fnScope s_Exchange_init) (d_Exchange_init.dvs K) (d_Exchange_init.kws K) (d_Exchange_init.at_ K) fd := T.says.def_ 52 (d := d_Exchange_init)
theorem Txt.f_Exchange_cheapest {K : Fg} {mg : Str → Option Value} (T : Txt K mg) : ∃ fd, FunD K d_Exchange_cheapest.name d_Exchange_cheapest.qual (fnArgs s_Exchange_cheapest) (fnBody s_Exchange_cheapest) (fnScope s_Exchange_cheapest) (d_Exchange_cheapest.dvs K) (d_Exchange_cheapest.kws K) (d_Exchange_cheapest.at_ K) fd := T.says.def_ 53 (d := d_Exchange_cheapest)
theorem Txt.f_Exchange_floors {K : Fg} {mg : Str → Option Value} (T : Txt K mg) : ∃ fd, FunD K d_Exchange_floors.name d_Exchange_floors.qual (fnArgs s_Exchange_floors) (fnBody s_Exchange_floors) (fnScope s_Exchange_floors) (d_Exchange_floors.dvs K) (d_Exchange_floors.kws K) (d_Exchange_floors.at_ K) fd := T.says.def_ 54 (d := d_Exchange_floors)
theorem Txt.f_Exchange_tasks_apart {K : Fg} {mg : Str → Option Value} (T : Txt K mg) : ∃ fd, FunD K d_Exchange_tasks_apart.name d_Exchange_tasks_apart.qual (fnArgs s_Exchange_tasks_apart) (fnBody s_Exchange_tasks_apart) (fnScope s_Exchange_tasks_apart) (d_Exchange_tasks_apart.dvs K) (d_Exchange_tasks_apart.kws K) (d_Exchange_tasks_apart.at_ K) fd := T.says.def_ 55 (d := d_Exchange_tasks_apart)
theorem Txt.f_Station_name {K : Fg} {mg : Str → Option Value} (T : Txt K mg) : ∃ fd, FunD K d_Station_name.name d_Station_name.qual (fnArgs s_Station_name) (fnBody s_Station_name) (fnScope s_Station_name) (d_Station_name.dvs K) (d_Station_name.kws K) (d_Station_name.at_ K) fd := T.says.def_ 56 (d := d_Station_name)
theorem Txt.f_Station_hands {K : Fg} {mg : Str → Option Value} (T : Txt K mg) : ∃ fd, FunD K d_Station_hands.name d_Station_hands.qual (fnArgs s_Station_hands) (fnBody s_Station_hands) (fnScope s_Station_hands) (d_Station_hands.dvs K) (d_Station_hands.kws K) (d_Station_hands.at_ K) fd := T.says.def_ 57 (d := d_Station_hands)
theorem Txt.f_Station_timed {K : Fg} {mg : Str → Option Value} (T : Txt K mg) : ∃ fd, FunD K d_Station_timed.name d_Station_timed.qual (fnArgs s_Station_timed) (fnBody s_Station_timed) (fnScope s_Station_timed) (d_Station_timed.dvs K) (d_Station_timed.kws K) (d_Station_timed.at_ K) fd := T.says.def_ 58 (d := d_Station_timed)
theorem Txt.f_Link_source {K : Fg} {mg : Str → Option Value} (T : Txt K mg) : ∃ fd, FunD K d_Link_source.name d_Link_source.qual (fnArgs s_Link_source) (fnBody s_Link_source) (fnScope s_Link_source) (d_Link_source.dvs K) (d_Link_source.kws K) (d_Link_source.at_ K) fd := T.says.def_ 59 (d := d_Link_source)
theorem Txt.f_Link_target {K : Fg} {mg : Str → Option Value} (T : Txt K mg) : ∃ fd, FunD K d_Link_target.name d_Link_target.qual (fnArgs s_Link_target) (fnBody s_Link_target) (fnScope s_Link_target) (d_Link_target.dvs K) (d_Link_target.kws K) (d_Link_target.at_ K) fd := T.says.def_ 60 (d := d_Link_target)
theorem Txt.f_Link_stock {K : Fg} {mg : Str → Option Value} (T : Txt K mg) : ∃ fd, FunD K d_Link_stock.name d_Link_stock.qual (fnArgs s_Link_stock) (fnBody s_Link_stock) (fnScope s_Link_stock) (d_Link_stock.dvs K) (d_Link_stock.kws K) (d_Link_stock.at_ K) fd := T.says.def_ 61 (d := d_Link_stock)
theorem Txt.f_Link_early {K : Fg} {mg : Str → Option Value} (T : Txt K mg) : ∃ fd, FunD K d_Link_early.name d_Link_early.qual (fnArgs s_Link_early) (fnBody s_Link_early) (fnScope s_Link_early) (d_Link_early.dvs K) (d_Link_early.kws K) (d_Link_early.at_ K) fd := T.says.def_ 62 (d := d_Link_early)
theorem Txt.f_Line_stations {K : Fg} {mg : Str → Option Value} (T : Txt K mg) : ∃ fd, FunD K d_Line_stations.name d_Line_stations.qual (fnArgs s_Line_stations) (fnBody s_Line_stations) (fnScope s_Line_stations) (d_Line_stations.dvs K) (d_Line_stations.kws K) (d_Line_stations.at_ K) fd := T.says.def_ 63 (d := d_Line_stations)
theorem Txt.f_Line_links {K : Fg} {mg : Str → Option Value} (T : Txt K mg) : ∃ fd, FunD K d_Line_links.name d_Line_links.qual (fnArgs s_Line_links) (fnBody s_Line_links) (fnScope s_Line_links) (d_Line_links.dvs K) (d_Line_links.kws K) (d_Line_links.at_ K) fd := T.says.def_ 64 (d := d_Line_links)
theorem Txt.f_Line_outlet {K : Fg} {mg : Str → Option Value} (T : Txt K mg) : ∃ fd, FunD K d_Line_outlet.name d_Line_outlet.qual (fnArgs s_Line_outlet) (fnBody s_Line_outlet) (fnScope s_Line_outlet) (d_Line_outlet.dvs K) (d_Line_outlet.kws K) (d_Line_outlet.at_ K) fd := T.says.def_ 65 (d := d_Line_outlet)
theorem Txt.f_Line_names {K : Fg} {mg : Str → Option Value} (T : Txt K mg) : ∃ fd, FunD K d_Line_names.name d_Line_names.qual (fnArgs s_Line_names) (fnBody s_Line_names) (fnScope s_Line_names) (d_Line_names.dvs K) (d_Line_names.kws K) (d_Line_names.at_ K) fd := T.says.def_ 66 (d := d_Line_names)
theorem Txt.f_Line_timed {K : Fg} {mg : Str → Option Value} (T : Txt K mg) : ∃ fd, FunD K d_Line_timed.name d_Line_timed.qual (fnArgs s_Line_timed) (fnBody s_Line_timed) (fnScope s_Line_timed) (d_Line_timed.dvs K) (d_Line_timed.kws K) (d_Line_timed.at_ K) fd := T.says.def_ 67 (d := d_Line_timed)
theorem Txt.f_Lags_members {K : Fg} {mg : Str → Option Value} (T : Txt K mg) : ∃ fd, FunD K d_Lags_members.name d_Lags_members.qual (fnArgs s_Lags_members) (fnBody s_Lags_members) (fnScope s_Lags_members) (d_Lags_members.dvs K) (d_Lags_members.kws K) (d_Lags_members.at_ K) fd := T.says.def_ 68 (d := d_Lags_members)
theorem Txt.f_Lags_first {K : Fg} {mg : Str → Option Value} (T : Txt K mg) : ∃ fd, FunD K d_Lags_first.name d_Lags_first.qual (fnArgs s_Lags_first) (fnBody s_Lags_first) (fnScope s_Lags_first) (d_Lags_first.dvs K) (d_Lags_first.kws K) (d_Lags_first.at_ K) fd := T.says.def_ 69 (d := d_Lags_first)
end Tx

/-! text Hd3 -/
set_option Elab.async false
set_option linter.all false
set_option maxRecDepth 100000
set_option maxHeartbeats 0
namespace Hd
open PySem PySem.W PySem.Calls PyProof.Rows HandSHeadRun
abbrev R : OpenRow := OpenLaw.row PySem.Challenge.rw_owntimes_k50_whole_none_more_for_any_tim
abbrev qv : Program := view R.prog [110]
def names0 : List PySem.Str := [PySem.Str.ofString "_wall", PySem.Str.ofString "WrongValue", PySem.Str.ofString "InvalidPeriod", PySem.Str.ofString "InvalidText", PySem.Str.ofString "InvalidName", PySem.Str.ofString "InvalidHands", PySem.Str.ofString "InvalidStock", PySem.Str.ofString "InvalidFlag", PySem.Str.ofString "InvalidOutlet", PySem.Str.ofString "NotLags", PySem.Str.ofString "NotALine", PySem.Str.ofString "InvalidNumbers", PySem.Str.ofString "InvalidStations", PySem.Str.ofString "InvalidLinks", PySem.Str.ofString "InvalidNames", PySem.Str.ofString "WrongName", PySem.Str.ofString "UnknownName", PySem.Str.ofString "Taken", PySem.Str.ofString "NoAnswer", PySem.Str.ofString "TooMany", PySem.Str.ofString "Stuck", PySem.Str.ofString "MOST_STATIONS", PySem.Str.ofString "MOST_LINKS", PySem.Str.ofString "MOST_HANDS", PySem.Str.ofString "MOST_STOCK", PySem.Str.ofString "MOST_LAGS", PySem.Str.ofString "LETTERS", PySem.Str.ofString "DIGITS", PySem.Str.ofString "MOST_SIGNS", PySem.Str.ofString "is_integer", PySem.Str.ofString "is_name", PySem.Str.ofString "numeral_of", PySem.Str.ofString "check_name", PySem.Str.ofString "check_flag", PySem.Str.ofString "Station"]
def names1 : List PySem.Str := [PySem.Str.ofString "Link", PySem.Str.ofString "check_stations", PySem.Str.ofString "check_links", PySem.Str.ofString "hands_in", PySem.Str.ofString "station_in", PySem.Str.ofString "link_in", PySem.Str.ofString "line_with", PySem.Str.ofString "line_in", PySem.Str.ofString "Line", PySem.Str.ofString "text_of", PySem.Str.ofString "text_of_lines", PySem.Str.ofString "place_of", PySem.Str.ofString "check_line", PySem.Str.ofString "MOST_MEMBER", PySem.Str.ofString "MOST_PERIOD", PySem.Str.ofString "MOST_READ", PySem.Str.ofString "check_numbers", PySem.Str.ofString "least_period", PySem.Str.ofString "least_form", PySem.Str.ofString "flags_of", PySem.Str.ofString "flag_at", PySem.Str.ofString "text_of_lagsets", PySem.Str.ofString "period_in", PySem.Str.ofString "form_in", PySem.Str.ofString "Lags", PySem.Str.ofString "check_lags", PySem.Str.ofString "FormedLags", PySem.Str.ofString "lags_with", PySem.Str.ofString "bounded", PySem.Str.ofString "common_multiple", PySem.Str.ofString "both_ends", PySem.Str.ofString "form_left", PySem.Str.ofString "mask_of", PySem.Str.ofString "mask_of_sums", PySem.Str.ofString "form_of_sums"]
def names2 : List PySem.Str := [PySem.Str.ofString "lags_of", PySem.Str.ofString "ends_of", PySem.Str.ofString "rings_from", PySem.Str.ofString "rings", PySem.Str.ofString "stuck", PySem.Str.ofString "check_free", PySem.Str.ofString "width_of", PySem.Str.ofString "entries_of", PySem.Str.ofString "is_begun", PySem.Str.ofString "next_row", PySem.Str.ofString "Walk", PySem.Str.ofString "walked", PySem.Str.ofString "Orders", PySem.Str.ofString "chosen_names", PySem.Str.ofString "Exchange", PySem.Str.ofString "exchange_of", PySem.Str.ofString "most_at_once", PySem.Str.ofString "overlapping", PySem.Str.ofString "_law_cell", PySem.Str.ofString "_law_pool", PySem.Str.ofString "_law_draw", PySem.Str.ofString "_law_tag", PySem.Str.ofString "_law_wire", PySem.Str.ofString "_law_plan", PySem.Str.ofString "_law_line", PySem.Str.ofString "_law_play", PySem.Str.ofString "_law_span", PySem.Str.ofString "_law_spans", PySem.Str.ofString "_law_busy", PySem.Str.ofString "_law_right"]
def names : List PySem.Str := names0 ++ names1 ++ names2
abbrev hk : Hook := Tx.hookY
def ob (s : SharedT) : Tx.AlY := Tx.obsYG (HandSHeadRun.getT s)
theorem ob_eq (s : SharedT) : ob s = hk.obs s.abs := Tx.obsYG_eq (HandSHeadRun.getT_eq s)
theorem map_three {σ α β γ δ : Type} {x : Option σ} {f : σ → α} {g : σ → β} {h : σ → γ × δ} {a : α} {b : β} {c : γ} {d : δ} (h1 : x.map (fun s => (f s, g s)) = some (a, b)) (h2 : x.map (fun s => (h s).1) = some c) (h3 : x.map (fun s => (h s).2) = some d) : x.map (fun s => (f s, g s, h s)) = some (a, b, (c, d)) := by
  cases x with
  | none => cases h1
  | some s =>
    simp only [Option.map_some, Option.some.injEq, Prod.mk.injEq] at h1 h2 h3 ⊢
    exact ⟨h1.1, h1.2, Prod.ext h2 h3⟩
theorem runA (w : World) : ∀ os : OsState, (endF (stepQ (denQ tabQ) R.prog w) 30000 R.prog w os).map (fun s => (looksF R.prog (boot_heap w.params) s.abs, seenQ qv names (importedModules R.prog.main.body) (fun s => xlAt qv [] s && recOk R.toRowW.records s) s.abs)) = some (true, openGood qv names) := by
  intro os
  kernel_rfl
theorem runB (w : World) : ∀ os : OsState, (endF (stepQ (denQ tabQ) R.prog w) 30000 R.prog w os).map (fun s => (ob s).1) = some true := by
  intro os
  kernel_rfl
theorem runC (w : World) : ∀ os : OsState, (endF (stepQ (denQ tabQ) R.prog w) 30000 R.prog w os).map (fun s => (ob s).2) = some Tx.valY.2 := by
  intro os
  kernel_rfl
theorem run (w : World) : RunEq R qv hk ob 30000 names w := fun os => map_three (h := ob) (c := true) (d := Tx.valY.2) (runA w os) (runB w os) (runC w os)
end Hd

/-! text Sd1 -/
set_option Elab.async false
set_option linter.all false
set_option maxRecDepth 100000
set_option maxHeartbeats 2000000
/-! Sd1: data, what stands for data, the state of a def's body. -/
namespace Sd
open PySem PySem.Spec PyProof.Rows L2

/-- data: what a value is, whatever its address -/
inductive D where
  | non | bl (b : Bool) | int (i : Int) | str (s : Str)
  | tup (ds : List D) | lst (ds : List D)
  | ins (C : Addr) (ks : List Str) (ds : List D)
  | dK (ks : List Key) (ds : List D)
  | dT (ks : List (List Key)) (ds : List D)
  | key (ks : List Key)

/-- what was there is there -/
def Ex (H H' : Hp) : Prop := ∀ a o, H a = some o → H' a = some o
theorem Ex.refl (H : Hp) : Ex H H := fun _ _ h => h
theorem Ex.trans {H H1 H2 : Hp} (a : Ex H H1) (b : Ex H1 H2) : Ex H H2 := fun x o h => b x o (a x o h)
theorem Ex.rd {H H' : Hp} {a : Addr} {u : HO} (e : Ex H H') (h : Rd H a u) : Rd H' a u := by
  rcases h with h | ⟨o, h⟩
  · exact Or.inl (e a _ h)
  · exact Or.inr ⟨o, e a _ h⟩
theorem Ex.l {K : Fg} {H H' : Hp} {a : Addr} {xs : List V} (e : Ex H H') (h : SqL K H a xs) : SqL K H' a xs := by
  rcases h with h | h
  · exact Or.inl (e.rd h)
  · exact Or.inr h
theorem Ex.t {K : Fg} {H H' : Hp} {a : Addr} {xs : List V} (e : Ex H H') (h : SqT K H a xs) : SqT K H' a xs := by
  rcases h with h | h
  · exact Or.inl (e.rd h)
  · exact Or.inr h

mutual
def Rp (K : Fg) (H : Hp) : D → V → Prop
  | .non, v => v = .non
  | .bl b, v => v = .bl b
  | .int i, v => v = .int i
  | .str s, v => v = .str s
  | .tup ds, v => ∃ a xs, v = .ref a ∧ SqT K H a xs ∧ RpL K H ds xs
  | .lst ds, v => ∃ a xs, v = .ref a ∧ SqL K H a xs ∧ RpL K H ds xs
  | .ins C ks ds, v => ∃ a dx xs, v = .ref a ∧ H a = some (.ins C dx (ks.zip xs)) ∧ ks.length = xs.length ∧ RpL K H ds xs
  | .dK ks ds, v => ∃ a xs, v = .ref a ∧ Rd H a (.dK (ks.zip xs)) ∧ ks.length = xs.length ∧ RpL K H ds xs
  | .dT ks ds, v => ∃ a xs, v = .ref a ∧ Rd H a (.dT (ks.zip xs)) ∧ ks.length = xs.length ∧ RpL K H ds xs
  | .key ks, v => ∃ a, v = .ref a ∧ H a = some (.tup (ks.map kV))
def RpL (K : Fg) (H : Hp) : List D → List V → Prop
  | [], xs => xs = []
  | d :: ds, xs => ∃ y ys, xs = y :: ys ∧ Rp K H d y ∧ RpL K H ds ys
end
mutual
theorem Rp.mono {K : Fg} {H H' : Hp} (e : Ex H H') : ∀ {d : D} {v : V}, Rp K H d v → Rp K H' d v
  | .non, _, h => by simpa only [Rp] using h
  | .bl _, _, h => by simpa only [Rp] using h
  | .int _, _, h => by simpa only [Rp] using h
  | .str _, _, h => by simpa only [Rp] using h
  | .tup ds, _, h => by
    simp only [Rp] at h ⊢
    obtain ⟨a, xs, h1, h2, h3⟩ := h
    exact ⟨a, xs, h1, e.t h2, RpL.mono e h3⟩
  | .lst ds, _, h => by
    simp only [Rp] at h ⊢
    obtain ⟨a, xs, h1, h2, h3⟩ := h
    exact ⟨a, xs, h1, e.l h2, RpL.mono e h3⟩
  | .ins C ks ds, _, h => by
    simp only [Rp] at h ⊢
    obtain ⟨a, dx, xs, h1, h2, h4, h3⟩ := h
    exact ⟨a, dx, xs, h1, e _ _ h2, h4, RpL.mono e h3⟩
  | .dK ks ds, _, h => by
    simp only [Rp] at h ⊢
    obtain ⟨a, xs, h1, h2, h4, h3⟩ := h
    exact ⟨a, xs, h1, e.rd h2, h4, RpL.mono e h3⟩
  | .dT ks ds, _, h => by
    simp only [Rp] at h ⊢
    obtain ⟨a, xs, h1, h2, h4, h3⟩ := h
    exact ⟨a, xs, h1, e.rd h2, h4, RpL.mono e h3⟩
  | .key ks, _, h => by
    simp only [Rp] at h ⊢
    obtain ⟨a, h1, h2⟩ := h
    exact ⟨a, h1, e _ _ h2⟩
theorem RpL.mono {K : Fg} {H H' : Hp} (e : Ex H H') : ∀ {ds : List D} {vs : List V}, RpL K H ds vs → RpL K H' ds vs
  | [], _, h => by simpa only [RpL] using h
  | d :: ds, _, h => by
    simp only [RpL] at h ⊢
    obtain ⟨y, ys, h1, h2, h3⟩ := h
    exact ⟨y, ys, h1, Rp.mono e h2, RpL.mono e h3⟩
end

section
variable {K : Fg} {B B' H H' : Hp}
theorem RpL.length : ∀ {ds : List D} {vs : List V}, RpL K H ds vs → ds.length = vs.length
  | [], _, h => by simp only [RpL] at h; rw [h]; rfl
  | d :: ds, _, h => by
    simp only [RpL] at h
    obtain ⟨y, ys, h1, _, h3⟩ := h
    rw [h1, List.length_cons, List.length_cons, RpL.length h3]
theorem RpL.get : ∀ {ds : List D} {vs : List V} {i : Nat} {d : D}, RpL K H ds vs → ds[i]? = some d → ∃ v, vs[i]? = some v ∧ Rp K H d v
  | [], _, _, _, _, e => by simp at e
  | d :: ds, _, 0, _, h, e => by
    simp only [RpL] at h
    obtain ⟨y, ys, h1, h2, h3⟩ := h
    rw [h1]
    simp only [List.getElem?_cons_zero, Option.some.injEq] at e ⊢
    rw [← e]
    exact ⟨y, rfl, h2⟩
  | d :: ds, _, i + 1, _, h, e => by
    simp only [RpL] at h
    obtain ⟨y, ys, h1, h2, h3⟩ := h
    rw [h1]
    simp only [List.getElem?_cons_succ] at e ⊢
    exact RpL.get h3 e
theorem RpL.get' {ds : List D} {vs : List V} {i : Nat} {v : V} (h : RpL K H ds vs) (e : vs[i]? = some v) : ∃ d, ds[i]? = some d ∧ Rp K H d v := by
  have hl := h.length
  have hi : i < vs.length := (List.getElem?_eq_some_iff.mp e).1
  have hd : ds[i]? = some ds[i] := List.getElem?_eq_getElem (by omega)
  obtain ⟨w, e2, h2⟩ := h.get hd
  rw [e] at e2
  cases e2
  exact ⟨_, hd, h2⟩
theorem RpL.nil : RpL K H [] [] := by simp only [RpL]
theorem RpL.cons {d : D} {v : V} {ds : List D} {vs : List V} (a : Rp K H d v) (b : RpL K H ds vs) : RpL K H (d :: ds) (v :: vs) := by
  simp only [RpL]
  exact ⟨v, vs, rfl, a, b⟩
theorem RpL.append : ∀ {ds es : List D} {vs ws : List V}, RpL K H ds vs → RpL K H es ws → RpL K H (ds ++ es) (vs ++ ws)
  | [], es, _, ws, h, k => by
    simp only [RpL] at h
    rw [h]
    exact k
  | d :: ds, es, _, ws, h, k => by
    simp only [RpL] at h
    obtain ⟨y, ys, h1, h2, h3⟩ := h
    rw [h1]
    exact RpL.cons h2 (RpL.append h3 k)
theorem RpL.of_get : ∀ {ds : List D} {vs : List V}, ds.length = vs.length → (∀ (i : Nat) d v, ds[i]? = some d → vs[i]? = some v → Rp K H d v) → RpL K H ds vs
  | [], [], _, _ => RpL.nil
  | [], _ :: _, h, _ => by simp at h
  | _ :: _, [], h, _ => by simp at h
  | d :: ds, v :: vs, h, k => RpL.cons (k 0 d v rfl rfl) (RpL.of_get (by simpa using h) fun i d' v' e1 e2 => k (i + 1) d' v' (by simpa using e1) (by simpa using e2))
theorem RpL.take {ds : List D} {vs : List V} (n : Nat) (h : RpL K H ds vs) : RpL K H (ds.take n) (vs.take n) :=
  RpL.of_get (by rw [List.length_take, List.length_take, h.length]) fun i d v e1 e2 => by
    rw [List.getElem?_take] at e1 e2
    split at e1
    · rename_i q
      rw [if_pos q] at e2
      obtain ⟨w, e3, r⟩ := h.get e1
      rw [e2] at e3
      cases e3
      exact r
    · cases e1
theorem RpL.drop {ds : List D} {vs : List V} (n : Nat) (h : RpL K H ds vs) : RpL K H (ds.drop n) (vs.drop n) :=
  RpL.of_get (by rw [List.length_drop, List.length_drop, h.length]) fun i d v e1 e2 => by
    rw [List.getElem?_drop] at e1 e2
    obtain ⟨w, e3, r⟩ := h.get e1
    rw [e2] at e3
    cases e3
    exact r
end

/-- what a slot holds: nothing known; data; the address of an object of one's own -/
inductive SV where
  | un | val (d : D) | ptr (p : Addr)
/-- what an object of one's own holds -/
inductive OC where
  | lst (xs : List SV)
  | ins (C dx : Addr) (ks : List Str) (xs : List SV)
  | dK (ks : List Key) (xs : List SV)
  | dT (ks : List (List Key)) (xs : List SV)
  | raw (o : HO)
  | abs (φ : HO → Prop)
  | tup (xs : List SV)
  | mon (ψ : Hp → HO → Prop) (m : ∀ B B' o, Ex B B' → ψ B o → ψ B' o)
abbrev Ow := List (Addr × OC)
abbrev En := List SV
def RpS (K : Fg) (B : Hp) : SV → V → Prop
  | .un, _ => True
  | .val d, v => Rp K B d v
  | .ptr p, v => v = .ref p
def RpSL (K : Fg) (B : Hp) : List SV → List V → Prop
  | [], xs => xs = []
  | s :: ss, xs => ∃ y ys, xs = y :: ys ∧ RpS K B s y ∧ RpSL K B ss ys
theorem RpS.mono {K : Fg} {B B' : Hp} (e : Ex B B') : ∀ {s : SV} {v : V}, RpS K B s v → RpS K B' s v
  | .un, _, _ => trivial
  | .val _, _, h => Rp.mono e h
  | .ptr _, _, h => h
section
variable {K : Fg} {B B' H H' : Hp}
theorem RpSL.mono (e : Ex B B') : ∀ {ss : List SV} {vs : List V}, RpSL K B ss vs → RpSL K B' ss vs
  | [], _, h => h
  | _ :: _, _, ⟨y, ys, h1, h2, h3⟩ => ⟨y, ys, h1, h2.mono e, RpSL.mono e h3⟩
theorem RpSL.nil : RpSL K B [] [] := rfl
theorem RpSL.cons {s : SV} {v : V} {ss : List SV} {vs : List V} (a : RpS K B s v) (b : RpSL K B ss vs) : RpSL K B (s :: ss) (v :: vs) := ⟨v, vs, rfl, a, b⟩
theorem RpSL.length : ∀ {ss : List SV} {vs : List V}, RpSL K B ss vs → ss.length = vs.length
  | [], _, h => by rw [show _ = [] from h]; rfl
  | _ :: _, _, ⟨y, ys, h1, _, h3⟩ => by rw [h1, List.length_cons, List.length_cons, RpSL.length h3]
theorem RpSL.get : ∀ {ss : List SV} {vs : List V} {i : Nat} {s : SV}, RpSL K B ss vs → ss[i]? = some s → ∃ v, vs[i]? = some v ∧ RpS K B s v
  | [], _, _, _, _, e => by simp at e
  | _ :: _, _, 0, _, ⟨y, ys, h1, h2, h3⟩, e => by
    rw [h1]
    simp only [List.getElem?_cons_zero, Option.some.injEq] at e ⊢
    rw [← e]
    exact ⟨y, rfl, h2⟩
  | _ :: _, _, i + 1, _, ⟨y, ys, h1, h2, h3⟩, e => by
    rw [h1]
    simp only [List.getElem?_cons_succ] at e ⊢
    exact RpSL.get h3 e
theorem RpSL.get' {ss : List SV} {vs : List V} {i : Nat} {v : V} (h : RpSL K B ss vs) (e : vs[i]? = some v) : ∃ s, ss[i]? = some s ∧ RpS K B s v := by
  have hl := h.length
  have hi : i < vs.length := (List.getElem?_eq_some_iff.mp e).1
  have hd : ss[i]? = some ss[i] := List.getElem?_eq_getElem (by omega)
  obtain ⟨w, e2, h2⟩ := h.get hd
  rw [e] at e2
  cases e2
  exact ⟨_, hd, h2⟩
theorem RpSL.of_get : ∀ {ss : List SV} {vs : List V}, ss.length = vs.length → (∀ (i : Nat) s v, ss[i]? = some s → vs[i]? = some v → RpS K B s v) → RpSL K B ss vs
  | [], [], _, _ => RpSL.nil
  | [], _ :: _, h, _ => by simp at h
  | _ :: _, [], h, _ => by simp at h
  | d :: ds, v :: vs, h, k => RpSL.cons (k 0 d v rfl rfl) (RpSL.of_get (by simpa using h) fun i d' v' e1 e2 => k (i + 1) d' v' (by simpa using e1) (by simpa using e2))
theorem RpSL.append : ∀ {ss tt : List SV} {vs ws : List V}, RpSL K B ss vs → RpSL K B tt ws → RpSL K B (ss ++ tt) (vs ++ ws)
  | [], _, _, _, h, k => by
    rw [show _ = [] from h]
    exact k
  | _ :: _, _, _, _, ⟨y, ys, h1, h2, h3⟩, k => by
    rw [h1]
    exact RpSL.cons h2 (RpSL.append h3 k)
theorem RpSL.take {ss : List SV} {vs : List V} (n : Nat) (h : RpSL K B ss vs) : RpSL K B (ss.take n) (vs.take n) :=
  RpSL.of_get (by rw [List.length_take, List.length_take, h.length]) fun i d v e1 e2 => by
    rw [List.getElem?_take] at e1 e2
    split at e1
    · rename_i q
      rw [if_pos q] at e2
      obtain ⟨w, e3, r⟩ := h.get e1
      rw [e2] at e3
      cases e3
      exact r
    · cases e1
theorem RpSL.drop {ss : List SV} {vs : List V} (n : Nat) (h : RpSL K B ss vs) : RpSL K B (ss.drop n) (vs.drop n) :=
  RpSL.of_get (by rw [List.length_drop, List.length_drop, h.length]) fun i d v e1 e2 => by
    rw [List.getElem?_drop] at e1 e2
    obtain ⟨w, e3, r⟩ := h.get e1
    rw [e2] at e3
    cases e3
    exact r
theorem RpSL.set {s : SV} {v : V} (r : RpS K B s v) {ss : List SV} {vs : List V} (i : Nat) (h : RpSL K B ss vs) : RpSL K B (ss.set i s) (vs.set i v) :=
  RpSL.of_get (by rw [List.length_set, List.length_set, h.length]) fun j d w e1 e2 => by
    have hl := h.length
    by_cases hj : i = j
    · subst hj
      have h1 : i < ss.length := by
        have := (List.getElem?_eq_some_iff.mp e1).1
        rwa [List.length_set] at this
      rw [List.getElem?_set_self h1] at e1
      rw [List.getElem?_set_self (by omega)] at e2
      cases e1
      cases e2
      exact r
    · rw [List.getElem?_set_ne hj] at e1 e2
      obtain ⟨w', e3, r'⟩ := h.get e1
      rw [e2] at e3
      cases e3
      exact r'
theorem RpSL.vals : ∀ {ds : List D} {vs : List V}, RpSL K B (ds.map SV.val) vs ↔ RpL K B ds vs
  | [], vs => by simp only [List.map_nil, RpSL, RpL]
  | d :: ds, vs => by
    simp only [List.map_cons, RpSL, RpL, RpS]
    constructor
    · rintro ⟨y, ys, h1, h2, h3⟩
      exact ⟨y, ys, h1, h2, RpSL.vals.mp h3⟩
    · rintro ⟨y, ys, h1, h2, h3⟩
      exact ⟨y, ys, h1, h2, RpSL.vals.mpr h3⟩
end
/-- a key as a slot's word -/
def kS : Key → SV
  | .inl i => .val (.int i)
  | .inr s => .val (.str s)
theorem rs_key {K : Fg} {B : Hp} {k : Key} {v : V} : RpS K B (kS k) v ↔ v = kV k := by
  cases k <;> simp only [kS, RpS, Rp, kV]
theorem rs_keys {K : Fg} {B : Hp} : ∀ {ks : List Key} {vs : List V}, RpSL K B (ks.map kS) vs ↔ vs = ks.map kV
  | [], vs => Iff.rfl
  | k :: ks, vs => by
    rw [List.map_cons, List.map_cons]
    constructor
    · rintro ⟨y, ys, e, r, l⟩
      rw [e, rs_key.mp r, rs_keys.mp l]
    · rintro rfl
      exact RpSL.cons (rs_key.mpr rfl) (rs_keys.mpr rfl)
/-- an object of one's own as it stands -/
def OCok (K : Fg) (B H : Hp) (p : Addr) : OC → Prop
  | .lst ss => ∃ xs, H p = some (.lst xs) ∧ RpSL K B ss xs
  | .ins C dx ks ss => ∃ xs, H p = some (.ins C dx (ks.zip xs)) ∧ ks.length = xs.length ∧ RpSL K B ss xs
  | .dK ks ss => ∃ xs, H p = some (.dK (ks.zip xs)) ∧ ks.length = xs.length ∧ RpSL K B ss xs
  | .dT ks ss => ∃ xs, H p = some (.dT (ks.zip xs)) ∧ ks.length = xs.length ∧ RpSL K B ss xs
  | .raw o => H p = some o
  | .abs φ => ∃ o, H p = some o ∧ φ o
  | .tup ss => ∃ xs, H p = some (.tup xs) ∧ RpSL K B ss xs
  | .mon ψ _ => ∃ o, H p = some o ∧ ψ B o
theorem OCok.there {K : Fg} {B H : Hp} {p : Addr} : ∀ {o : OC}, OCok K B H p o → ∃ u, H p = some u
  | .lst _, ⟨_, h, _⟩ => ⟨_, h⟩
  | .ins _ _ _ _, ⟨_, h, _⟩ => ⟨_, h⟩
  | .dK _ _, ⟨_, h, _⟩ => ⟨_, h⟩
  | .dT _ _, ⟨_, h, _⟩ => ⟨_, h⟩
  | .raw _, h => ⟨_, h⟩
  | .abs _, ⟨_, h, _⟩ => ⟨_, h⟩
  | .tup _, ⟨_, h, _⟩ => ⟨_, h⟩
  | .mon _ _, ⟨_, h, _⟩ => ⟨_, h⟩
theorem OCok.mono {K : Fg} {B B' H H' : Hp} {p : Addr} (e : Ex B B') (h : ∀ u, H p = some u → H' p = some u) : ∀ {o : OC}, OCok K B H p o → OCok K B' H' p o
  | .lst _, ⟨xs, a, b⟩ => ⟨xs, h _ a, b.mono e⟩
  | .ins _ _ _ _, ⟨xs, a, l, b⟩ => ⟨xs, h _ a, l, b.mono e⟩
  | .dK _ _, ⟨xs, a, l, b⟩ => ⟨xs, h _ a, l, b.mono e⟩
  | .dT _ _, ⟨xs, a, l, b⟩ => ⟨xs, h _ a, l, b.mono e⟩
  | .raw _, a => h _ a
  | .abs _, ⟨o, a, b⟩ => ⟨o, h _ a, b⟩
  | .tup _, ⟨xs, a, b⟩ => ⟨xs, h _ a, b.mono e⟩
  | .mon _ m, ⟨o, a, b⟩ => ⟨o, h _ a, m _ _ _ e b⟩

/-- the entry of a def: the addresses that it may change, the shared heap, the heap -/
structure FC where
  M : List Addr
  B0 : Hp
  H0 : Hp
  gh : List (V × SV) := []
/-- the state of a body: B the shared part of the heap H, ow the objects of one's own (not in B), en what the slots hold -/
structure Sta (C : FC) (K : Fg) (B : Hp) (ow : Ow) (en : En) (σ : L2.St) (H : Hp) : Prop where
  keep : ∀ a o, a ∉ C.M → C.H0 a = some o → H a = some o
  alive : ∀ a, C.H0 a ≠ none → H a ≠ none
  exB : Ex C.B0 B
  new : ∀ a, B a ≠ none → C.B0 a ≠ none ∨ C.H0 a = none
  sub : Ex B H
  own : ∀ q ∈ ow, B q.1 = none ∧ (q.1 ∈ C.M ∨ C.H0 q.1 = none) ∧ OCok K B H q.1 q.2
  nd : (ow.map (·.1)).Nodup
  len : σ.length = en.length
  slot : ∀ (i : Nat) s, en[i]? = some s → s ≠ .un → ∃ v, σ[i]? = some (some v) ∧ RpS K B s v
  pin : ∀ q ∈ C.gh, RpS K B q.2 q.1
/-- B', H' come behind B, H: nothing of one's own is touched -/
structure Grow (B H B' H' : Hp) : Prop where
  exB : Ex B B'
  exH : Ex H H'
  sub : Ex B' H'
  new : ∀ a, B' a ≠ none → B a ≠ none ∨ H a = none
theorem Grow.refl {B H : Hp} (s : Ex B H) : Grow B H B H := ⟨Ex.refl _, Ex.refl _, s, fun _ h => .inl h⟩
theorem Ex.nn {H H' : Hp} (e : Ex H H') {a : Addr} (h : H a ≠ none) : H' a ≠ none := by
  cases q : H a with
  | none => exact absurd q h
  | some o =>
    rw [e a o q]
    exact fun z => by cases z
theorem nn_of {H : Hp} {a : Addr} {o : HO} (h : H a = some o) : H a ≠ none := by
  rw [h]
  exact fun z => by cases z
theorem Grow.trans {B H B1 H1 B2 H2 : Hp} (a : Grow B H B1 H1) (b : Grow B1 H1 B2 H2) : Grow B H B2 H2 := ⟨a.exB.trans b.exB, a.exH.trans b.exH, b.sub, fun x h => by
  rcases b.new x h with h | h
  · exact a.new x h
  · refine .inr ?_
    cases q : H x with
    | none => rfl
    | some o =>
      rw [a.exH x o q] at h
      cases h⟩
section
variable {C : FC} {K : Fg} {B B' H H' : Hp} {ow : Ow} {en : En} {σ : L2.St}
theorem Sta.grow (S : Sta C K B ow en σ H) (g : Grow B H B' H') : Sta C K B' ow en σ H' where
  keep := fun a o h1 h2 => g.exH _ _ (S.keep a o h1 h2)
  alive := fun a h => g.exH.nn (S.alive a h)
  exB := S.exB.trans g.exB
  new := fun a h => by
    rcases g.new a h with h | h
    · exact S.new a h
    · refine .inr ?_
      cases q : C.H0 a with
      | none => rfl
      | some o => exact absurd h (S.alive a (nn_of q))
  sub := g.sub
  own := fun q hq => by
    obtain ⟨h1, h2, h3⟩ := S.own q hq
    refine ⟨?_, h2, h3.mono g.exB fun u e => g.exH _ _ e⟩
    cases z : B' q.1 with
    | none => rfl
    | some o =>
      rcases g.new q.1 (nn_of z) with h | h
      · exact absurd h1 h
      · obtain ⟨u, e⟩ := h3.there
        rw [h] at e
        cases e
  nd := S.nd
  len := S.len
  slot := fun i s h1 h2 => by
    obtain ⟨v, e, r⟩ := S.slot i s h1 h2
    exact ⟨v, e, r.mono g.exB⟩
  pin := fun q hq => (S.pin q hq).mono g.exB
/-- a new object, shared at once -/
theorem Sta.share (S : Sta C K B ow en σ H) {p : Addr} {o : HO} (h : H p = none) : Grow B H (upd B p o) (upd H p o) := by
  have hb : B p = none := by
    cases q : B p with
    | none => rfl
    | some u =>
      rw [S.sub p u q] at h
      cases h
  refine ⟨fun a u e => ?_, fun a u e => ?_, fun a u e => ?_, fun a e => ?_⟩
  · rw [upd_ne (ne_of_none e hb)]
    exact e
  · rw [upd_ne (ne_of_none e h)]
    exact e
  · by_cases q : a = p
    · subst q
      rw [upd_same] at e ⊢
      exact e
    · rw [upd_ne q] at e ⊢
      exact S.sub a u e
  · by_cases q : a = p
    · subst q
      exact .inr h
    · rw [upd_ne q] at e
      exact .inl e
/-- a new object, one's own -/
theorem Sta.hold (S : Sta C K B ow en σ H) {p : Addr} {o : HO} (h : H p = none) {oc : OC} (ok : OCok K B (upd H p o) p oc) : Sta C K B ((p, oc) :: ow) en σ (upd H p o) where
  keep := fun a u h1 h2 => by
    have q := S.keep a u h1 h2
    rw [upd_ne (ne_of_none q h)]
    exact q
  alive := fun a ha => by
    by_cases q : a = p
    · subst q
      rw [upd_same]
      exact fun z => by cases z
    · rw [upd_ne q]
      exact S.alive a ha
  exB := S.exB
  new := S.new
  sub := fun a u e => by
    have q := S.sub a u e
    rw [upd_ne (ne_of_none q h)]
    exact q
  own := fun q hq => by
    rcases List.mem_cons.mp hq with e | hq
    · subst e
      refine ⟨?_, ?_, ok⟩
      · cases q : B p with
        | none => rfl
        | some u =>
          rw [S.sub p u q] at h
          cases h
      · refine .inr ?_
        cases q : C.H0 p with
        | none => rfl
        | some u => exact absurd h (S.alive p (nn_of q))
    · obtain ⟨h1, h2, h3⟩ := S.own q hq
      refine ⟨h1, h2, h3.mono (Ex.refl _) fun u e => ?_⟩
      rw [upd_ne (ne_of_none e h)]
      exact e
  nd := by
    rw [List.map_cons, List.nodup_cons]
    refine ⟨fun hm => ?_, S.nd⟩
    obtain ⟨q, hq, e⟩ := List.mem_map.mp hm
    obtain ⟨_, _, h3⟩ := S.own q hq
    obtain ⟨u, e2⟩ := h3.there
    rw [e] at e2
    have e3 : H p = some u := e2
    rw [h] at e3
    cases e3
  len := S.len
  slot := S.slot
  pin := S.pin
/-- what stands at p is replaced -/
inductive Put (p : Addr) (a b : OC) : Ow → Ow → Prop where
  | here {r : Ow} : Put p a b ((p, a) :: r) ((p, b) :: r)
  | there {q : Addr × OC} {r r' : Ow} (h : Put p a b r r') : Put p a b (q :: r) (q :: r')
theorem Put.keys {p : Addr} {a b : OC} {r r' : Ow} (h : Put p a b r r') : r'.map (·.1) = r.map (·.1) := by
  induction h with
  | here => rfl
  | there h ih => rw [List.map_cons, List.map_cons, ih]
theorem Put.mem {p : Addr} {a b : OC} {r r' : Ow} (h : Put p a b r r') : (p, a) ∈ r := by
  induction h with
  | here => exact List.mem_cons_self
  | there h ih => exact List.mem_cons_of_mem _ ih
theorem Put.out {p : Addr} {a b : OC} {r r' : Ow} (h : Put p a b r r') (nd : (r.map (·.1)).Nodup) : ∀ q ∈ r', q = (p, b) ∨ (q ∈ r ∧ q.1 ≠ p) := by
  induction h with
  | here =>
    intro q hq
    rw [List.map_cons, List.nodup_cons] at nd
    rcases List.mem_cons.mp hq with e | hq
    · exact .inl e
    · exact .inr ⟨List.mem_cons_of_mem _ hq, fun e => nd.1 (List.mem_map.mpr ⟨q, hq, e⟩)⟩
  | @there q0 r r' h ih =>
    intro q hq
    rw [List.map_cons, List.nodup_cons] at nd
    rcases List.mem_cons.mp hq with e | hq
    · subst e
      refine .inr ⟨List.mem_cons_self, fun e => nd.1 ?_⟩
      rw [e]
      exact List.mem_map.mpr ⟨(p, a), h.mem, rfl⟩
    · rcases ih nd.2 q hq with e | ⟨h1, h2⟩
      · exact .inl e
      · exact .inr ⟨List.mem_cons_of_mem _ h1, h2⟩
/-- .. in the heap -/
theorem Sta.write {ow' : Ow} {p : Addr} {a b : OC} {o : HO} (S : Sta C K B ow en σ H) (h : Put p a b ow ow') (ok : OCok K B (upd H p o) p b) : Sta C K B ow' en σ (upd H p o) := by
  obtain ⟨b1, b2, b3⟩ := S.own _ h.mem
  have b1 : B p = none := b1
  have b2 : p ∈ C.M ∨ C.H0 p = none := b2
  refine ⟨fun x u h1 h2 => ?_, fun x hx => ?_, S.exB, S.new, fun x u e => ?_, fun q hq => ?_, by rw [h.keys]; exact S.nd, S.len, S.slot, S.pin⟩
  · have ne : x ≠ p := fun e => by
      subst e
      rcases b2 with b2 | b2
      · exact h1 b2
      · rw [b2] at h2
        cases h2
    rw [upd_ne ne]
    exact S.keep x u h1 h2
  · by_cases q : x = p
    · subst q
      rw [upd_same]
      exact fun z => by cases z
    · rw [upd_ne q]
      exact S.alive x hx
  · rw [upd_ne (ne_of_none e b1)]
    exact S.sub x u e
  · rcases h.out S.nd q hq with e | ⟨h1, h2⟩
    · subst e
      exact ⟨b1, b2, ok⟩
    · obtain ⟨c1, c2, c3⟩ := S.own q h1
      refine ⟨c1, c2, c3.mono (Ex.refl _) fun u e => ?_⟩
      rw [upd_ne h2]
      exact e
/-- fewer of one's own -/
theorem Sta.drop {ow' : Ow} (S : Sta C K B ow en σ H) (h : ow'.Sublist ow) : Sta C K B ow' en σ H :=
  ⟨S.keep, S.alive, S.exB, S.new, S.sub, fun q hq => S.own q (h.subset hq), S.nd.sublist (h.map _), S.len, S.slot, S.pin⟩
/-- a slot is set -/
theorem Sta.set (S : Sta C K B ow en σ H) (i : Nat) {s : SV} {v : V} (r : RpS K B s v) : Sta C K B ow (en.set i s) (σ.set i (some v)) H := by
  refine ⟨S.keep, S.alive, S.exB, S.new, S.sub, S.own, S.nd, by rw [List.length_set, List.length_set, S.len], fun j u e1 e2 => ?_, S.pin⟩
  by_cases hj : i = j
  · subst hj
    have hi : i < en.length := by
      have := (List.getElem?_eq_some_iff.mp e1).1
      rwa [List.length_set] at this
    rw [List.getElem?_set_self hi] at e1
    cases e1
    exact ⟨v, by rw [List.getElem?_set_self (by rw [S.len]; exact hi)], r⟩
  · rw [List.getElem?_set_ne hj] at e1 ⊢
    exact S.slot j u e1 e2
/-- a thing kept in sight -/
def FC.see (C : FC) (v : V) (s : SV) : FC := { C with gh := (v, s) :: C.gh }
theorem Sta.see (S : Sta C K B ow en σ H) {v : V} {s : SV} (r : RpS K B s v) : Sta (C.see v s) K B ow en σ H :=
  ⟨S.keep, S.alive, S.exB, S.new, S.sub, S.own, S.nd, S.len, S.slot, fun q hq => by
    rcases List.mem_cons.mp hq with e | hq
    · subst e
      exact r
    · exact S.pin q hq⟩
theorem Sta.unsee {v : V} {s : SV} (S : Sta (C.see v s) K B ow en σ H) : Sta C K B ow en σ H :=
  ⟨S.keep, S.alive, S.exB, S.new, S.sub, S.own, S.nd, S.len, S.slot, fun q hq => S.pin q (List.mem_cons_of_mem _ hq)⟩
end
end Sd

/-! text Sd2 -/
set_option Elab.async false
set_option linter.all false
set_option maxRecDepth 100000
set_option maxHeartbeats 2000000
/-! Sd2: rules on syntax; expressions by data. -/
namespace Sd
open PySem PySem.Spec PyProof.Rows L2

/-! ### what is wanted, on syntax -/
def WE (X : Cx) (e : Expr) : TE := fun σ H Q => ∃ t, PE X e t ∧ t σ H Q
def WT (X : Cx) (e : Expr) : TT := fun σ H Q => ∃ t, PT X e t ∧ t σ H Q
def WW (X : Cx) (e : Expr) : TT := fun σ H Q => ∃ t, PW X e t ∧ t σ H Q
def WA (X : Cx) (es : List Expr) : TA := fun σ H Q => ∃ t, PA X es t ∧ t σ H Q
def WK (X : Cx) (ks : List Keyword) : TA := fun σ H Q => ∃ t, PK X ks t ∧ t σ H Q
def WS (X : Cx) (st : List Stmt) : TS := fun D σ H => ∃ t, PSs X st t ∧ t D σ H
def WG (X : Cx) (e : Expr) : TG := fun v σ H Q => ∃ t, PG X e t ∧ t v σ H Q
def WI (X : Cx) (tg it : Expr) : TI := fun σ H R => ∃ t, PI X tg it t ∧ t σ H R
section
variable {X : Cx}
theorem pe_we {e : Expr} : PE X e (WE X e) := ⟨fun pins s σ H Q I h => by
  obtain ⟨t, ht, q⟩ := h
  exact ht.run pins s σ H Q I q⟩
theorem pt_wt {e : Expr} : PT X e (WT X e) := ⟨fun pins s σ H Q I h => by
  obtain ⟨t, ht, q⟩ := h
  exact ht.run pins s σ H Q I q⟩
theorem pw_ww {e : Expr} : PW X e (WW X e) := ⟨fun wh pins s σ H Q I h => by
  obtain ⟨t, ht, q⟩ := h
  exact ht.run wh pins s σ H Q I q⟩
theorem pa_wa {es : List Expr} : PA X es (WA X es) := ⟨fun pos pins s σ H Q I h => by
  obtain ⟨t, ht, q⟩ := h
  exact ht.run pos pins s σ H Q I q⟩
theorem pk_wk {es : List Keyword} : PK X es (WK X es) := ⟨fun pos pins s σ H Q I h => by
  obtain ⟨t, ht, q⟩ := h
  exact ht.run pos pins s σ H Q I q⟩
theorem pss_ws {st : List Stmt} : PSs X st (WS X st) := ⟨fun pins s σ H D I h => by
  obtain ⟨t, ht, q⟩ := h
  exact ht.run pins s σ H D I q⟩
theorem pg_wg {e : Expr} : PG X e (WG X e) := ⟨fun pins s σ H v u Q I r h => by
  obtain ⟨t, ht, q⟩ := h
  exact ht.run pins s σ H v u Q I r q⟩
theorem pi_wi {tg it : Expr} : PI X tg it (WI X tg it) := ⟨fun pins s σ H R I h => by
  obtain ⟨t, ht, q⟩ := h
  exact ht.run pins s σ H R I q⟩
end

/-! ### evaluation -/
structure Nxt (C : FC) (K : Fg) (ow : Ow) (en : En) (σ : L2.St) (B H B' H' : Hp) : Prop where
  exB : Ex B B'
  fr : ∀ a o, a ∉ ow.map (·.1) → H a = some o → H' a = some o
  nw : ∀ a, B' a ≠ none → B a ≠ none ∨ H a = none
  sta : Sta C K B' ow en σ H'
/-- .. and p is new -/
structure NxN (C : FC) (K : Fg) (ow : Ow) (en : En) (σ : L2.St) (B H : Hp) (p : Addr) (oc : OC) (B' H' : Hp) : Prop where
  exB : Ex B B'
  fr : ∀ a o, a ∉ ow.map (·.1) → H a = some o → H' a = some o
  nw : ∀ a, B' a ≠ none → B a ≠ none ∨ H a = none
  new : H p = none
  sta : Sta C K B' ((p, oc) :: ow) en σ H'
section
variable {C : FC} {K : Fg} {ow : Ow} {en : En} {σ : L2.St} {B H B' H' B1 H1 B2 H2 : Hp}
theorem Nxt.refl (S : Sta C K B ow en σ H) : Nxt C K ow en σ B H B H := ⟨Ex.refl _, fun _ _ _ h => h, fun _ h => .inl h, S⟩
theorem Nxt.free (n : Nxt C K ow en σ B H B' H') {p : Addr} (h : H' p = none) : H p = none := by
  cases q : H p with
  | none => rfl
  | some u =>
    by_cases hp : p ∈ ow.map (·.1)
    · obtain ⟨z, hz, e⟩ := List.mem_map.mp hp
      obtain ⟨_, _, k⟩ := n.sta.own z hz
      obtain ⟨u2, e2⟩ := k.there
      rw [e, h] at e2
      cases e2
    · rw [n.fr p u hp q] at h
      cases h
theorem Nxt.trans (a : Nxt C K ow en σ B H B1 H1) (b : Nxt C K ow en σ B1 H1 B2 H2) : Nxt C K ow en σ B H B2 H2 :=
  ⟨a.exB.trans b.exB, fun x o n h => b.fr x o n (a.fr x o n h), fun x h => (b.nw x h).elim (a.nw x) fun z => .inr (a.free z), b.sta⟩
theorem Nxt.trN {p : Addr} {oc : OC} (a : Nxt C K ow en σ B H B1 H1) (b : NxN C K ow en σ B1 H1 p oc B2 H2) : NxN C K ow en σ B H p oc B2 H2 :=
  ⟨a.exB.trans b.exB, fun x o n h => b.fr x o n (a.fr x o n h), fun x h => (b.nw x h).elim (a.nw x) fun z => .inr (a.free z), a.free b.new, b.sta⟩
theorem Nxt.grow (S : Sta C K B ow en σ H) (g : Grow B H B' H') : Nxt C K ow en σ B H B' H' := ⟨g.exB, fun _ _ _ h => g.exH _ _ h, g.new, S.grow g⟩
/-- a new object, one's own -/
theorem NxN.hold (S : Sta C K B ow en σ H) {p : Addr} {o : HO} {oc : OC} (h : H p = none) (ok : OCok K B (upd H p o) p oc) : NxN C K ow en σ B H p oc B (upd H p o) :=
  ⟨Ex.refl _, fun a u _ e => by
    rw [upd_ne (ne_of_none e h)]
    exact e, fun _ h => .inl h, h, S.hold h ok⟩
end
/-- e gives a value that P says -/
structure EvP (C : FC) (X : Cx) (ow : Ow) (en : En) (e : Expr) (P : SV → Prop) : Prop where
  run : ∀ B σ H, Sta C X.K B ow en σ H → ∀ Q : VK, (∀ v s B' H', P s → Nxt C X.K ow en σ B H B' H' → RpS X.K B' s v → Q v H') → WE X e σ H Q
abbrev EvD (C : FC) (X : Cx) (ow : Ow) (en : En) (e : Expr) (s : SV) : Prop := EvP C X ow en e (· = s)
/-- e gives a new object -/
structure EvN (C : FC) (X : Cx) (ow : Ow) (en : En) (e : Expr) (P : OC → Prop) : Prop where
  run : ∀ B σ H, Sta C X.K B ow en σ H → ∀ Q : VK, (∀ p oc B' H', P oc → NxN C X.K ow en σ B H p oc B' H' → Q (.ref p) H') → WE X e σ H Q
/-- a test -/
structure EvTP (C : FC) (X : Cx) (ow : Ow) (en : En) (e : Expr) (P : Bool → Prop) : Prop where
  run : ∀ B σ H, Sta C X.K B ow en σ H → ∀ Q : Bool → Hp → Prop, (∀ b B' H', P b → Nxt C X.K ow en σ B H B' H' → Q b H') → WT X e σ H Q
abbrev EvT (C : FC) (X : Cx) (ow : Ow) (en : En) (e : Expr) (b : Bool) : Prop := EvTP C X ow en e (· = b)
structure EvW (C : FC) (X : Cx) (ow : Ow) (en : En) (e : Expr) (P : Bool → Prop) : Prop where
  run : ∀ B σ H, Sta C X.K B ow en σ H → ∀ Q : Bool → Hp → Prop, (∀ b B' H', P b → Nxt C X.K ow en σ B H B' H' → Q b H') → WW X e σ H Q
/-- arguments -/
structure EvA (C : FC) (X : Cx) (ow : Ow) (en : En) (es : List Expr) (P : List SV → Prop) : Prop where
  run : ∀ B σ H, Sta C X.K B ow en σ H → ∀ Q : List V → Hp → Prop, (∀ vs ss B' H', P ss → Nxt C X.K ow en σ B H B' H' → RpSL X.K B' ss vs → Q vs H') → WA X es σ H Q
structure EvK (C : FC) (X : Cx) (ow : Ow) (en : En) (es : List Keyword) (P : List SV → Prop) : Prop where
  run : ∀ B σ H, Sta C X.K B ow en σ H → ∀ Q : List V → Hp → Prop, (∀ vs ss B' H', P ss → Nxt C X.K ow en σ B H B' H' → RpSL X.K B' ss vs → Q vs H') → WK X es σ H Q

abbrev iv (i : Int) : SV := .val (.int i)
abbrev bv (b : Bool) : SV := .val (.bl b)
abbrev sv (s : Str) : SV := .val (.str s)
abbrev nv : SV := .val .non
section
variable {K : Fg} {B : Hp} {v : V}
theorem rs_int {i : Int} : RpS K B (iv i) v ↔ v = .int i := by simp only [RpS, Rp]
theorem rs_bl {i : Bool} : RpS K B (bv i) v ↔ v = .bl i := by simp only [RpS, Rp]
theorem rs_str {i : Str} : RpS K B (sv i) v ↔ v = .str i := by simp only [RpS, Rp]
theorem rs_non : RpS K B nv v ↔ v = .non := by simp only [RpS, Rp]
theorem rs_ptr {p : Addr} : RpS K B (.ptr p) v ↔ v = .ref p := Iff.rfl
end
section
variable {C : FC} {X : Cx} {ow : Ow} {en : En} {a b c e : Expr} {es : List Expr} {pos : Pos} {P P' Pa Pb Pc : SV → Prop}
theorem EvP.imp (h : EvP C X ow en e P) (k : ∀ s, P s → P' s) : EvP C X ow en e P' := ⟨fun B σ H S Q q => h.run B σ H S Q fun v s B' H' p n r => q v s B' H' (k s p) n r⟩
theorem EvD.is {s s' : SV} (h : EvD C X ow en e s) (k : s = s') : EvD C X ow en e s' := k ▸ h
theorem EvD.p {s : SV} (h : EvD C X ow en e s) (k : P s) : EvP C X ow en e P := h.imp fun _ q => q ▸ k

/-! ### names, constants -/
theorem ed_var (i : Nat) {x : Str} {s : SV} (he : en[i]? = some s := by rfl) (hs : s ≠ .un := by exact fun z => nomatch z) (hN : X.N[i]? = some x := by rfl)
    (hv : Vis X.env.scope x := by first | exact Or.inl rfl | exact Or.inr (Or.inl rfl) | exact Or.inr (Or.inr rfl)) (hd : (x == ("__debug__" : Str)) = false := by decide) (hcd : (x == ("__classdict__" : Str)) = false := by decide) : EvD C X ow en (.Name x pos) s :=
  ⟨fun B σ H S Q q => by
    obtain ⟨v, e, r⟩ := S.slot i s he hs
    exact ⟨tVar i, pe_var hN hv hd hcd, v, e, q v s B H rfl (Nxt.refl S) r⟩⟩
theorem ed_int {i : Int} {j} : EvD C X ow en (.Constant (.int i) j pos) (iv i) := ⟨fun B σ H S Q q => ⟨_, pe_int, q _ _ B H rfl (Nxt.refl S) (rs_int.mpr rfl)⟩⟩
theorem ed_bl {i : Bool} {j} : EvD C X ow en (.Constant (.bool i) j pos) (bv i) := ⟨fun B σ H S Q q => ⟨_, pe_bl, q _ _ B H rfl (Nxt.refl S) (rs_bl.mpr rfl)⟩⟩
theorem ed_str {i : Str} {j} : EvD C X ow en (.Constant (.str i) j pos) (sv i) := ⟨fun B σ H S Q q => ⟨_, pe_str, q _ _ B H rfl (Nxt.refl S) (rs_str.mpr rfl)⟩⟩
theorem ed_non {j} : EvD C X ow en (.Constant .none j pos) nv := ⟨fun B σ H S Q q => ⟨_, pe_non, q _ _ B H rfl (Nxt.refl S) (rs_non.mpr rfl)⟩⟩
/-- a module's name, by its value -/
theorem ed_glob {x : Str} {v : V} {s : SV} (hg : Gl X x) (h : ∃ u, X.mg x = some u ∧ RelV v u) (r : ∀ B, RpS X.K B s v) (hd : (x == ("__debug__" : Str)) = false := by decide) : EvD C X ow en (.Name x pos) s := ⟨fun B σ H S Q q => by
  obtain ⟨u, hm, ru⟩ := h
  exact ⟨_, pe_glob hg hm ru hd, q _ _ B H rfl (Nxt.refl S) (r B)⟩⟩

/-! ### two in a row -/
theorem ev_bin (ha : EvP C X ow en a Pa) (hb : EvP C X ow en b Pb) {B : Hp} {σ : L2.St} {H : Hp} (S : Sta C X.K B ow en σ H) {R : V → V → Hp → Prop}
    (h : ∀ v u x y B' H', Pa x → Pb y → Nxt C X.K ow en σ B H B' H' → RpS X.K B' x v → RpS X.K B' y u → R v u H') : WE X a σ H fun v H1 => WE X b σ H1 fun u H2 => R v u H2 :=
  ha.run B σ H S _ fun v x B1 H1 px n1 r1 => hb.run B1 σ H1 n1.sta _ fun u y B2 H2 py n2 r2 => h v u x y B2 H2 px py (n1.trans n2) (r1.mono n2.exB) r2
/-- a rule by values, at x and y -/
def RD (C : FC) (X : Cx) (ow : Ow) (en : En) (r : R2) (x y : SV) (P : SV → Prop) : Prop :=
  ∀ B σ H v u, Sta C X.K B ow en σ H → RpS X.K B x v → RpS X.K B y u → ∀ Q : VK, (∀ z s B' H', P s → Nxt C X.K ow en σ B H B' H' → RpS X.K B' s z → Q z H') → r v u H Q
theorem ep_op {op : Operator} {r : R2} (ho : OpR X (binaryOp op) r) (ha : EvP C X ow en a Pa) (hb : EvP C X ow en b Pb) (h : ∀ x y, Pa x → Pb y → RD C X ow en r x y P) : EvP C X ow en (.BinOp a op b pos) P :=
  ⟨fun B σ H S Q q => ⟨_, pe_op ho pe_we pe_we, ev_bin ha hb S fun v u x y B' H' px py n r1 r2 => h x y px py B' σ H' v u n.sta r1 r2 Q fun z s B2 H2 ps n2 r3 => q z s B2 H2 ps (n.trans n2) r3⟩⟩
theorem rd_I0 {g : Int → Int → V} {i j : Int} {s : SV} (hr : ∀ B, RpS X.K B s (g i j)) (hp : P s) : RD C X ow en (rI0 g) (iv i) (iv j) P := fun B σ H v u S r1 r2 Q q =>
  ⟨i, j, rs_int.mp r1, rs_int.mp r2, q _ s B H hp (Nxt.refl S) (hr B)⟩
theorem rd_I {Cd : Int → Int → Prop} {g : Int → Int → V} {i j : Int} {s : SV} (hc : Cd i j) (hr : ∀ B, RpS X.K B s (g i j)) (hp : P s) : RD C X ow en (rI Cd g) (iv i) (iv j) P := fun B σ H v u S r1 r2 Q q =>
  ⟨i, j, rs_int.mp r1, rs_int.mp r2, hc, q _ s B H hp (Nxt.refl S) (hr B)⟩
/-- ints: by what they are -/
abbrev PI' (A : Int → Prop) : SV → Prop := fun s => ∃ i, s = iv i ∧ A i
theorem ed_add {i j : Int} (ha : EvD C X ow en a (iv i)) (hb : EvD C X ow en b (iv j)) : EvD C X ow en (.BinOp a .Add b pos) (iv (i + j)) :=
  ep_op op_add ha hb fun _ _ e1 e2 => e1 ▸ e2 ▸ rd_I0 (fun _ => rs_int.mpr rfl) rfl
theorem ed_sub {i j : Int} (ha : EvD C X ow en a (iv i)) (hb : EvD C X ow en b (iv j)) : EvD C X ow en (.BinOp a .Sub b pos) (iv (i - j)) :=
  ep_op op_sub ha hb fun _ _ e1 e2 => e1 ▸ e2 ▸ rd_I0 (fun _ => rs_int.mpr rfl) rfl
theorem ed_mul {i j : Int} (ha : EvD C X ow en a (iv i)) (hb : EvD C X ow en b (iv j)) (hc : CMul i j) : EvD C X ow en (.BinOp a .Mult b pos) (iv (i * j)) :=
  ep_op op_mul ha hb fun _ _ e1 e2 => e1 ▸ e2 ▸ rd_I hc (fun _ => rs_int.mpr rfl) rfl
theorem ed_mod {i j : Int} (ha : EvD C X ow en a (iv i)) (hb : EvD C X ow en b (iv j)) (hc : 0 < j) : EvD C X ow en (.BinOp a .Mod b pos) (iv (i % j)) :=
  ep_op op_mod ha hb fun _ _ e1 e2 => e1 ▸ e2 ▸ rd_I hc (fun _ => rs_int.mpr rfl) rfl
theorem ed_fdiv {i j : Int} (ha : EvD C X ow en a (iv i)) (hb : EvD C X ow en b (iv j)) (hc : 0 < j ∧ j < 1073741824) : EvD C X ow en (.BinOp a .FloorDiv b pos) (iv (i / j)) :=
  ep_op op_fdiv ha hb fun _ _ e1 e2 => e1 ▸ e2 ▸ rd_I hc (fun _ => rs_int.mpr rfl) rfl
theorem ep_add {A A' B : Int → Prop} (ha : EvP C X ow en a (PI' A)) (hb : EvP C X ow en b (PI' A')) (h : ∀ i j, A i → A' j → B (i + j)) : EvP C X ow en (.BinOp a .Add b pos) (PI' B) :=
  ep_op op_add ha hb fun _ _ ⟨i, e1, p1⟩ ⟨j, e2, p2⟩ => e1 ▸ e2 ▸ rd_I0 (fun _ => rs_int.mpr rfl) ⟨_, rfl, h i j p1 p2⟩
theorem ep_sub {A A' B : Int → Prop} (ha : EvP C X ow en a (PI' A)) (hb : EvP C X ow en b (PI' A')) (h : ∀ i j, A i → A' j → B (i - j)) : EvP C X ow en (.BinOp a .Sub b pos) (PI' B) :=
  ep_op op_sub ha hb fun _ _ ⟨i, e1, p1⟩ ⟨j, e2, p2⟩ => e1 ▸ e2 ▸ rd_I0 (fun _ => rs_int.mpr rfl) ⟨_, rfl, h i j p1 p2⟩
theorem ep_mod {A A' B : Int → Prop} (ha : EvP C X ow en a (PI' A)) (hb : EvP C X ow en b (PI' A')) (h0 : ∀ i j, A i → A' j → 0 < j) (h : ∀ i j, A i → A' j → B (i % j)) : EvP C X ow en (.BinOp a .Mod b pos) (PI' B) :=
  ep_op op_mod ha hb fun _ _ ⟨i, e1, p1⟩ ⟨j, e2, p2⟩ => e1 ▸ e2 ▸ rd_I (h0 i j p1 p2) (fun _ => rs_int.mpr rfl) ⟨_, rfl, h i j p1 p2⟩
end
end Sd

/-! text Sd3 -/
set_option Elab.async false
set_option linter.all false
set_option maxRecDepth 100000
set_option maxHeartbeats 2000000
/-! Sd3: comparisons, tests, displays, calls by name. -/
namespace Sd
open PySem PySem.Spec PyProof.Rows L2
section
variable {C : FC} {X : Cx} {ow : Ow} {en : En} {a b c e : Expr} {es : List Expr} {pos : Pos} {P P' Pa Pb Pc : SV → Prop} {op op' : CmpOp}

/-! ### comparisons -/
/-- x op y is k -/
structure CmpD (C : FC) (X : Cx) (ow : Ow) (en : En) (op : CmpOp) (x y : SV) (k : Bool) : Prop where
  ex : ∃ r, OpR X (compareOp op) r ∧ RD C X ow en r x y (· = bv k)
theorem ep_cmp {A : Bool → Prop} (ha : EvP C X ow en a Pa) (hb : EvP C X ow en b Pb) (h : ∀ x y, Pa x → Pb y → ∃ k, A k ∧ CmpD C X ow en op x y k) (hm : behindInMarks op b = false := by first | exact nomark _ | rfl) :
    EvP C X ow en (.Compare a [op] [b] pos) (fun s => ∃ k, s = bv k ∧ A k) :=
  ⟨fun B σ H S Q q => ⟨WE X (.Compare a [op] [b] pos), pe_we, ev_bin ha hb S (R := fun v u H2 => ∃ r, OpR X (compareOp op) r ∧ r v u H2 Q) (fun v u x y B' H' px py n r1 r2 => by
    obtain ⟨k, pk, r, ho, hr⟩ := h x y px py
    exact ⟨r, ho, hr B' σ H' v u n.sta r1 r2 Q fun z s B2 H2 ps n2 r3 => q z s B2 H2 ⟨k, ps, pk⟩ (n.trans n2) r3⟩) |> fun z => by
    refine ⟨_, pe_cmpR (r := fun v u H2 Q => ∃ r, OpR X (compareOp op) r ∧ r v u H2 Q) (fun pins s σ H x y v u Q I rx ry hq => ?_) pe_we pe_we hm, z⟩
    obtain ⟨r, ho, hr⟩ := hq
    exact ho pins s σ H x y v u Q I rx ry hr⟩⟩
theorem ed_cmp {x y : SV} {k : Bool} (ha : EvD C X ow en a x) (hb : EvD C X ow en b y) (h : CmpD C X ow en op x y k) (hm : behindInMarks op b = false := by first | exact nomark _ | rfl) : EvD C X ow en (.Compare a [op] [b] pos) (bv k) :=
  (ep_cmp (A := (· = k)) ha hb (fun _ _ e1 e2 => ⟨k, rfl, e1 ▸ e2 ▸ h⟩) hm).imp fun s ⟨_, e1, e2⟩ => e2 ▸ e1
theorem etp_cmp {A : Bool → Prop} (ha : EvP C X ow en a Pa) (hb : EvP C X ow en b Pb) (h : ∀ x y, Pa x → Pb y → ∃ k, A k ∧ CmpD C X ow en op x y k) (hm : behindInMarks op b = false := by first | exact nomark _ | rfl) :
    EvTP C X ow en (.Compare a [op] [b] pos) A :=
  ⟨fun B σ H S Q q => ev_bin ha hb S (R := fun v u H2 => ∃ r, OpR X (compareOp op) r ∧ r v u H2 fun z H3 => ∃ k, z = .bl k ∧ Q k H3) (fun v u x y B' H' px py n r1 r2 => by
    obtain ⟨k, pk, r, ho, hr⟩ := h x y px py
    exact ⟨r, ho, hr B' σ H' v u n.sta r1 r2 _ fun z s B2 H2 ps n2 r3 => ⟨k, rs_bl.mp (ps ▸ r3), q k B2 H2 pk (n.trans n2)⟩⟩) |> fun z => by
    refine ⟨_, pt_cmpR (r := fun v u H2 Q => ∃ r, OpR X (compareOp op) r ∧ r v u H2 Q) (fun pins s σ H x y v u Q I rx ry hq => ?_) pe_we pe_we hm, z⟩
    obtain ⟨r, ho, hr⟩ := hq
    exact ho pins s σ H x y v u Q I rx ry hr⟩
theorem et_cmp {x y : SV} {k : Bool} (ha : EvD C X ow en a x) (hb : EvD C X ow en b y) (h : CmpD C X ow en op x y k) (hm : behindInMarks op b = false := by first | exact nomark _ | rfl) : EvT C X ow en (.Compare a [op] [b] pos) k :=
  etp_cmp (A := (· = k)) ha hb (fun _ _ e1 e2 => ⟨k, rfl, e1 ▸ e2 ▸ h⟩) hm
theorem cd_I0 {g : Int → Int → Bool} {i j : Int} (ho : OpR X (compareOp op) (rI0 fun i j => .bl (g i j))) : CmpD C X ow en op (iv i) (iv j) (g i j) := ⟨_, ho, rd_I0 (fun _ => rs_bl.mpr rfl) rfl⟩
theorem cd_lt {i j : Int} : CmpD C X ow en .Lt (iv i) (iv j) (decide (i < j)) := cd_I0 op_lt
theorem cd_le {i j : Int} : CmpD C X ow en .LtE (iv i) (iv j) (decide (i ≤ j)) := cd_I0 op_le
theorem cd_gt {i j : Int} : CmpD C X ow en .Gt (iv i) (iv j) (decide (j < i)) := cd_I0 op_gt
theorem cd_ge {i j : Int} : CmpD C X ow en .GtE (iv i) (iv j) (decide (j ≤ i)) := cd_I0 op_ge
theorem cd_eqI {i j : Int} : CmpD C X ow en .Eq (iv i) (iv j) (decide (i = j)) := ⟨_, op_eq, fun B σ H v u S r1 r2 Q q => by
  rw [rs_int] at r1 r2
  subst r1 r2
  exact ⟨rfl, q _ _ B H rfl (Nxt.refl S) (rs_bl.mpr (by simp))⟩⟩
theorem cd_eqS {i j : Str} : CmpD C X ow en .Eq (sv i) (sv j) (decide (i = j)) := ⟨_, op_eq, fun B σ H v u S r1 r2 Q q => by
  rw [rs_str] at r1 r2
  subst r1 r2
  exact ⟨rfl, q _ _ B H rfl (Nxt.refl S) (rs_bl.mpr (by simp))⟩⟩
theorem cd_eqB {i j : Bool} : CmpD C X ow en .Eq (bv i) (bv j) (decide (i = j)) := ⟨_, op_eq, fun B σ H v u S r1 r2 Q q => by
  rw [rs_bl] at r1 r2
  subst r1 r2
  exact ⟨rfl, q _ _ B H rfl (Nxt.refl S) (rs_bl.mpr (by simp))⟩⟩
/-- is it None? -/
def isNon : D → Bool
  | .non => true
  | _ => false
theorem rp_non {K : Fg} {B : Hp} {d : D} {v : V} (r : Rp K B d v) : decide (v = .non) = isNon d := by
  cases d with
  | non => simp only [Rp] at r; subst r; rfl
  | bl _ => simp only [Rp] at r; subst r; rfl
  | int _ => simp only [Rp] at r; subst r; rfl
  | str _ => simp only [Rp] at r; subst r; rfl
  | tup _ => simp only [Rp] at r; obtain ⟨_, _, e, _⟩ := r; subst e; rfl
  | lst _ => simp only [Rp] at r; obtain ⟨_, _, e, _⟩ := r; subst e; rfl
  | ins _ _ _ => simp only [Rp] at r; obtain ⟨_, _, _, e, _⟩ := r; subst e; rfl
  | dK _ _ => simp only [Rp] at r; obtain ⟨_, _, e, _⟩ := r; subst e; rfl
  | dT _ _ => simp only [Rp] at r; obtain ⟨_, _, e, _⟩ := r; subst e; rfl
  | key _ => simp only [Rp] at r; obtain ⟨_, e, _⟩ := r; subst e; rfl
theorem cd_isN {d : D} : CmpD C X ow en .Is (.val d) nv (isNon d) := ⟨_, op_isN, fun B σ H v u S r1 r2 Q q => by
  rw [rs_non] at r2
  have e := rp_non (show Rp X.K B d v from r1)
  exact ⟨r2, q _ _ B H rfl (Nxt.refl S) (rs_bl.mpr (by rw [e]))⟩⟩
theorem cd_notN {d : D} : CmpD C X ow en .IsNot (.val d) nv (!isNon d) := ⟨_, op_notN, fun B σ H v u S r1 r2 Q q => by
  rw [rs_non] at r2
  have e := rp_non (show Rp X.K B d v from r1)
  exact ⟨r2, q _ _ B H rfl (Nxt.refl S) (rs_bl.mpr (by rw [e]))⟩⟩
/-- what may be read as a list, as a tuple -/
inductive SeqOf (ow : Ow) : SV → List SV → Prop where
  | lst (ds : List D) : SeqOf ow (.val (.lst ds)) (ds.map SV.val)
  | tup (ds : List D) : SeqOf ow (.val (.tup ds)) (ds.map SV.val)
  | own (p : Addr) (ss : List SV) (h : (p, .lst ss) ∈ ow) : SeqOf ow (.ptr p) ss
  | owt (p : Addr) (ss : List SV) (h : (p, .tup ss) ∈ ow) : SeqOf ow (.ptr p) ss
  | key (ks : List Key) : SeqOf ow (.val (.key ks)) (ks.map kS)
inductive TupOf (ow : Ow) : SV → List SV → Prop where
  | tup (ds : List D) : TupOf ow (.val (.tup ds)) (ds.map SV.val)
  | key (ks : List Key) : TupOf ow (.val (.key ks)) (ks.map kS)
  | own (p : Addr) (ss : List SV) (h : (p, .tup ss) ∈ ow) : TupOf ow (.ptr p) ss
inductive LstOf (ow : Ow) : SV → List SV → Prop where
  | lst (ds : List D) : LstOf ow (.val (.lst ds)) (ds.map SV.val)
  | own (p : Addr) (ss : List SV) (h : (p, .lst ss) ∈ ow) : LstOf ow (.ptr p) ss
theorem LstOf.at {K : Fg} {B H : Hp} {σ : L2.St} {s : SV} {ss : List SV} {v : V} (h : LstOf ow s ss) (S : Sta C K B ow en σ H) (r : RpS K B s v) : ∃ a xs, v = .ref a ∧ SqL K H a xs ∧ RpSL K B ss xs := by
  cases h with
  | lst ds =>
    simp only [RpS, Rp] at r
    obtain ⟨a, xs, e, q, l⟩ := r
    exact ⟨a, xs, e, S.sub.l q, RpSL.vals.mpr l⟩
  | own p ss h =>
    obtain ⟨_, _, xs, q, l⟩ := S.own _ h
    exact ⟨p, xs, r, SqL.of q, l⟩
theorem TupOf.at {K : Fg} {B H : Hp} {σ : L2.St} {s : SV} {ss : List SV} {v : V} (h : TupOf ow s ss) (S : Sta C K B ow en σ H) (r : RpS K B s v) : ∃ a xs, v = .ref a ∧ SqT K H a xs ∧ RpSL K B ss xs := by
  cases h with
  | tup ds =>
    simp only [RpS, Rp] at r
    obtain ⟨a, xs, e, q, l⟩ := r
    exact ⟨a, xs, e, S.sub.t q, RpSL.vals.mpr l⟩
  | key ks =>
    simp only [RpS, Rp] at r
    obtain ⟨a, e, q⟩ := r
    exact ⟨a, _, e, SqT.of (S.sub _ _ q), rs_keys.mpr rfl⟩
  | own p ss h =>
    obtain ⟨_, _, xs, q, l⟩ := S.own _ h
    exact ⟨p, xs, r, SqT.of q, l⟩
theorem SeqOf.at {K : Fg} {B H : Hp} {σ : L2.St} {s : SV} {ss : List SV} {v : V} (h : SeqOf ow s ss) (S : Sta C K B ow en σ H) (r : RpS K B s v) : ∃ a xs, v = .ref a ∧ (SqL K H a xs ∨ SqT K H a xs) ∧ RpSL K B ss xs := by
  cases h with
  | lst ds =>
    simp only [RpS, Rp] at r
    obtain ⟨a, xs, e, q, l⟩ := r
    exact ⟨a, xs, e, .inl (S.sub.l q), RpSL.vals.mpr l⟩
  | tup ds =>
    simp only [RpS, Rp] at r
    obtain ⟨a, xs, e, q, l⟩ := r
    exact ⟨a, xs, e, .inr (S.sub.t q), RpSL.vals.mpr l⟩
  | own p ss h =>
    obtain ⟨_, _, xs, q, l⟩ := S.own _ h
    exact ⟨p, xs, r, .inl (SqL.of q), l⟩
  | key ks =>
    simp only [RpS, Rp] at r
    obtain ⟨a, e, q⟩ := r
    exact ⟨a, _, e, .inr (SqT.of (S.sub _ _ q)), rs_keys.mpr rfl⟩
  | owt p ss h =>
    obtain ⟨_, _, xs, q, l⟩ := S.own _ h
    exact ⟨p, xs, r, .inr (SqT.of q), l⟩
theorem strs_at {K : Fg} {B : Hp} : ∀ {ss : List Str} {xs : List V}, RpSL K B (ss.map sv) xs → xs = ss.map V.str
  | [], _, h => h
  | s :: ss, _, ⟨y, ys, e, r, l⟩ => by
    rw [e, rs_str.mp r, strs_at l]
    rfl
theorem ints_at {K : Fg} {B : Hp} : ∀ {ss : List Int} {xs : List V}, RpSL K B (ss.map iv) xs → xs = ss.map V.int
  | [], _, h => h
  | s :: ss, _, ⟨y, ys, e, r, l⟩ => by
    rw [e, rs_int.mp r, ints_at l]
    rfl
theorem bls_at {K : Fg} {B : Hp} : ∀ {ss : List Bool} {xs : List V}, RpSL K B (ss.map bv) xs → xs = ss.map V.bl
  | [], _, h => h
  | s :: ss, _, ⟨y, ys, e, r, l⟩ => by
    rw [e, rs_bl.mp r, bls_at l]
    rfl
theorem inV_str {x : Str} {xs : List Str} : inV (.str x) (xs.map V.str) = decide (x ∈ xs) := by
  unfold inV
  rw [List.any_map]
  by_cases h : x ∈ xs
  · rw [decide_eq_true h, List.any_eq_true]
    exact ⟨x, h, by simp [eqV]⟩
  · rw [decide_eq_false h, List.any_eq_false]
    intro y hy
    have ne : ¬ y = x := fun e => h (e ▸ hy)
    simp [eqV, ne]
theorem flat_strs (xs : List Str) : (xs.map V.str).all flatV = true := by
  rw [List.all_map, List.all_eq_true]
  intro y _
  rfl
/-- a text in a list or tuple of texts -/
theorem cd_inS {x : Str} {t : SV} {xs : List Str} (h : SeqOf ow t (xs.map sv)) : CmpD C X ow en .In (sv x) t (decide (x ∈ xs)) := ⟨_, op_in_seq, fun B σ H v u S r1 r2 Q q => by
  obtain ⟨a, ys, e, hq, l⟩ := h.at S r2
  have e2 := strs_at l
  rw [rs_str] at r1
  subst e e2 r1
  exact ⟨a, _, rfl, hq, rfl, flat_strs xs, q _ _ B H rfl (Nxt.refl S) (rs_bl.mpr (by rw [if_neg Bool.false_ne_true, inV_str]))⟩⟩
theorem cd_notInS {x : Str} {t : SV} {xs : List Str} (h : SeqOf ow t (xs.map sv)) : CmpD C X ow en .NotIn (sv x) t (!decide (x ∈ xs)) := ⟨_, op_notIn_seq, fun B σ H v u S r1 r2 Q q => by
  obtain ⟨a, ys, e, hq, l⟩ := h.at S r2
  have e2 := strs_at l
  rw [rs_str] at r1
  subst e e2 r1
  exact ⟨a, _, rfl, hq, rfl, flat_strs xs, q _ _ B H rfl (Nxt.refl S) (rs_bl.mpr (by rw [if_pos rfl, inV_str]))⟩⟩

/-! ### tests -/
theorem et_val {k : Bool} (h : EvD C X ow en e (bv k)) (he : ∀ whole, isTrue e X.env whole = (do let v ← whole; standAt e.pos; holding [v] (truthy v)) := by intro _; rfl) : EvT C X ow en e k :=
  ⟨fun B σ H S Q q => ⟨_, pt_val pe_we he, h.run B σ H S _ fun v s B' H' p n r => ⟨k, rs_bl.mp (p ▸ r), q k B' H' rfl n⟩⟩⟩
theorem etp_val {A : Bool → Prop} (h : EvP C X ow en e (fun s => ∃ k, s = bv k ∧ A k)) (he : ∀ whole, isTrue e X.env whole = (do let v ← whole; standAt e.pos; holding [v] (truthy v)) := by intro _; rfl) : EvTP C X ow en e A :=
  ⟨fun B σ H S Q q => ⟨_, pt_val pe_we he, h.run B σ H S _ fun v s B' H' ⟨k, p, pk⟩ n r => ⟨k, rs_bl.mp (p ▸ r), q k B' H' pk n⟩⟩⟩
theorem et_not {k : Bool} (h : EvT C X ow en e k) : EvT C X ow en (.UnaryOp .Not e pos) (!k) :=
  ⟨fun B σ H S Q q => ⟨_, pt_not pt_wt, h.run B σ H S _ fun b B' H' p n => q _ B' H' (by rw [p]) n⟩⟩
theorem et_w {A : Bool → Prop} (h : EvW C X ow en e A) : EvTP C X ow en e A := ⟨fun B σ H S Q q => by
  obtain ⟨t, ht, z⟩ := h.run B σ H S Q q
  exact ⟨t, ht.pt, z⟩⟩
theorem ew_or1 {k : Bool} (h : EvT C X ow en a k) : EvW C X ow en (.BoolOp .Or [a] pos) (· = k) := ⟨fun B σ H S Q q => ⟨_, pw_or1 pt_wt, h.run B σ H S Q q⟩⟩
theorem ew_and1 {k : Bool} (h : EvT C X ow en a k) : EvW C X ow en (.BoolOp .And [a] pos) (· = k) := ⟨fun B σ H S Q q => ⟨_, pw_and1 pt_wt, h.run B σ H S Q q⟩⟩
theorem ew_or {k j : Bool} {rest : List Expr} (h : EvT C X ow en a k) (h2 : k = false → EvW C X ow en (.BoolOp .Or (b :: rest) pos) (· = j)) : EvW C X ow en (.BoolOp .Or (a :: b :: rest) pos) (· = (k || j)) :=
  ⟨fun B σ H S Q q => ⟨_, pw_or pt_wt pw_ww, h.run B σ H S _ fun c B' H' p n => by
    subst p
    cases c with
    | true => exact q _ B' H' rfl n
    | false => exact (h2 rfl).run B' σ H' n.sta Q fun c B2 H2 p n2 => q _ B2 H2 (by rw [p]; rfl) (n.trans n2)⟩⟩
theorem ew_and {k j : Bool} {rest : List Expr} (h : EvT C X ow en a k) (h2 : k = true → EvW C X ow en (.BoolOp .And (b :: rest) pos) (· = j)) : EvW C X ow en (.BoolOp .And (a :: b :: rest) pos) (· = (k && j)) :=
  ⟨fun B σ H S Q q => ⟨_, pw_and pt_wt pw_ww, h.run B σ H S _ fun c B' H' p n => by
    subst p
    cases c with
    | true => exact (h2 rfl).run B' σ H' n.sta Q fun c B2 H2 p n2 => q _ B2 H2 (by rw [p]; rfl) (n.trans n2)
    | false => exact q _ B' H' rfl n⟩⟩
theorem ewp_and1 {A : Bool → Prop} (h : EvTP C X ow en a A) : EvW C X ow en (.BoolOp .And [a] pos) A := ⟨fun B σ H S Q q => ⟨_, pw_and1 pt_wt, h.run B σ H S Q q⟩⟩
theorem ewp_and {k : Bool} {A : Bool → Prop} {rest : List Expr} (h : EvT C X ow en a k) (h2 : k = true → EvW C X ow en (.BoolOp .And (b :: rest) pos) A) (h3 : k = false → A false) : EvW C X ow en (.BoolOp .And (a :: b :: rest) pos) A :=
  ⟨fun B σ H S Q q => ⟨_, pw_and pt_wt pw_ww, h.run B σ H S _ fun c B' H' p n => by
    subst p
    cases c with
    | true => exact (h2 rfl).run B' σ H' n.sta Q fun c B2 H2 p n2 => q _ B2 H2 p (n.trans n2)
    | false => exact q _ B' H' (h3 rfl) n⟩⟩
theorem et_or2 {k j : Bool} (h : EvT C X ow en a k) (h2 : k = false → EvT C X ow en b j) : EvT C X ow en (.BoolOp .Or [a, b] pos) (k || j) := et_w (ew_or h fun e => ew_or1 (h2 e))
theorem et_or3 {k j l : Bool} (h : EvT C X ow en a k) (h2 : k = false → EvT C X ow en b j) (h3 : k = false → j = false → EvT C X ow en c l) : EvT C X ow en (.BoolOp .Or [a, b, c] pos) (k || (j || l)) :=
  et_w (ew_or h fun e => ew_or (h2 e) fun e2 => ew_or1 (h3 e e2))
theorem et_and2 {k j : Bool} (h : EvT C X ow en a k) (h2 : k = true → EvT C X ow en b j) : EvT C X ow en (.BoolOp .And [a, b] pos) (k && j) := et_w (ew_and h fun e => ew_and1 (h2 e))
theorem et_and3 {k j l : Bool} (h : EvT C X ow en a k) (h2 : k = true → EvT C X ow en b j) (h3 : k = true → j = true → EvT C X ow en c l) : EvT C X ow en (.BoolOp .And [a, b, c] pos) (k && (j && l)) :=
  et_w (ew_and h fun e => ew_and (h2 e) fun e2 => ew_and1 (h3 e e2))
theorem EvTP.to {k j : Bool} (h : EvT C X ow en a k) (e : k = j) : EvT C X ow en a j := e ▸ h
/-- a and b, as a value -/
theorem ed_and2 {k j : Bool} (ha : EvD C X ow en a (bv k)) (hb : k = true → EvD C X ow en b (bv j)) : EvD C X ow en (.BoolOp .And [a, b] pos) (bv (k && j)) :=
  ⟨fun B σ H S Q q => ⟨_, pe_and pe_we (pe_one pe_we), ha.run B σ H S _ fun v s B' H' p n r => ⟨k, rs_bl.mp (p ▸ r), by
    cases k with
    | true =>
      rw [if_pos rfl]
      exact (hb rfl).run B' σ H' n.sta _ fun v s B2 H2 p n2 r2 => q v s B2 H2 (by rw [p]; rfl) (n.trans n2) r2
    | false =>
      rw [if_neg Bool.false_ne_true]
      exact q _ _ B' H' rfl n (rs_bl.mpr rfl)⟩⟩⟩
theorem ep_and2 {k : Bool} (ha : EvD C X ow en a (bv k)) (hb : k = true → EvP C X ow en b P) (h0 : k = false → P (bv false)) : EvP C X ow en (.BoolOp .And [a, b] pos) P :=
  ⟨fun B σ H S Q q => ⟨_, pe_and pe_we (pe_one pe_we), ha.run B σ H S _ fun v s B' H' p n r => ⟨k, rs_bl.mp (p ▸ r), by
    cases k with
    | true =>
      rw [if_pos rfl]
      exact (hb rfl).run B' σ H' n.sta _ fun v s B2 H2 p n2 r2 => q v s B2 H2 p (n.trans n2) r2
    | false =>
      rw [if_neg Bool.false_ne_true]
      exact q _ _ B' H' (h0 rfl) n (rs_bl.mpr rfl)⟩⟩⟩
theorem ed_notV {k : Bool} (ha : EvD C X ow en a (bv k)) : EvD C X ow en (.UnaryOp .Not a pos) (bv (!k)) :=
  ⟨fun B σ H S Q q => ⟨_, pe_not pe_we, ha.run B σ H S _ fun v s B' H' p n r => ⟨k, rs_bl.mp (p ▸ r), q _ _ B' H' rfl n (rs_bl.mpr rfl)⟩⟩⟩
theorem ep_if {k : Bool} (hc : EvT C X ow en c k) (ha : k = true → EvP C X ow en a P) (hb : k = false → EvP C X ow en b P) : EvP C X ow en (.IfExp c a b pos) P :=
  ⟨fun B σ H S Q q => ⟨_, pe_ifExp pt_wt pe_we pe_we, hc.run B σ H S _ fun d B' H' p n => by
    subst p
    cases d with
    | true =>
      rw [if_pos rfl]
      exact (ha rfl).run B' σ H' n.sta Q fun v s B2 H2 p n2 r2 => q v s B2 H2 p (n.trans n2) r2
    | false =>
      rw [if_neg Bool.false_ne_true]
      exact (hb rfl).run B' σ H' n.sta Q fun v s B2 H2 p n2 r2 => q v s B2 H2 p (n.trans n2) r2⟩⟩
theorem ed_if {k : Bool} {s : SV} (hc : EvT C X ow en c k) (ha : k = true → EvD C X ow en a s) (hb : k = false → EvD C X ow en b s) : EvD C X ow en (.IfExp c a b pos) s := ep_if hc ha hb
/-- 1 <= n <= 4 -/
theorem et_chain {x y z : SV} {k j : Bool} (ha : EvD C X ow en a x) (hb : EvD C X ow en b y) (hc : k = true → EvD C X ow en c z) (h1 : CmpD C X ow en op x y k) (h2 : k = true → CmpD C X ow en op' y z j) (hm : lastMarks [op, op'] [b, c] = false := by with_unfolding_all rfl) :
    EvT C X ow en (.Compare a [op, op'] [b, c] pos) (k && j) := ⟨fun B σ H S Q q => by
  obtain ⟨r, ho, hr⟩ := h1.ex
  cases k with
  | false =>
    refine ⟨_, pt_chain ho (r' := fun x y H Q => False) (fun _ _ _ _ _ _ _ _ _ _ _ _ z => z.elim) pe_we pe_we pe_we hm, ev_bin ha hb S (R := fun v u H2 => r v u H2 _) fun v u x y B' H' px py n r1 r2 => ?_⟩
    subst px py
    refine hr B' σ H' v u n.sta r1 r2 _ fun z s B2 H2 ps n2 r3 => ⟨false, rs_bl.mp (ps ▸ r3), ?_⟩
    rw [if_neg Bool.false_ne_true]
    exact ⟨false, rfl, q _ B2 H2 rfl (n.trans n2)⟩
  | true =>
    obtain ⟨r', ho', hr'⟩ := (h2 rfl).ex
    refine ⟨_, pt_chain ho ho' pe_we pe_we pe_we hm, ev_bin ha hb S (R := fun v u H2 => r v u H2 _) fun v u x' y' B' H' px py n r1 r2 => ?_⟩
    subst px py
    refine hr B' σ H' v u n.sta r1 r2 _ fun z' s B2 H2 ps n2 r3 => ⟨true, rs_bl.mp (ps ▸ r3), ?_⟩
    rw [if_pos rfl]
    refine (hc rfl).run B2 σ H2 n2.sta _ fun w t B3 H3 pt n3 r4 => ?_
    subst pt
    exact hr' B3 σ H3 u w n3.sta ((r2.mono n2.exB).mono n3.exB) r4 _ fun z2 s2 B4 H4 ps2 n4 r5 => ⟨j, rs_bl.mp (ps2 ▸ r5), q _ B4 H4 (by simp) (((n.trans n2).trans n3).trans n4)⟩⟩

/-! ### arguments -/
theorem ea_nil : EvA C X ow en [] (· = []) := ⟨fun B σ H S Q q => ⟨_, pa_nil, q _ _ B H rfl (Nxt.refl S) rfl⟩⟩
theorem eap_cons {A A' : List SV → Prop} (ha : EvP C X ow en e Pa) (hr : EvA C X ow en es A) (h : ∀ s ss, Pa s → A ss → A' (s :: ss)) (hs : starEach (e :: es) X.env = (false, eval e X.env) :: starEach es X.env := by rfl) : EvA C X ow en (e :: es) A' :=
  ⟨fun B σ H S Q q => ⟨_, pa_cons pe_we pa_wa hs, ha.run B σ H S _ fun v s B' H' p n r => hr.run B' σ H' n.sta _ fun vs ss B2 H2 ps n2 rs => q _ _ B2 H2 (h s ss p ps) (n.trans n2) (RpSL.cons (r.mono n2.exB) rs)⟩⟩
theorem ea_cons {s : SV} {ss : List SV} (ha : EvD C X ow en e s) (hr : EvA C X ow en es (· = ss)) (hs : starEach (e :: es) X.env = (false, eval e X.env) :: starEach es X.env := by rfl) : EvA C X ow en (e :: es) (· = s :: ss) :=
  eap_cons ha hr (fun _ _ e1 e2 => by rw [e1, e2]) hs
theorem ea_star {s : SV} {xs ss : List SV} {p : Pos} (ha : EvD C X ow en e s) (hx : SeqOf ow s xs) (hr : EvA C X ow en es (· = ss)) (hs : starEach (.Starred e p :: es) X.env = (true, eval e X.env) :: starEach es X.env := by rfl) : EvA C X ow en (.Starred e p :: es) (· = xs ++ ss) :=
  ⟨fun B σ H S Q q => ⟨_, StX.pa_star pe_we pa_wa hs, ha.run B σ H S _ fun v t B' H' pt n r => by
    subst pt
    obtain ⟨a, ys, e, hq, l⟩ := hx.at n.sta r
    exact ⟨a, ys, e, hq.symm, hr.run B' σ H' n.sta _ fun vs ts B2 H2 ps n2 rs => q _ _ B2 H2 (by rw [ps]) (n.trans n2) ((l.mono n2.exB).append rs)⟩⟩⟩
theorem ek_nil : EvK C X ow en [] (· = []) := ⟨fun B σ H S Q q => ⟨_, pk_nil, q _ _ B H rfl (Nxt.refl S) rfl⟩⟩
theorem ek_cons {s : SV} {ss : List SV} {nm : Option Str} {kp : Pos} {ks : List Keyword} (ha : EvD C X ow en e s) (hr : EvK C X ow en ks (· = ss)) : EvK C X ow en (⟨nm, e, kp⟩ :: ks) (· = s :: ss) :=
  ⟨fun B σ H S Q q => ⟨_, pk_cons pe_we pk_wk, ha.run B σ H S _ fun v s B' H' p n r => hr.run B' σ H' n.sta _ fun vs ss B2 H2 ps n2 rs => q _ _ B2 H2 (by rw [p, ps]) (n.trans n2) (RpSL.cons (r.mono n2.exB) rs)⟩⟩

/-! ### displays -/
theorem ed_tup {ds : List D} {x1} (h : EvA C X ow en es (· = ds.map SV.val)) (hl : ds.length ≤ sizeLine := by first | decide | (simp; decide)) : EvD C X ow en (.Tuple es x1 pos) (.val (.tup ds)) :=
  ⟨fun B σ H S Q q => ⟨_, pe_tup pa_wa, h.run B σ H S _ fun vs ss B' H' ps n rs => by
    subst ps
    have l := RpSL.vals.mp rs
    refine ⟨by rw [← l.length]; exact hl, fun p hp => ?_⟩
    have g := n.sta.share (o := .tup vs) hp
    refine q _ _ _ _ rfl (n.trans (Nxt.grow n.sta g)) ?_
    simp only [RpS, Rp]
    exact ⟨p, vs, rfl, SqT.of upd_same, l.mono g.exB⟩⟩⟩
theorem etp_tup {A : List SV → Prop} {x1} (h : EvA C X ow en es A) (hA : ∀ ss, A ss → ∃ ds : List D, ss = ds.map SV.val ∧ ds.length ≤ sizeLine ∧ P (.val (.tup ds))) : EvP C X ow en (.Tuple es x1 pos) P :=
  ⟨fun B σ H S Q q => ⟨_, pe_tup pa_wa, h.run B σ H S _ fun vs ss B' H' ps n rs => by
    obtain ⟨ds, e, hl, pd⟩ := hA ss ps
    subst e
    have l := RpSL.vals.mp rs
    refine ⟨by rw [← l.length]; exact hl, fun p hp => ?_⟩
    have g := n.sta.share (o := .tup vs) hp
    refine q _ _ _ _ pd (n.trans (Nxt.grow n.sta g)) ?_
    simp only [RpS, Rp]
    exact ⟨p, vs, rfl, SqT.of upd_same, l.mono g.exB⟩⟩⟩
theorem en_lst {ss : List SV} (h : EvA C X ow en es (· = ss)) (hl : ss.length ≤ sizeLine := by first | decide | (simp; decide)) : EvN C X ow en (.List es pos) (· = .lst ss) :=
  ⟨fun B σ H S Q q => ⟨_, pe_lst pa_wa, h.run B σ H S _ fun vs ts B' H' ps n rs => by
    subst ps
    refine ⟨by rw [← rs.length]; exact hl, fun p hp => ?_⟩
    exact q p _ _ _ rfl (n.trN (NxN.hold n.sta hp ⟨vs, upd_same, rs⟩))⟩⟩
end
end Sd

/-! text Sd4 -/
set_option Elab.async false
set_option linter.all false
set_option maxRecDepth 100000
set_option maxHeartbeats 2000000
/-! Sd4: new objects shared; promises; calls. -/
namespace Sd
open PySem PySem.Spec PyProof.Rows L2
/-- an object of one's own as data -/
inductive ShOf : OC → D → Prop where
  | lst (ds : List D) : ShOf (.lst (ds.map SV.val)) (.lst ds)
  | dK (ks : List Key) (ds : List D) : ShOf (.dK ks (ds.map SV.val)) (.dK ks ds)
  | dT (ks : List (List Key)) (ds : List D) : ShOf (.dT ks (ds.map SV.val)) (.dT ks ds)
  | ins (C dx : Addr) (ks : List Str) (ds : List D) : ShOf (.ins C dx ks (ds.map SV.val)) (.ins C ks ds)
theorem ShOf.rp {K : Fg} {B H : Hp} {p : Addr} {oc : OC} {d : D} (h : ShOf oc d) (ok : OCok K B H p oc) : ∃ o, H p = some o ∧ ∀ B', Ex B B' → B' p = some o → Rp K B' d (.ref p) := by
  cases h with
  | lst ds =>
    obtain ⟨xs, e, l⟩ := ok
    refine ⟨_, e, fun B' x q => ?_⟩
    simp only [Rp]
    exact ⟨p, xs, rfl, SqL.of q, (RpSL.vals.mp l).mono x⟩
  | dK ks ds =>
    obtain ⟨xs, e, n, l⟩ := ok
    refine ⟨_, e, fun B' x q => ?_⟩
    simp only [Rp]
    exact ⟨p, xs, rfl, .inl q, n, (RpSL.vals.mp l).mono x⟩
  | dT ks ds =>
    obtain ⟨xs, e, n, l⟩ := ok
    refine ⟨_, e, fun B' x q => ?_⟩
    simp only [Rp]
    exact ⟨p, xs, rfl, .inl q, n, (RpSL.vals.mp l).mono x⟩
  | ins C dx ks ds =>
    obtain ⟨xs, e, n, l⟩ := ok
    refine ⟨_, e, fun B' x q => ?_⟩
    simp only [Rp]
    exact ⟨p, dx, xs, rfl, q, n, (RpSL.vals.mp l).mono x⟩
section
variable {C : FC} {K : Fg} {B H : Hp} {ow : Ow} {en : En} {σ : L2.St} {p : Addr} {oc : OC} {o : HO}
/-- the first of one's own is shared from here on -/
theorem Sta.give (S : Sta C K B ((p, oc) :: ow) en σ H) (h0 : C.H0 p = none) (hp : H p = some o) : Ex B (upd B p o) ∧ Sta C K (upd B p o) ow en σ H := by
  obtain ⟨b1, _, _⟩ := S.own _ List.mem_cons_self
  have b1 : B p = none := b1
  have nd := S.nd
  rw [List.map_cons, List.nodup_cons] at nd
  have eB : Ex B (upd B p o) := fun a u e => by
    rw [upd_ne (ne_of_none e b1)]
    exact e
  refine ⟨eB, S.keep, S.alive, S.exB.trans eB, fun a ha => ?_, fun a u e => ?_, fun q hq => ?_, nd.2, S.len, fun i s e1 e2 => ?_, fun q hq => (S.pin q hq).mono eB⟩
  · by_cases q : a = p
    · subst q
      exact .inr h0
    · rw [upd_ne q] at ha
      exact S.new a ha
  · by_cases q : a = p
    · subst q
      rw [upd_same] at e
      rw [hp]
      exact e
    · rw [upd_ne q] at e
      exact S.sub a u e
  · obtain ⟨c1, c2, c3⟩ := S.own q (List.mem_cons_of_mem _ hq)
    have ne : q.1 ≠ p := fun e => nd.1 (List.mem_map.mpr ⟨q, hq, e⟩)
    refine ⟨?_, c2, c3.mono eB fun _ z => z⟩
    rw [upd_ne ne]
    exact c1
  · obtain ⟨v, e, r⟩ := S.slot i s e1 e2
    exact ⟨v, e, r.mono eB⟩
theorem Sta.h0 (S : Sta C K B ow en σ H) (h : H p = none) : C.H0 p = none := by
  cases q : C.H0 p with
  | none => rfl
  | some u => exact absurd h (S.alive p (nn_of q))
end
section
variable {C : FC} {X : Cx} {ow : Ow} {en : En} {a b c e : Expr} {es : List Expr} {pos p0 : Pos} {P P' Pa Pb Pc : SV → Prop} {x : Str}
theorem ep_ofN {A : OC → Prop} (h : EvN C X ow en e A) (k : ∀ oc, A oc → ∃ d, ShOf oc d ∧ P (.val d)) : EvP C X ow en e P :=
  ⟨fun B σ H S Q q => h.run B σ H S Q fun p oc B' H' pa n => by
    obtain ⟨d, hs, pd⟩ := k oc pa
    obtain ⟨_, _, ok⟩ := n.sta.own _ List.mem_cons_self
    obtain ⟨o, ho, r⟩ := hs.rp ok
    obtain ⟨eB2, S2⟩ := n.sta.give (S.h0 n.new) ho
    refine q (.ref p) _ _ H' pd ⟨n.exB.trans eB2, n.fr, fun a ha => ?_, S2⟩ (r _ eB2 upd_same)
    by_cases z : a = p
    · subst z
      exact .inr n.new
    · rw [upd_ne z] at ha
      exact n.nw a ha⟩
theorem ed_ofN {ds : List D} (h : EvN C X ow en e (· = .lst (ds.map SV.val))) : EvD C X ow en e (.val (.lst ds)) := ep_ofN h fun _ pa => ⟨_, pa ▸ ShOf.lst ds, rfl⟩

/-! ### built-ins by name -/
/-- f of these gives what P says -/
structure ClD (C : FC) (X : Cx) (ow : Ow) (en : En) (f : Value) (ss : List SV) (P : SV → Prop) : Prop where
  ex : ∃ r, CallR X f r ∧ ∀ B σ H vs, Sta C X.K B ow en σ H → RpSL X.K B ss vs → ∀ Q : VK, (∀ z s B' H', P s → Nxt C X.K ow en σ B H B' H' → RpS X.K B' s z → Q z H') → r vs H Q
structure ClN (C : FC) (X : Cx) (ow : Ow) (en : En) (f : Value) (ss : List SV) (P : OC → Prop) : Prop where
  ex : ∃ r, CallR X f r ∧ ∀ B σ H vs, Sta C X.K B ow en σ H → RpSL X.K B ss vs → ∀ Q : VK, (∀ p oc B' H', P oc → NxN C X.K ow en σ B H p oc B' H' → Q (.ref p) H') → r vs H Q
theorem call_some {f : Value} {A : (List V → Hp → VK → Prop) → Prop} : CallR X f (fun vs H Q => ∃ r, CallR X f r ∧ r vs H Q) := fun pins s σ H xs us Q I rv ⟨r, hr, h⟩ => hr pins s σ H xs us Q I rv h
theorem ep_callB {A : List SV → Prop} {id : String} (ha : EvA C X ow en (e :: es) A) (hc : ∀ ss, A ss → ClD C X ow en (.builtin id) ss P) (hm : X.mg x = none) (hv : bootBuiltins x = some (.builtin id)) (hg : Gl X x := by rfl)
    (hn : x ≠ "__name__" := by decide) (hdb : (x == ("__debug__" : Str)) = false := by decide) (he : starEach (e :: es) X.env = (false, eval e X.env) :: starEach es X.env := by rfl) (hpl : (backTo pos (starEach es X.env)).any (·.1) = false := by rfl) : EvP C X ow en (.Call (.Name x p0) (e :: es) [] pos) P :=
  ⟨fun B σ H S Q q => ⟨_, pe_callB (call_some (A := fun _ => True)) hg hm hv pa_wa hn hdb he hpl, ha.run B σ H S _ fun vs ss B' H' ps n rs => by
    obtain ⟨r, hr, h⟩ := (hc ss ps).ex
    exact ⟨r, hr, h B' σ H' vs n.sta rs Q fun z s B2 H2 p n2 r2 => q z s B2 H2 p (n.trans n2) r2⟩⟩⟩
theorem ep_callTy {A : List SV → Prop} {T : String} (ha : EvA C X ow en (e :: es) A) (hc : ∀ ss, A ss → ClD C X ow en (.type T) ss P) (hm : X.mg x = none) (hv : bootBuiltins x = some (.type T)) (hg : Gl X x := by rfl)
    (hn : x ≠ "__name__" := by decide) (hdb : (x == ("__debug__" : Str)) = false := by decide) (he : starEach (e :: es) X.env = (false, eval e X.env) :: starEach es X.env := by rfl) (hpl : (backTo pos (starEach es X.env)).any (·.1) = false := by rfl) : EvP C X ow en (.Call (.Name x p0) (e :: es) [] pos) P :=
  ⟨fun B σ H S Q q => ⟨_, pe_callTy (call_some (A := fun _ => True)) hg hm hv pa_wa hn hdb he hpl, ha.run B σ H S _ fun vs ss B' H' ps n rs => by
    obtain ⟨r, hr, h⟩ := (hc ss ps).ex
    exact ⟨r, hr, h B' σ H' vs n.sta rs Q fun z s B2 H2 p n2 r2 => q z s B2 H2 p (n.trans n2) r2⟩⟩⟩
end
end Sd

/-! text Sd5 -/
set_option Elab.async false
set_option linter.all false
set_option maxRecDepth 100000
set_option maxHeartbeats 2000000
/-! Sd5: promises of defs, calls of them. -/
namespace Sd
open PySem PySem.Spec PyProof.Rows L2
/-- what a def hands back: M what it may change -/
structure Ret (K : Fg) (M : List Addr) (B H : Hp) (post : SV → Ow → Prop) (Q : VK) : Prop where
  go : ∀ v s ow' B' H', post s ow' → (∀ a o, a ∉ M → H a = some o → H' a = some o) → (∀ a, H a ≠ none → H' a ≠ none) → Ex B B' → (∀ a, B' a ≠ none → B a ≠ none ∨ H a = none) → Ex B' H' →
    (∀ q ∈ ow', B' q.1 = none ∧ (q.1 ∈ M ∨ H q.1 = none) ∧ OCok K B' H' q.1 q.2) → (ow'.map (·.1)).Nodup → RpS K B' s v → Q v H'
abbrev Rel := Ow → List SV → (SV → Ow → Prop) → Prop
/-- a promise by a relation: objects that may change, arguments, what is handed back -/
def Pr (K : Fg) (R : Rel) : Sp := fun vs H Q _ => ∃ B ow ss post, Ex B H ∧ (ow.map (·.1)).Nodup ∧ (∀ q ∈ ow, B q.1 = none ∧ OCok K B H q.1 q.2) ∧ RpSL K B ss vs ∧ R ow ss post ∧ Ret K (ow.map (·.1)) B H post Q
/-- what follows a return, in a body -/
structure Fin (C : FC) (K : Fg) (post : SV → Ow → Prop) (D : Ends) : Prop where
  rt : ∀ v s ow en σ B H, post s ow → Sta C K B ow en σ H → RpS K B s v → D.rt v H
structure FinN (C : FC) (K : Fg) (post : SV → Ow → Prop) (D : Ends) : Prop where
  nx : ∀ ow en σ B H, post nv ow → Sta C K B ow en σ H → D.nx σ H
/-- statements, from a state -/
structure SD (C : FC) (X : Cx) (ow : Ow) (en : En) (st : List Stmt) (D : Ends) : Prop where
  run : ∀ B σ H, Sta C X.K B ow en σ H → WS X st D σ H
section
variable {K : Fg} {B H : Hp} {ow : Ow} {ss : List SV} {vs : List V}
theorem Fin.of {post : SV → Ow → Prop} {Q : VK} {D : Ends} (r : Ret K (ow.map (·.1)) B H post Q) (e : D.rt = Q) : Fin ⟨ow.map (·.1), B, H, []⟩ K post D :=
  ⟨fun v s ow' en σ B' H' p S rs => by
    rw [e]
    exact r.go v s ow' B' H' p S.keep S.alive S.exB S.new S.sub S.own S.nd rs⟩
theorem FinN.of {post : SV → Ow → Prop} {Q : VK} {D : Ends} (r : Ret K (ow.map (·.1)) B H post Q) (e : D.nx = fun _ H' => Q .non H') : FinN ⟨ow.map (·.1), B, H, []⟩ K post D :=
  ⟨fun ow' en σ B' H' p S => by
    rw [e]
    exact r.go .non nv ow' B' H' p S.keep S.alive S.exB S.new S.sub S.own S.nd (rs_non.mpr rfl)⟩
theorem Sta.init {N : List Str} (sub : Ex B H) (nd : (ow.map (·.1)).Nodup) (own : ∀ q ∈ ow, B q.1 = none ∧ OCok K B H q.1 q.2) (r : RpSL K B ss vs) :
    Sta ⟨ow.map (·.1), B, H, []⟩ K B ow (ss ++ List.replicate (N.length - ss.length) .un) (L2.start N vs) H := by
  have hl := r.length
  refine ⟨fun _ _ _ h => h, fun _ h => h, Ex.refl _, fun _ h => .inl h, sub, fun q hq => ⟨(own q hq).1, .inl (List.mem_map.mpr ⟨q, hq, rfl⟩), (own q hq).2⟩, nd, ?_, fun i s e1 e2 => ?_, fun q hq => by cases hq⟩
  · unfold L2.start
    rw [List.length_append, List.length_append, List.length_map, List.length_replicate, List.length_replicate, hl]
  · by_cases hi : i < ss.length
    · rw [List.getElem?_append_left hi] at e1
      obtain ⟨v, ev, rv⟩ := r.get e1
      refine ⟨v, ?_, rv⟩
      unfold L2.start
      rw [List.getElem?_append_left (by rw [List.length_map]; omega), List.getElem?_map, ev]
      rfl
    · rw [List.getElem?_append_right (by omega), List.getElem?_replicate] at e1
      split at e1
      · cases e1
        exact absurd rfl e2
      · cases e1
end
/-- THE RULE for a def: its body from its arguments -/
theorem fn_pr {P : Program} {w : World} {K : Fg} {mg : Str → Option Value} {base : Heap} {k : Nat} {x qual : Str} {params : Arguments} {body : List Stmt} {scope : Scope} {dvs : List V} {kws : List (Str × V)} {f : Addr} {fd : FuncData} {N ps : List Str} {R : Rel}
    (F : FunD K x qual params body scope dvs kws f fd) (S : FnScope N ps scope) (len : ∀ ow ss post, R ow ss post → ss.length = ps.length)
    (hb : ∀ (cdv : Value) (A : Around) (outer : List Env) (s : Shared) (H : Hp) (E : XK) (C : FC) (D : Ends) (ow : Ow) (ss : List SV) (post : SV → Ow → Prop), Room k (A.deeper (envOfC qual scope s.heap.objs.size f cdv)) → R ow ss post → C.M = ow.map (·.1) → Fin C K post D → FinN C K post D →
      SD C (cxOf CX0 P w K mg base N qual scope f cdv A outer s H E).nox ow (ss ++ List.replicate (N.length - ss.length) .un) body D) : FnOk P w K mg base CX0 (k + 1) f fd ps (Pr K R) := by
  refine F.ok S (fun vs H Q E h => ?_) fun cdv A outer s H vs Q E hr h => ?_
  · obtain ⟨B, ow, ss, post, _, _, _, rs, hR, _⟩ := h
    rw [← rs.length]
    exact len _ _ _ hR
  · obtain ⟨B, ow, ss, post, sub, nd, own, rs, hR, ret⟩ := h
    obtain ⟨t, ht, q⟩ := (hb cdv A outer s H E ⟨ow.map (·.1), B, H, []⟩ { nx := fun _ H' => Q .non H', rt := Q } ow ss post hr hR rfl (Fin.of ret rfl) (FinN.of ret rfl)).run B (L2.start N vs) H (Sta.init sub nd own rs)
    exact ⟨t, ht.nox, q⟩
/-! ### behind a call -/
section
variable {C : FC} {K : Fg} {B H B2 H2 : Hp} {ow owA : Ow} {en : En} {σ : L2.St}
theorem Sta.called (S : Sta C K B ow en σ H) (sb : owA.Sublist ow) (keep : ∀ a o, a ∉ owA.map (·.1) → H a = some o → H2 a = some o) (alive : ∀ a, H a ≠ none → H2 a ≠ none) (exB : Ex B B2)
    (new : ∀ a, B2 a ≠ none → B a ≠ none ∨ H a = none) (sub : Ex B2 H2) (own : ∀ q ∈ owA, B2 q.1 = none ∧ OCok K B2 H2 q.1 q.2) : Nxt C K ow en σ B H B2 H2 := by
  have hin : ∀ a, a ∈ owA.map (·.1) → a ∈ ow.map (·.1) := fun a h => (sb.map _).subset h
  refine ⟨exB, fun a o h1 h2 => keep a o (fun z => h1 (hin a z)) h2, new, fun a o h1 h2 => ?_, fun a h => alive a (S.alive a h), S.exB.trans exB, fun a h => ?_, sub, fun q hq => ?_, S.nd, S.len, fun i s e1 e2 => ?_, fun q hq => (S.pin q hq).mono exB⟩
  · refine keep a o (fun z => ?_) (S.keep a o h1 h2)
    obtain ⟨q, hq, e⟩ := List.mem_map.mp (hin a z)
    obtain ⟨_, c2, _⟩ := S.own q hq
    rw [e] at c2
    rcases c2 with c2 | c2
    · exact h1 c2
    · rw [c2] at h2
      cases h2
  · rcases new a h with h | h
    · exact S.new a h
    · exact .inr (S.h0 h)
  · obtain ⟨c1, c2, c3⟩ := S.own q hq
    by_cases hA : q.1 ∈ owA.map (·.1)
    · obtain ⟨q2, hq2, e⟩ := List.mem_map.mp hA
      have e3 : q2 = q := by
        have nd := S.nd
        have i1 := sb.subset hq2
        exact nodup_key nd i1 hq e
      subst e3
      exact ⟨(own q2 hq2).1, c2, (own q2 hq2).2⟩
    · refine ⟨?_, c2, c3.mono exB fun u e => keep _ _ hA e⟩
      cases z : B2 q.1 with
      | none => rfl
      | some o =>
        rcases new q.1 (nn_of z) with h | h
        · exact absurd c1 h
        · obtain ⟨u, e⟩ := c3.there
          rw [h] at e
          cases e
  · obtain ⟨v, e, r⟩ := S.slot i s e1 e2
    exact ⟨v, e, r.mono exB⟩
where
  nodup_key : ∀ {l : Ow} {a b : Addr × OC}, (l.map (·.1)).Nodup → a ∈ l → b ∈ l → a.1 = b.1 → a = b
    | x :: l, a, b, nd, ha, hb, e => by
      rw [List.map_cons, List.nodup_cons] at nd
      rcases List.mem_cons.mp ha with h1 | h1
      · rcases List.mem_cons.mp hb with h2 | h2
        · rw [h1, h2]
        · subst h1
          exact absurd (List.mem_map.mpr ⟨b, h2, e.symm⟩) nd.1
      · rcases List.mem_cons.mp hb with h2 | h2
        · subst h2
          exact absurd (List.mem_map.mpr ⟨a, h1, e⟩) nd.1
        · exact nodup_key nd.2 h1 h2 e
/-- what a call hands back, as a promise's wish -/
theorem ret_called {post : SV → Ow → Prop} {P : SV → Prop} {Q : VK} (S : Sta C K B ow en σ H) (sb : owA.Sublist ow) (h : ∀ s ow', post s ow' → ow' = owA ∧ P s) (q : ∀ v s B' H', P s → Nxt C K ow en σ B H B' H' → RpS K B' s v → Q v H') :
    Ret K (owA.map (·.1)) B H post Q := ⟨fun v s ow' B' H' p keep alive exB new sub own _ rs => by
  obtain ⟨e, ps⟩ := h s ow' p
  subst e
  exact q v s B' H' ps (S.called sb keep alive exB new sub fun q hq => ⟨(own q hq).1, (own q hq).2.2⟩) rs⟩
end
section
variable {C : FC} {X : Cx} {ow owA : Ow} {en : En} {a b c e o : Expr} {es : List Expr} {pos p0 apos : Pos} {P P' Pa Pb Pc : SV → Prop} {x m f : Str} {k j : Nat} {R : Rel} {dvs : List V} {dd : List SV} {Cc : Addr} {A : List SV → Prop}
/-- f(e, ..), a def of the module -/
theorem ep_call (cal : C8.Cal X.prog X.w X.K X.mg X.base k x (Pr X.K R) dvs) (hr : Room j X.A) (hk : k ≤ j) (ha : EvA C X ow en (e :: es) A) (hd : ∀ B, RpSL X.K B dd dvs)
    (h : ∀ ss, A ss → ∃ owA post, owA.Sublist ow ∧ R owA (ss ++ dd) post ∧ ∀ s ow', post s ow' → ow' = owA ∧ P s) (hg : Gl X x := by rfl)
    (hdb : (x == ("__debug__" : Str)) = false := by decide) (he : starEach (e :: es) X.env = (false, eval e X.env) :: starEach es X.env := by rfl) (hpl : (backTo pos (starEach es X.env)).any (·.1) = false := by rfl) :
    EvP C X ow en (.Call (.Name x p0) (e :: es) [] pos) P :=
  ⟨fun B σ H S Q q => ⟨_, C8.pe_c cal hr hk hg pa_wa hdb he hpl, ha.run B σ H S _ fun vs ss B' H' ps n rs => by
    obtain ⟨owA, post, sb, hR, hp⟩ := h ss ps
    exact ⟨B', owA, ss ++ dd, post, n.sta.sub, n.sta.nd.sublist (sb.map _), fun q hq => ⟨(n.sta.own q (sb.subset hq)).1, (n.sta.own q (sb.subset hq)).2.2⟩, rs.append (hd B'), hR,
      ret_called n.sta sb hp fun v s B2 H2 p n2 r => q v s B2 H2 p (n.trans n2) r⟩⟩⟩
/-- an instance -/
inductive InsOf (ow : Ow) : SV → Addr → List Str → List SV → Prop where
  | val (Cc : Addr) (ks : List Str) (ds : List D) : InsOf ow (.val (.ins Cc ks ds)) Cc ks (ds.map SV.val)
  | own (p Cc dx : Addr) (ks : List Str) (ss : List SV) (h : (p, .ins Cc dx ks ss) ∈ ow) : InsOf ow (.ptr p) Cc ks ss
theorem InsOf.at {K : Fg} {B H : Hp} {σ : L2.St} {s : SV} {ks : List Str} {ss : List SV} {v : V} (h : InsOf ow s Cc ks ss) (S : Sta C K B ow en σ H) (r : RpS K B s v) :
    ∃ a dx xs, v = .ref a ∧ H a = some (.ins Cc dx (ks.zip xs)) ∧ ks.length = xs.length ∧ RpSL K B ss xs := by
  cases h with
  | val ds =>
    simp only [RpS, Rp] at r
    obtain ⟨a, dx, xs, e, q, n, l⟩ := r
    exact ⟨a, dx, xs, e, S.sub _ _ q, n, RpSL.vals.mpr l⟩
  | @own p _ dx _ _ hm =>
    obtain ⟨_, _, xs, q, n, l⟩ := S.own _ hm
    exact ⟨p, _, xs, r, q, n, l⟩
theorem zip_look {K : Fg} {B : Hp} {f : Str} : ∀ {ks : List Str} {ss : List SV} {xs : List V} {s : SV}, RpSL K B ss xs → (ks.zip ss).lookup f = some s → ∃ v, (ks.zip xs).lookup f = some v ∧ RpS K B s v
  | [], _, _, _, _, h => by simp at h
  | _ :: _, [], _, _, _, h => by simp at h
  | g :: ks, s0 :: ss, _, s, ⟨y, ys, e, r, l⟩, h => by
    subst e
    rw [List.zip_cons_cons, List.lookup_cons] at h ⊢
    cases q : f == g with
    | true =>
      rw [q] at h
      cases h
      exact ⟨y, rfl, r⟩
    | false =>
      rw [q] at h
      exact zip_look l h
theorem zip_none {f : Str} : ∀ {ks : List Str} {xs : List V}, f ∉ ks → (ks.zip xs).lookup f = none
  | [], _, _ => rfl
  | _ :: _, [], _ => rfl
  | g :: ks, y :: xs, h => by
    rw [List.zip_cons_cons, List.lookup_cons]
    have q : (f == g) = false := beq_eq_false_iff_ne.mpr fun z => h (z ▸ List.mem_cons_self)
    rw [q]
    exact zip_none fun z => h (List.mem_cons_of_mem _ z)
/-- o.f, an attribute of the instance -/
theorem ep_fld {ks : List Str} {so : SV} {ss : List SV} {s : SV} (ho : EvD C X ow en o so) (hi : InsOf ow so Cc ks ss) (cl : Cls X.K Cc) (na : NoAttr X.K Cc f) (hl : (ks.zip ss).lookup f = some s := by rfl)
    (hb : attributeBase o f X.env (eval o X.env) = eval o X.env := by rfl) : EvD C X ow en (.Attribute o f pos) s :=
  ⟨fun B σ H S Q q => ⟨_, pe_fld pe_we hb, ho.run B σ H S _ fun v t B' H' p n r => by
    subst p
    obtain ⟨a, dx, xs, e, ha, _, l⟩ := hi.at n.sta r
    obtain ⟨u, hu, ru⟩ := zip_look l hl
    exact ⟨a, Cc, dx, _, u, e, ha, cl, na, hu, q u s B' H' rfl n ru⟩⟩⟩
/-- o.f, a property: its getter's promise -/
structure Prp (P : Program) (w : World) (K : Fg) (mg : Str → Option Value) (base : Heap) (k : Nat) (Cc : Addr) (f : Str) (sp : Sp) : Prop where
  ex : ∃ (p g : Addr) (fd : FuncData) (ps : List Str), Cls K Cc ∧ PropOf K Cc f p g ∧ FnOk P w K mg base CX0 k g fd ps sp ∧ Binds K fd ps []
theorem ep_prop {ks : List Str} {so : SV} {ss : List SV} (c : Prp X.prog X.w X.K X.mg X.base k Cc f (Pr X.K R)) (hr : Room j X.A) (hk : k + 1 ≤ j) (ho : EvD C X ow en o so) (hi : InsOf ow so Cc ks ss)
    (h : ∃ owA post, owA.Sublist ow ∧ R owA [so] post ∧ ∀ s ow', post s ow' → ow' = owA ∧ P s) (hb : attributeBase o f X.env (eval o X.env) = eval o X.env := by rfl) : EvP C X ow en (.Attribute o f pos) P :=
  ⟨fun B σ H S Q q => by
    obtain ⟨p, g, fd, ps, cl, po, F, bd⟩ := c.ex
    refine ⟨_, pe_prop pe_we cl po F (hr.mono hk) bd .nil pass0 hb, ho.run B σ H S _ fun v t B' H' pt n r => ?_⟩
    subst pt
    obtain ⟨a, dx, xs, e, ha, _, l⟩ := hi.at n.sta r
    obtain ⟨owA, post, sb, hR, hp⟩ := h
    subst e
    exact ⟨a, dx, _, rfl, ha, B', owA, [t], post, n.sta.sub, n.sta.nd.sublist (sb.map _), fun q hq => ⟨(n.sta.own q (sb.subset hq)).1, (n.sta.own q (sb.subset hq)).2.2⟩, RpSL.cons r RpSL.nil, hR,
      ret_called n.sta sb hp fun v s B2 H2 p n2 r => q v s B2 H2 p (n.trans n2) r⟩⟩
/-- o.m(e, ..), o.m() -/
theorem ep_meth {pl : Sem Bool} {ks : List Str} {so : SV} {ss : List SV} (c : C8.Met X.prog X.w X.K X.mg X.base k Cc m (Pr X.K R) []) (hr : Room j X.A) (hk : k ≤ j) (ho : EvD C X ow en o so) (hi : InsOf ow so Cc ks ss) (hm : m ∉ ks)
    (ha : EvA C X ow en (e :: es) A) (h : ∀ ts, A ts → ∃ owA post, owA.Sublist ow ∧ R owA (so :: ts) post ∧ ∀ s ow', post s ow' → ow' = owA ∧ P s)
    (hst : starEach (e :: es) X.env = (false, eval e X.env) :: starEach es X.env := by rfl) (hpl : (backTo pos (starEach es X.env)).any (·.1) = false := by rfl)
    (ht : eval (.Call (.Attribute o m apos) (e :: es) [] pos) X.env = (do
      let ov ← eval o X.env
      standAt apos.atName
      let (f, first) ← holding [ov] (getMethod ov m pl)
      callWith pos f first (backTo pos (starEach (e :: es) X.env)) (backToKw pos (keywordEach [] X.env))) := by rfl) : EvP C X ow en (.Call (.Attribute o m apos) (e :: es) [] pos) P :=
  ⟨fun B σ H S Q q => ⟨_, C8.pe_mt (pl := pl) c hr hk pe_we pa_wa hst hpl ht, ho.run B σ H S _ fun v t B' H' pt n r => by
    subst pt
    obtain ⟨a, dx, xs, e, hH, _, l⟩ := hi.at n.sta r
    refine ⟨a, dx, _, e, hH, zip_none hm, ha.run B' σ H' n.sta _ fun vs ts B2 H2 pts n2 rts => ?_⟩
    obtain ⟨owA, post, sb, hR, hp⟩ := h ts pts
    rw [List.append_nil]
    exact ⟨B2, owA, t :: ts, post, n2.sta.sub, n2.sta.nd.sublist (sb.map _), fun q hq => ⟨(n2.sta.own q (sb.subset hq)).1, (n2.sta.own q (sb.subset hq)).2.2⟩, RpSL.cons (r.mono n2.exB) rts, hR,
      ret_called n2.sta sb hp fun v s B3 H3 p n3 r => q v s B3 H3 p ((n.trans n2).trans n3) r⟩⟩⟩
theorem ep_meth0 {pl : Sem Bool} {ks : List Str} {so : SV} {ss : List SV} (c : C8.Met X.prog X.w X.K X.mg X.base k Cc m (Pr X.K R) []) (hr : Room j X.A) (hk : k ≤ j) (ho : EvD C X ow en o so) (hi : InsOf ow so Cc ks ss) (hm : m ∉ ks)
    (h : ∃ owA post, owA.Sublist ow ∧ R owA [so] post ∧ ∀ s ow', post s ow' → ow' = owA ∧ P s)
    (ht : eval (.Call (.Attribute o m apos) [] [] pos) X.env = (do
      let ov ← eval o X.env
      standAt apos.atName
      let (f, first) ← holding [ov] (getMethod ov m pl)
      callWith pos f first (backTo pos (starEach [] X.env)) (backToKw pos (keywordEach [] X.env))) := by rfl) : EvP C X ow en (.Call (.Attribute o m apos) [] [] pos) P :=
  ⟨fun B σ H S Q q => ⟨_, C8.pe_mt0 (pl := pl) c hr hk pe_we ht, ho.run B σ H S _ fun v t B' H' pt n r => by
    subst pt
    obtain ⟨a, dx, xs, e, hH, _, l⟩ := hi.at n.sta r
    obtain ⟨owA, post, sb, hR, hp⟩ := h
    subst e
    exact ⟨a, dx, _, rfl, hH, zip_none hm, B', owA, [t], post, n.sta.sub, n.sta.nd.sublist (sb.map _), fun q hq => ⟨(n.sta.own q (sb.subset hq)).1, (n.sta.own q (sb.subset hq)).2.2⟩, RpSL.cons r RpSL.nil, hR,
      ret_called n.sta sb hp fun v s B3 H3 p n3 r => q v s B3 H3 p (n.trans n3) r⟩⟩⟩
/-! ### new instances -/
/-- behind an __init__ -/
theorem ret_made {K : Fg} {B H : Hp} {σ : L2.St} {post : SV → Ow → Prop} {A : OC → Prop} {Q : VK} {x dx : Addr} (S : Sta C K B ow en σ H) (hx : H x = none) (hdx : H dx = none) (ne : dx ≠ x) (h : ∀ s ow', post s ow' → s = nv ∧ ∃ oc, ow' = [(x, oc)] ∧ A oc)
    (q : ∀ p oc B' H', A oc → NxN C K ow en σ B H p oc B' H' → Q (.ref p) H') : Ret K ([(x, (.ins Cc dx [] [] : OC))].map (·.1)) B (upd (upd H dx (.own x)) x (.ins Cc dx [])) post (fun v H2 => v = .non ∧ Q (.ref x) H2) :=
  ⟨fun v s ow' B' H' p keep alive exB new sub own _ rs => by
    obtain ⟨e1, oc, e2, pa⟩ := h s ow' p
    subst e1 e2
    have hk : ∀ a o, H a = some o → H' a = some o := fun a o e => by
      have n1 : a ≠ x := ne_of_none e hx
      have n2 : a ≠ dx := ne_of_none e hdx
      refine keep a o (by simpa using n1) ?_
      rw [upd_ne n1, upd_ne n2]
      exact e
    have hn : ∀ a, B' a ≠ none → B a ≠ none ∨ H a = none := fun a ha => by
      rcases new a ha with h | h
      · exact .inl h
      · by_cases n1 : a = x
        · subst n1
          exact .inr hx
        · rw [upd_ne n1] at h
          by_cases n2 : a = dx
          · subst n2
            exact .inr hdx
          · rw [upd_ne n2] at h
            exact .inr h
    obtain ⟨b1, _, b2⟩ := own _ List.mem_cons_self
    have b1 : B' x = none := b1
    have b2 : OCok K B' H' x oc := b2
    have nx : x ∉ ow.map (·.1) := fun z => by
      obtain ⟨q0, hq0, e⟩ := List.mem_map.mp z
      obtain ⟨_, _, c3⟩ := S.own q0 hq0
      obtain ⟨u, eu⟩ := c3.there
      rw [e, hx] at eu
      cases eu
    have S2 := S.grow (B' := B') (H' := H') ⟨exB, hk, sub, hn⟩
    refine ⟨rs_non.mp rs, q x oc B' H' pa ⟨exB, fun a o _ e => hk a o e, hn, hx, S2.keep, S2.alive, S2.exB, S2.new, S2.sub, fun q0 hq0 => ?_, ?_, S2.len, S2.slot, S2.pin⟩⟩
    · rcases List.mem_cons.mp hq0 with e | hq0
      · subst e
        exact ⟨b1, .inr (S.h0 hx), b2⟩
      · exact S2.own q0 hq0
    · rw [List.map_cons, List.nodup_cons]
      exact ⟨nx, S2.nd⟩⟩
theorem pr_made {K : Fg} {B H : Hp} {σ : L2.St} {post : SV → Ow → Prop} {A : OC → Prop} {Q : VK} {E : XK} {x dx : Addr} {vs : List V} {ss : List SV} (S : Sta C K B ow en σ H) (hx : H x = none) (hdx : H dx = none) (ne : dx ≠ x)
    (hR : R [(x, .ins Cc dx [] [])] ss post) (rs : RpSL K B ss vs) (h : ∀ s ow', post s ow' → s = nv ∧ ∃ oc, ow' = [(x, oc)] ∧ A oc)
    (q : ∀ p oc B' H', A oc → NxN C K ow en σ B H p oc B' H' → Q (.ref p) H') : Pr K R vs (upd (upd H dx (.own x)) x (.ins Cc dx [])) (fun v H2 => v = .non ∧ Q (.ref x) H2) E := by
  refine ⟨B, [(x, .ins Cc dx [] [])], ss, post, fun a o e => ?_, by simp, fun q0 hq0 => ?_, rs, hR, ret_made S hx hdx ne h q⟩
  · have e2 := S.sub a o e
    rw [upd_ne (ne_of_none e2 hx), upd_ne (ne_of_none e2 hdx)]
    exact e2
  · have e : q0 = (x, .ins Cc dx [] []) := by simpa using hq0
    subst e
    refine ⟨?_, [], upd_same, rfl, rfl⟩
    cases z : B x with
    | none => rfl
    | some u =>
      rw [S.sub x u z] at hx
      cases hx
theorem en_make {A2 : OC → Prop} (c : C8.Mak X.prog X.w X.K X.mg X.base k x Cc (Pr X.K R) dvs) (hr : Room j X.A) (hk : k + 1 ≤ j) (ha : EvA C X ow en (e :: es) A) (hd : ∀ B, RpSL X.K B dd dvs)
    (h : ∀ ss, A ss → ∀ p dx, ∃ post, R [(p, .ins Cc dx [] [])] (.ptr p :: (ss ++ dd)) post ∧ ∀ s ow', post s ow' → s = nv ∧ ∃ oc, ow' = [(p, oc)] ∧ A2 oc) (hg : Gl X x := by rfl)
    (hdb : (x == ("__debug__" : Str)) = false := by decide) (he : starEach (e :: es) X.env = (false, eval e X.env) :: starEach es X.env := by rfl) (hpl : (backTo pos (starEach es X.env)).any (·.1) = false := by rfl) :
    EvN C X ow en (.Call (.Name x p0) (e :: es) [] pos) A2 :=
  ⟨fun B σ H S Q q => ⟨_, C8.pe_mk c hr hk hg pa_wa hdb he hpl, ha.run B σ H S _ fun vs ss B' H' ps n rs x dx hx hdx ne => by
    obtain ⟨post, hR, hp⟩ := h ss ps x dx
    exact pr_made n.sta hx hdx ne hR (RpSL.cons rfl (rs.append (hd B'))) hp fun p oc B2 H2 pa n2 => q p oc B2 H2 pa (n.trN n2)⟩⟩
theorem en_make0 {A2 : OC → Prop} (c : C8.Mak X.prog X.w X.K X.mg X.base k x Cc (Pr X.K R) dvs) (hr : Room j X.A) (hk : k + 1 ≤ j) (hd : ∀ B, RpSL X.K B dd dvs)
    (h : ∀ p dx, ∃ post, R [(p, .ins Cc dx [] [])] (.ptr p :: dd) post ∧ ∀ s ow', post s ow' → s = nv ∧ ∃ oc, ow' = [(p, oc)] ∧ A2 oc) (hg : Gl X x := by rfl) (hdb : (x == ("__debug__" : Str)) = false := by decide) :
    EvN C X ow en (.Call (.Name x p0) [] [] pos) A2 :=
  ⟨fun B σ H S Q q => by
    obtain ⟨f, fd, ps, ds, M, F, hm, b, d⟩ := c.ex
    refine ⟨_, pe_make0 M F (hr.mono hk) hg hm b d pass0 hdb, fun x dx hx hdx ne => ?_⟩
    obtain ⟨post, hR, hp⟩ := h x dx
    exact pr_made S hx hdx ne hR (RpSL.cons rfl (hd B)) hp q⟩
/-- with keyword-only parameters: the values in the parameters' order -/
structure MakK (P : Program) (w : World) (K : Fg) (mg : Str → Option Value) (base : Heap) (k n : Nat) (x : Str) (Cc : Addr) (ks : List Str) (sp : Sp) : Prop where
  ex : ∃ (f : Addr) (fd : FuncData) (ps : List Str) (g : List Value → List Value → List Value) (gV : List V → List V → List V), Mk K Cc f ∧ FnOk P w K mg base CX0 k f fd ps sp ∧ mg x = some (.ref Cc) ∧ KBn K fd ps (n + 1) ks g gV ∧ ∀ vs zs : List V, vs.length = n + 1 → zs.length = ks.length → gV vs zs = vs ++ zs
theorem en_makeK {A2 : OC → Prop} {n : Nat} {ks : List Str} {ss zs : List SV} {kws : List Keyword} (c : MakK X.prog X.w X.K X.mg X.base k n x Cc ks (Pr X.K R)) (hr : Room j X.A) (hk : k + 1 ≤ j) (ha : EvA C X ow en (e :: es) (· = ss)) (hz : EvK C X ow en kws (· = zs)) (hn : ss.length = n) (hkl : zs.length = ks.length)
    (h : ∀ p dx, ∃ post, R [(p, .ins Cc dx [] [])] (.ptr p :: (ss ++ zs)) post ∧ ∀ s ow', post s ow' → s = nv ∧ ∃ oc, ow' = [(p, oc)] ∧ A2 oc) (hg : Gl X x := by rfl)
    (hall : (backToKw pos (keywordEach kws X.env)).all (·.1.isSome) = true := by rfl) (hks : (backToKw pos (keywordEach kws X.env)).filterMap (·.1) = ks := by rfl) (hdb : (x == ("__debug__" : Str)) = false := by decide)
    (he : starEach (e :: es) X.env = (false, eval e X.env) :: starEach es X.env := by rfl) (hpl : ((backTo pos (starEach (e :: es) X.env)).any (·.1) || (backToKw pos (keywordEach kws X.env)).any (·.1.isNone)) = false := by rfl) :
    EvN C X ow en (.Call (.Name x p0) (e :: es) kws pos) A2 :=
  ⟨fun B σ H S Q q => by
    obtain ⟨f, fd, ps, g, gV, M, F, hm, b, hgV⟩ := c.ex
    refine ⟨_, pe_makeK M F (hr.mono hk) hg hm b pass0 pa_wa pk_wk hall hks hdb he hpl, ha.run B σ H S _ fun vs ts B' H' ps n rs => hz.run B' σ H' n.sta _ fun us us' B2 H2 ps2 n2 rs2 => ?_⟩
    subst ps ps2
    have l1 := rs.length
    have l2 := rs2.length
    refine ⟨by omega, by omega, fun x dx hx hdx ne => ?_⟩
    obtain ⟨post, hR, hp⟩ := h x dx
    rw [hgV (.ref x :: vs) us (by rw [List.length_cons]; omega) (by omega)]
    exact pr_made n2.sta hx hdx ne hR (RpSL.cons rfl ((rs.mono n2.exB).append rs2)) hp fun p oc B3 H3 pa n3 => q p oc B3 H3 pa ((n.trans n2).trN n3)⟩
end
end Sd

/-! text Sd6 -/
set_option Elab.async false
set_option linter.all false
set_option maxRecDepth 100000
set_option maxHeartbeats 2000000
/-! Sd6: statements, targets, loops. -/
namespace Sd
open PySem PySem.Spec PyProof.Rows L2
section
variable {C : FC} {X : Cx} {ow ow' : Ow} {en : En} {a b c e o tg iter : Expr} {es : List Expr} {pos pos' p0 : Pos} {P : SV → Prop} {x y : Str} {rest body : List Stmt} {D : Ends} {st : Stmt}
/-- the states that I says -/
def Po (C : FC) (X : Cx) (I : Ow → En → Prop) : L2.St → Hp → Prop := fun σ H => ∃ B ow en, I ow en ∧ Sta C X.K B ow en σ H
theorem sd_nil (h : ∀ B σ H, Sta C X.K B ow en σ H → D.nx σ H) : SD C X ow en [] D := ⟨fun B σ H S => ⟨_, pss_nil, h B σ H S⟩⟩
theorem sd_end {I : Ow → En → Prop} (h : I ow en) (e : D.nx = Po C X I := by rfl) : SD C X ow en [] D := sd_nil fun B σ H S => by
  rw [e]
  exact ⟨B, ow, en, h, S⟩
theorem sd_go {D' : Ends} (h : SD C X ow en rest D') (e : D.nx = fun σ H => WS X rest D' σ H := by rfl) : SD C X ow en [] D := sd_nil fun B σ H S => by
  rw [e]
  exact h.run B σ H S
theorem sd_fin {post : SV → Ow → Prop} (F : FinN C X.K post D) (h : post nv ow) : SD C X ow en [] D := sd_nil fun B σ H S => F.nx _ _ _ _ _ h S
theorem SD.drop (h : SD C X ow' en body D) (s : ow'.Sublist ow) : SD C X ow en body D := ⟨fun B σ H S => h.run B σ H (S.drop s)⟩
/-- one statement, then the rest -/
theorem sd_seq {t : TS} (h : PS X st t) (k : ∀ B σ H, Sta C X.K B ow en σ H → t { D with nx := fun σ H => WS X rest D σ H } σ H) : SD C X ow en (st :: rest) D :=
  ⟨fun B σ H S => ⟨_, pss_cons h pss_ws, k B σ H S⟩⟩
/-- x = e -/
theorem sdp_set (i : Nat) (he : EvP C X ow en e P) (k : ∀ s, P s → SD C X ow (en.set i s) rest D) (hN : X.N.Nodup) (hi : X.N[i]? = some x := by rfl) (hx : Loc X.env.scope x := by first | exact Or.inl rfl | exact Or.inr rfl)
    (hs : swapsWith e (some (.Name x pos')) pos.line X.env = pure false := by rfl) (hf : X.fn x = true ∨ X.env.scope.names.lookup x = some .local := by first | exact .inl rfl | exact .inr rfl) : SD C X ow en (.Assign [.Name x pos'] e pos :: rest) D :=
  sd_seq (ps_set hN hi hx pe_we hs hf) fun B σ H S => he.run B σ H S _ fun v s B' H' p n r => (k s p).run B' _ H' (n.sta.set i r)
theorem sd_set (i : Nat) {s : SV} (he : EvD C X ow en e s) (k : SD C X ow (en.set i s) rest D) (hN : X.N.Nodup) (hi : X.N[i]? = some x := by rfl) (hx : Loc X.env.scope x := by first | exact Or.inl rfl | exact Or.inr rfl)
    (hs : swapsWith e (some (.Name x pos')) pos.line X.env = pure false := by rfl) (hf : X.fn x = true ∨ X.env.scope.names.lookup x = some .local := by first | exact .inl rfl | exact .inr rfl) : SD C X ow en (.Assign [.Name x pos'] e pos :: rest) D :=
  sdp_set i he (fun _ p => p ▸ k) hN hi hx hs hf
theorem sd_setN (i : Nat) {A : OC → Prop} (he : EvN C X ow en e A) (k : ∀ p oc, A oc → SD C X ((p, oc) :: ow) (en.set i (.ptr p)) rest D) (hN : X.N.Nodup) (hi : X.N[i]? = some x := by rfl) (hx : Loc X.env.scope x := by first | exact Or.inl rfl | exact Or.inr rfl)
    (hs : swapsWith e (some (.Name x pos')) pos.line X.env = pure false := by rfl) (hf : X.fn x = true ∨ X.env.scope.names.lookup x = some .local := by first | exact .inl rfl | exact .inr rfl) : SD C X ow en (.Assign [.Name x pos'] e pos :: rest) D :=
  sd_seq (ps_set hN hi hx pe_we hs hf) fun B σ H S => he.run B σ H S _ fun p oc B' H' pa n => (k p oc pa).run B' _ H' (n.sta.set i rs_ptr')
where
  rs_ptr' {K : Fg} {B : Hp} {p : Addr} : RpS K B (.ptr p) (.ref p) := rfl
/-- return e -/
theorem sdp_ret {post : SV → Ow → Prop} (F : Fin C X.K post D) (he : EvP C X ow en e P) (h : ∀ s, P s → ∃ ow', ow'.Sublist ow ∧ post s ow') : SD C X ow en (.Return (some e) pos :: rest) D :=
  sd_seq (ps_ret pe_we) fun B σ H S => he.run B σ H S _ fun v s B' H' p n r => by
    obtain ⟨ow', sb, hp⟩ := h s p
    exact F.rt v s ow' en σ B' H' hp (n.sta.drop sb) r
theorem sd_ret {post : SV → Ow → Prop} {s : SV} (F : Fin C X.K post D) (he : EvD C X ow en e s) (sb : ow'.Sublist ow) (h : post s ow') : SD C X ow en (.Return (some e) pos :: rest) D :=
  sdp_ret F he fun _ p => ⟨ow', sb, p ▸ h⟩
/-- return e, a new object -/
theorem sd_retN {post : SV → Ow → Prop} {A : OC → Prop} (F : Fin C X.K post D) (he : EvN C X ow en e A) (h : ∀ p oc, A oc → ∃ ow', ow'.Sublist ((p, oc) :: ow) ∧ post (.ptr p) ow') : SD C X ow en (.Return (some e) pos :: rest) D :=
  sd_seq (ps_ret pe_we) fun B σ H S => he.run B σ H S _ fun p oc B' H' pa n => by
    obtain ⟨ow', sb, hp⟩ := h p oc pa
    exact F.rt _ _ ow' en σ B' H' hp (n.sta.drop sb) rfl
/-- e as a statement -/
theorem sd_expr (he : EvP C X ow en e P) (k : SD C X ow en rest D) (hs : swapsWith e none pos.line X.env = pure false := by rfl) : SD C X ow en (.Expr e pos :: rest) D :=
  sd_seq (ps_expr pe_we hs) fun B σ H S => he.run B σ H S _ fun v s B' H' p n r => k.run B' σ H' n.sta
/-- if -/
theorem sd_if {k : Bool} {sa sb : List Stmt} (hc : EvT C X ow en c k) (ha : k = true → SD C X ow en sa { D with nx := fun σ H => WS X rest D σ H }) (hb : k = false → SD C X ow en sb { D with nx := fun σ H => WS X rest D σ H }) : SD C X ow en (.If c sa sb pos :: rest) D :=
  sd_seq (ps_if pt_wt pss_ws pss_ws) fun B σ H S => hc.run B σ H S _ fun d B' H' p n => by
    subst p
    cases d with
    | true =>
      rw [if_pos rfl]
      exact (ha rfl).run B' σ H' n.sta
    | false =>
      rw [if_neg Bool.false_ne_true]
      exact (hb rfl).run B' σ H' n.sta
theorem sdp_if {A : Bool → Prop} {sa sb : List Stmt} (hc : EvTP C X ow en c A) (ha : A true → SD C X ow en sa { D with nx := fun σ H => WS X rest D σ H }) (hb : A false → SD C X ow en sb { D with nx := fun σ H => WS X rest D σ H }) : SD C X ow en (.If c sa sb pos :: rest) D :=
  sd_seq (ps_if pt_wt pss_ws pss_ws) fun B σ H S => hc.run B σ H S _ fun d B' H' p n => by
    cases d with
    | true =>
      rw [if_pos rfl]
      exact (ha p).run B' σ H' n.sta
    | false =>
      rw [if_neg Bool.false_ne_true]
      exact (hb p).run B' σ H' n.sta
/-- if, not taken; no else -/
theorem sd_no {sa : List Stmt} (hc : EvT C X ow en c false) (k : SD C X ow en rest D) : SD C X ow en (.If c sa [] pos :: rest) D :=
  sd_if hc (fun z => nomatch z) fun _ => sd_go k
/-- one join behind an if: I -/
theorem sd_ifJ {I : Ow → En → Prop} {k : Bool} {sa sb : List Stmt} (hc : EvT C X ow en c k) (ha : k = true → SD C X ow en sa { D with nx := Po C X I }) (hb : k = false → SD C X ow en sb { D with nx := Po C X I }) (h : ∀ ow en, I ow en → SD C X ow en rest D) : SD C X ow en (.If c sa sb pos :: rest) D :=
  sd_seq (ps_if (pt_wt) (pss_ws) (pss_ws)) fun B σ H S => hc.run B σ H S _ fun d B' H' p n => by
    have up : ∀ {s : List Stmt} {σ H}, WS X s { D with nx := Po C X I } σ H → WS X s { D with nx := fun σ H => WS X rest D σ H } σ H := fun {s σ H} ⟨t, ht, q⟩ => by
      refine ⟨fun D' σ H => t { D' with nx := Po C X I } σ H ∧ (∀ σ' H', Po C X I σ' H' → D'.nx σ' H'), ⟨fun pins s0 σ H D' I' ⟨q, kk⟩ => wpAny_mono (ht.run pins s0 σ H _ I' q) (fun f s1 z => ?_) fun _ _ z => z⟩, q, fun σ' H' ⟨B2, ow2, en2, i2, S2⟩ => (h ow2 en2 i2).run B2 σ' H' S2⟩
      cases f with
      | next =>
        obtain ⟨σ1, H1, I1, q1⟩ := z
        exact ⟨σ1, H1, I1, kk _ _ q1⟩
      | brk => exact z
      | cont => exact z
      | ret v => exact z
    subst p
    cases d with
    | true =>
      rw [if_pos rfl]
      exact up ((ha rfl).run B' σ H' n.sta)
    | false =>
      rw [if_neg Bool.false_ne_true]
      exact up ((hb rfl).run B' σ H' n.sta)
end
/-! ### targets -/
/-- slots at js are set -/
inductive SetBy (js : List Nat) (σ : L2.St) : L2.St → Prop where
  | refl : SetBy js σ σ
  | set {σ' : L2.St} (i : Nat) (v : V) (h : i ∈ js) (r : SetBy js σ σ') : SetBy js σ (σ'.set i (some v))
theorem wipe_set {σ : L2.St} {i : Nat} {x : Option V} : ∀ {vs : List Nat}, i ∈ vs → wipe (σ.set i x) vs = wipe σ vs
  | [], h => by cases h
  | v :: vs, h => by
    unfold wipe
    by_cases e : i ∈ vs
    · rw [wipe_set e]
    · have ev : i = v := (List.mem_cons.mp h).resolve_right e
      subst ev
      rw [wipe_out e, List.set_set]
where
  wipe_out {σ : L2.St} {i : Nat} {x : Option V} : ∀ {vs : List Nat}, i ∉ vs → wipe (σ.set i x) vs = (wipe σ vs).set i x
  | [], _ => rfl
  | v :: vs, h => by
    unfold wipe
    have h1 : i ≠ v := fun e => h (e ▸ List.mem_cons_self)
    rw [wipe_out fun e => h (List.mem_cons_of_mem _ e), List.set_comm _ _ h1]
theorem SetBy.wipe {js vs : List Nat} {σ σ' : L2.St} (h : SetBy js σ σ') (s : ∀ i ∈ js, i ∈ vs) : L2.wipe σ' vs = L2.wipe σ vs := by
  induction h with
  | refl => rfl
  | set i v hi _ ih => rw [wipe_set (s i hi), ih]
theorem SetBy.mono {js ks : List Nat} {σ σ' : L2.St} (h : SetBy js σ σ') (s : ∀ i ∈ js, i ∈ ks) : SetBy ks σ σ' := by
  induction h with
  | refl => exact .refl
  | set i v hi _ ih => exact .set i v (s i hi) ih
theorem SetBy.trans {js : List Nat} {σ σ1 σ2 : L2.St} (a : SetBy js σ σ1) (b : SetBy js σ1 σ2) : SetBy js σ σ2 := by
  induction b with
  | refl => exact a
  | set i v hi _ ih => exact .set i v hi ih
/-- s stored in the target -/
structure TgD (C : FC) (X : Cx) (ow : Ow) (tg : Expr) (js : List Nat) (s : SV) (en en' : En) : Prop where
  run : ∀ B σ H v, Sta C X.K B ow en σ H → RpS X.K B s v → ∀ Q : L2.St → Hp → Prop, (∀ σ', SetBy js σ σ' → Sta C X.K B ow en' σ' H → Q σ' H) → WG X tg v σ H Q
def WGs (X : Cx) (es : List Expr) : TGs := fun v σ H Q => ∃ t, PGs X es t ∧ t v σ H Q
theorem pgs_wgs {X : Cx} {es : List Expr} : PGs X es (WGs X es) := ⟨fun pins s σ H v u Q I r h => by
  obtain ⟨t, ht, q⟩ := h
  exact ht.run pins s σ H v u Q I r q⟩
structure TgsD (C : FC) (X : Cx) (ow : Ow) (tgs : List Expr) (js : List Nat) (ss : List SV) (en en' : En) : Prop where
  run : ∀ B σ H vs, Sta C X.K B ow en σ H → RpSL X.K B ss vs → ∀ Q : L2.St → Hp → Prop, (∀ σ', SetBy js σ σ' → Sta C X.K B ow en' σ' H → Q σ' H) → WGs X tgs vs σ H Q
section
variable {C : FC} {X : Cx} {ow ow' : Ow} {en en1 en2 : En} {a b c e o tg iter : Expr} {es tgs : List Expr} {pos pos' p0 : Pos} {P : SV → Prop} {x y : Str} {rest body : List Stmt} {D : Ends} {st : Stmt} {s : SV} {ss : List SV} {js ks : List Nat}
theorem tg_name (i : Nat) (hN : X.N.Nodup) (hi : X.N[i]? = some x := by rfl) (hx : Loc X.env.scope x := by first | exact Or.inl rfl | exact Or.inr rfl) (hf : X.fn x = true ∨ X.env.scope.names.lookup x = some .local := by first | exact .inl rfl | exact .inr rfl) :
    TgD C X ow (.Name x pos) [i] s en (en.set i s) := ⟨fun B σ H v S r Q q => ⟨_, pg_name hN hi hx hf, q _ (.set i v List.mem_cons_self .refl) (S.set i r)⟩⟩
theorem tgs_nil : TgsD C X ow [] [] [] en en := ⟨fun B σ H vs S r Q q => ⟨_, pgs_nil, r, q σ .refl S⟩⟩
theorem tgs_cons (h1 : TgD C X ow e js s en en1) (h2 : TgsD C X ow es ks ss en1 en2) (hs : (assignEach (e :: es) X.env).map (·.2) = assign e X.env :: (assignEach es X.env).map (·.2) := by rfl) : TgsD C X ow (e :: es) (js ++ ks) (s :: ss) en en2 :=
  ⟨fun B σ H vs S ⟨y, ys, e1, r, rs⟩ Q q => ⟨_, pgs_cons pg_wg pgs_wgs hs, y, ys, e1, h1.run B σ H y S r _ fun σ1 b1 S1 => h2.run B σ1 H ys S1 rs _ fun σ2 b2 S2 => q σ2 ((b1.mono fun i hi => List.mem_append_left _ hi).trans (b2.mono fun i hi => List.mem_append_right _ hi)) S2⟩⟩
theorem tg_tup {ds : List Sd.D} {k : Nat} (hc : X.calm = true) (h : TgsD C X ow es js (ds.map SV.val) en en') (hn : (assignEach es X.env).length = ds.length := by rfl) (hst : (assignEach es X.env).findIdx? (·.1) = none := by rfl) :
    TgD C X ow (.Tuple es k pos) js (.val (.tup ds)) en en' := ⟨fun B σ H v S r Q q => by
  simp only [RpS, Rp] at r
  obtain ⟨a, xs, e1, hx, l⟩ := r
  exact ⟨_, pg_tup hc pgs_wgs rfl hst, a, xs, e1, S.sub.t hx, by rw [hn, l.length], h.run B σ H xs S (RpSL.vals.mpr l) Q q⟩⟩

/-! ### what is walked -/
/-- an iterator's turns, wherever gs stand and the objects of need are as told -/
def WalkJ (K : Fg) (gs : List (V × SV)) (need : Ow) (J : It) (n : Nat) (item : Nat → SV → Prop) : Prop :=
  ∀ B H, (∀ q ∈ gs, RpS K B q.2 q.1) → Ex B H → (∀ q ∈ need, OCok K B H q.1 q.2) → (∀ i, i < n → J.go i H ∧ ∀ x H', J.yld i H x H' → ∃ s B', item i s ∧ Grow B H B' H' ∧ RpS K B' s x) ∧ J.stop n H
def FC.sees (C : FC) (gs : List (V × SV)) : FC := { C with gh := gs ++ C.gh }
theorem Sta.sees {K : Fg} {B H : Hp} {σ : L2.St} {gs : List (V × SV)} (S : Sta C K B ow en σ H) (r : ∀ q ∈ gs, RpS K B q.2 q.1) : Sta (C.sees gs) K B ow en σ H :=
  ⟨S.keep, S.alive, S.exB, S.new, S.sub, S.own, S.nd, S.len, S.slot, fun q hq => (List.mem_append.mp hq).elim (r q) (S.pin q)⟩
theorem Sta.unsees {K : Fg} {B H : Hp} {σ : L2.St} {gs : List (V × SV)} (S : Sta (C.sees gs) K B ow en σ H) : Sta C K B ow en σ H :=
  ⟨S.keep, S.alive, S.exB, S.new, S.sub, S.own, S.nd, S.len, S.slot, fun q hq => S.pin q (List.mem_append_right _ hq)⟩
theorem Sta.seen {K : Fg} {B H : Hp} {σ : L2.St} {gs : List (V × SV)} (S : Sta (C.sees gs) K B ow en σ H) : ∀ q ∈ gs, RpS K B q.2 q.1 := fun q hq => S.pin q (List.mem_append_left _ hq)
/-- C' sees more than C -/
structure FC.Le (C C' : FC) : Prop where
  m : C'.M = C.M
  up : ∀ {K : Fg} {B H : Hp} {ow : Ow} {en : En} {σ : L2.St}, Sta C' K B ow en σ H → Sta C K B ow en σ H
theorem FC.Le.sees {gs : List (V × SV)} : FC.Le C (C.sees gs) := ⟨rfl, fun S => S.unsees⟩
theorem Fin.le {K : Fg} {C C' : FC} {post : SV → Ow → Prop} {D D' : Ends} (F : Fin C K post D) (h : FC.Le C C') (e : D'.rt = D.rt := by rfl) : Fin C' K post D' := ⟨fun v s ow en σ B H p S r => by
  rw [e]
  exact F.rt v s ow en σ B H p (h.up S) r⟩
theorem Po.le {C C' : FC} {I : Ow → En → Prop} {σ : L2.St} {H : Hp} (h : FC.Le C C') (p : Po C' X I σ H) : Po C X I σ H := by
  obtain ⟨B, ow, en, i, S⟩ := p
  exact ⟨B, ow, en, i, h.up S⟩
structure EvI (C : FC) (X : Cx) (ow : Ow) (en : En) (tg iter : Expr) (need : Ow) (n : Nat) (item : Nat → SV → Prop) : Prop where
  run : ∀ B σ H, Sta C X.K B ow en σ H → ∀ R : It → Hp → Prop, (∀ J gs B' H', Nxt C X.K ow en σ B H B' H' → (∀ q ∈ gs, RpS X.K B' q.2 q.1) → WalkJ X.K gs need J n item → R J H') → WI X tg iter σ H R
/-- for -/
theorem sd_for {need : Ow} {n : Nat} {item : Nat → SV → Prop} (Inv : Nat → Ow → En → Prop) (hp : PassesOwn (model X.prog X.w) X.A X.env X.xe) (hc : X.calm = true) (hi : EvI C X ow en tg iter need n item)
    (h0 : Inv 0 ow en) (hneed : ∀ i ow en, Inv i ow en → ∀ q ∈ need, q ∈ ow)
    (hs : ∀ C', FC.Le C C' → ∀ i s ow en, i < n → Inv i ow en → item i s → ∃ js en', TgD C' X ow tg js s en en' ∧ SD C' X ow en' body { D with nx := Po C' X (Inv (i + 1)), ct := Po C' X (Inv (i + 1)), bk := fun σ H => WS X rest D σ H })
    (hd : ∀ ow en, Inv n ow en → SD C X ow en rest D) (hfs : ∀ x, foldedSetIterable iter X.env x = pure x := by intro _; rfl) : SD C X ow en (.For tg iter body [] pos :: rest) D :=
  sd_seq (ps_for hp hc pi_wi pg_wg pss_ws hfs) fun B σ H S => hi.run B σ H S _ fun J gs B' H' n1 rg wj => by
    refine ⟨fun i m σ H => m = n - i ∧ i ≤ n ∧ Po (C.sees gs) X (Inv i) σ H, ⟨n, by simp, Nat.zero_le _, B', ow, en, h0, n1.sta.sees rg⟩, ?_⟩
    rintro i m σ1 H1 ⟨rfl, hi, B1, ow1, en1, i1, S1⟩
    obtain ⟨go, stop⟩ := wj B1 H1 S1.seen S1.sub fun q hq => (S1.own _ (hneed i ow1 en1 i1 q hq)).2.2
    by_cases hlt : i < n
    · obtain ⟨g1, g2⟩ := go i hlt
      refine .inr ⟨g1, Po (C.sees gs) X (Inv (i + 1)), fun σ' H' p' => ⟨n - (i + 1), by omega, rfl, hlt, p'⟩, fun x H2 y => ?_⟩
      obtain ⟨s, B2, is, g, r⟩ := g2 x H2 y
      obtain ⟨js, en2, ht, hb⟩ := hs (C.sees gs) .sees i s ow1 en1 hlt i1 is
      exact ht.run B2 σ1 H2 x (S1.grow g) r _ fun σ2 _ S2 => hb.run B2 σ2 H2 S2
    · have e : i = n := by omega
      subst e
      exact .inl ⟨stop, (hd ow1 en1 i1).run B1 σ1 H1 S1.unsees⟩
/-- while -/
theorem sd_while (Inv : Nat → Ow → En → Prop) (m : Nat) (hp : PassesOwn (model X.prog X.w) X.A X.env X.xe) (h0 : Inv m ow en)
    (hs : ∀ m ow en, Inv m ow en → ∃ k, EvT C X ow en c k ∧ (k = true → SD C X ow en body { D with nx := Po C X (fun ow en => ∃ m', m' < m ∧ Inv m' ow en), ct := Po C X (fun ow en => ∃ m', m' < m ∧ Inv m' ow en), bk := fun σ H => WS X rest D σ H }) ∧ (k = false → SD C X ow en rest D)) :
    SD C X ow en (.While c body [] pos :: rest) D :=
  sd_seq (ps_while hp pt_wt pss_ws) fun B σ H S => by
    refine ⟨fun m σ H => Po C X (Inv m) σ H, ⟨m, B, ow, en, h0, S⟩, ?_⟩
    rintro m1 σ1 H1 ⟨B1, ow1, en1, i1, S1⟩
    obtain ⟨k, hk, ht, hf⟩ := hs m1 ow1 en1 i1
    refine hk.run B1 σ1 H1 S1 _ fun b B2 H2 p n2 => ?_
    subst p
    cases b with
    | true =>
      rw [if_pos rfl]
      refine ⟨Po C X (fun ow en => ∃ m', m' < m1 ∧ Inv m' ow en), fun σ' H' ⟨B3, ow3, en3, ⟨m3, h3, i3⟩, S3⟩ => ⟨m3, h3, B3, ow3, en3, i3, S3⟩, (ht rfl).run B2 σ1 H2 n2.sta⟩
    | false =>
      rw [if_neg Bool.false_ne_true]
      exact (hf rfl).run B2 σ1 H2 n2.sta
end
end Sd

/-! text Sd7 -/
set_option Elab.async false
set_option linter.all false
set_option maxRecDepth 100000
set_option maxHeartbeats 2000000
/-! Sd7: comprehensions; what is walked. -/
namespace Sd
open PySem PySem.Spec PyProof.Rows L2
section
variable {C : FC} {X : Cx} {ow : Ow} {en en' : En} {e tg : Expr} {P : SV → Prop} {p : Addr} {oc : OC} {s : SV} {js : List Nat}
/-! ### with one more of one's own -/
theorem Nxt.more {K : Fg} {B H B' H' : Hp} {σ : L2.St} (S : Sta C K B ((p, oc) :: ow) en σ H) (n : Nxt C K ow en σ B H B' H') : Nxt C K ((p, oc) :: ow) en σ B H B' H' := by
  obtain ⟨b1, b2, b3⟩ := S.own _ List.mem_cons_self
  have b1 : B p = none := b1
  have b2 : p ∈ C.M ∨ C.H0 p = none := b2
  have b3 : OCok K B H p oc := b3
  have nd := S.nd
  rw [List.map_cons, List.nodup_cons] at nd
  refine ⟨n.exB, fun a o h1 h2 => n.fr a o (fun z => h1 (List.mem_cons_of_mem _ z)) h2, n.nw, n.sta.keep, n.sta.alive, n.sta.exB, n.sta.new, n.sta.sub, fun q hq => ?_, S.nd, n.sta.len, n.sta.slot, n.sta.pin⟩
  rcases List.mem_cons.mp hq with e | hq
  · subst e
    refine ⟨?_, b2, b3.mono n.exB fun u e => n.fr _ _ nd.1 e⟩
    cases z : B' p with
    | none => rfl
    | some o =>
      rcases n.nw p (nn_of z) with h | h
      · exact absurd b1 h
      · obtain ⟨u, e⟩ := b3.there
        rw [h] at e
        cases e
  · exact n.sta.own q hq
theorem EvP.more (h : EvP C X ow en e P) : EvP C X ((p, oc) :: ow) en e P :=
  ⟨fun B σ H S Q q => h.run B σ H (S.drop (List.sublist_cons_self _ _)) Q fun v s B' H' ps n r => q v s B' H' ps (n.more S) r⟩
theorem EvTP.more {A : Bool → Prop} (h : EvTP C X ow en e A) : EvTP C X ((p, oc) :: ow) en e A :=
  ⟨fun B σ H S Q q => h.run B σ H (S.drop (List.sublist_cons_self _ _)) Q fun b B' H' ps n => q b B' H' ps (n.more S)⟩
theorem TgD.more (h : TgD C X ow tg js s en en') : TgD C X ((p, oc) :: ow) tg js s en en' :=
  ⟨fun B σ H v S r Q q => h.run B σ H v (S.drop (List.sublist_cons_self _ _)) r Q fun σ' b S' => q σ' b ⟨S'.keep, S'.alive, S'.exB, S'.new, S'.sub, S.own, S.nd, S'.len, S'.slot, S'.pin⟩⟩
end
/-- the slots of a block's own names forgotten -/
def wipeE (en : En) : List Nat → En
  | [] => en
  | v :: vs => (wipeE en vs).set v .un
section
variable {C : FC} {K : Fg} {B H : Hp} {ow : Ow} {en : En} {σ : L2.St}
theorem Sta.unset (S : Sta C K B ow en σ H) (i : Nat) : Sta C K B ow (en.set i .un) (σ.set i none) H :=
  ⟨S.keep, S.alive, S.exB, S.new, S.sub, S.own, S.nd, by rw [List.length_set, List.length_set, S.len], fun j s e1 e2 => by
    by_cases h : i = j
    · subst h
      have hi : i < en.length := by
        have := (List.getElem?_eq_some_iff.mp e1).1
        rwa [List.length_set] at this
      rw [List.getElem?_set_self hi] at e1
      cases e1
      exact absurd rfl e2
    · rw [List.getElem?_set_ne h] at e1 ⊢
      exact S.slot j s e1 e2, S.pin⟩
theorem Sta.wipe (S : Sta C K B ow en σ H) : ∀ vs : List Nat, Sta C K B ow (wipeE en vs) (L2.wipe σ vs) H
  | [] => S
  | v :: vs => (S.wipe vs).unset v
/-- slots as they were -/
theorem Sta.slots {C2 : FC} {B2 H2 : Hp} {ow2 : Ow} {en2 : En} {σ2 : L2.St} (S : Sta C K B ow en σ H) (S2 : Sta C K B2 ow2 en2 σ2 H2) (e : Ex B B2) : Sta C K B2 ow2 en σ H2 :=
  ⟨S2.keep, S2.alive, S2.exB, S2.new, S2.sub, S2.own, S2.nd, S.len, fun i s e1 e2 => by
    obtain ⟨v, h1, h2⟩ := S.slot i s e1 e2
    exact ⟨v, h1, h2.mono e⟩, S2.pin⟩
end
/-- a clause's tests -/
structure EvTs (C : FC) (X : Cx) (ow : Ow) (en : En) (ifs : List Expr) (A : Bool → Prop) : Prop where
  run : ∀ B σ H, Sta C X.K B ow en σ H → ∀ Q : Bool → Hp → Prop, (∀ b B' H', A b → Nxt C X.K ow en σ B H B' H' → Q b H') → ∃ t, PTs X ifs t ∧ t σ H Q
section
variable {C : FC} {X : Cx} {ow : Ow} {en : En} {c : Expr} {A : Bool → Prop}
theorem ets_nil : EvTs C X ow en [] (· = true) := ⟨fun B σ H S Q q => ⟨_, pts_nil, q true B H rfl (Nxt.refl S)⟩⟩
theorem ets_one (h : EvTP C X ow en c A) : EvTs C X ow en [c] A := ⟨fun B σ H S Q q => ⟨_, pts_one pt_wt, h.run B σ H S Q q⟩⟩
theorem EvTs.more {p : Addr} {oc : OC} {ifs : List Expr} (h : EvTs C X ow en ifs A) : EvTs C X ((p, oc) :: ow) en ifs A :=
  ⟨fun B σ H S Q q => h.run B σ H (S.drop (List.sublist_cons_self _ _)) Q fun b B' H' ps n => q b B' H' ps (n.more S)⟩
end
/-! ### [e for tg in iter if ..] -/
section
variable {C : FC} {X : Cx} {ow : Ow} {en : En} {elt tg iter : Expr} {ifs : List Expr} {scope : Scope} {own : List (Str × Nat)} {pos : Pos}
/-- a context of the block -/
def Blk (X : Cx) (scope : Scope) (Y : Cx) : Prop := ∃ (s : Shared) (H : Hp) (Ca : Addr) (cl : List (Str × Addr)) (fp : List Addr), Y = X.blk s H scope (compEnvC scope cl Ca X.env) fp
/-- one turn of the block: the target set, the tests, the element -/
structure LcTurn (C : FC) (X : Cx) (ow : Ow) (en : En) (scope : Scope) (own : List (Str × Nat)) (tg elt : Expr) (ifs : List Expr) (s : SV) (acc : List SV) (A' : List SV → Prop) : Prop where
  ex : ∃ (js : List Nat) (en' : En) (T : Bool → Prop), (∀ i ∈ js, i ∈ own.map (·.2)) ∧ (∀ s0 H Ca cl fp, TgD C (X.blk s0 H scope (compEnvC scope cl Ca X.env) fp) ow tg js s (wipeE en (own.map (·.2))) en') ∧
    (∀ s0 H Ca cl fp, EvTs C (X.blk s0 H scope (compEnvC scope cl Ca X.env) fp) ow en' ifs T) ∧ (T false → A' acc) ∧ (T true → ∃ P : SV → Prop, (∀ s0 H Ca cl fp, EvP C (X.blk s0 H scope (compEnvC scope cl Ca X.env) fp) ow en' elt P) ∧ ∀ r, P r → A' (acc ++ [r]))
theorem lc_read {need : Ow} {n : Nat} {item : Nat → SV → Prop} (A : Nat → List SV → Prop) (hi : EvI C X ow en tg iter need n item) (hn : n ≤ sizeLine) (hneed : ∀ q ∈ need, q ∈ ow) (h0 : A 0 [])
    (hs : ∀ C', FC.Le C C' → ∀ i s acc, i < n → item i s → A i acc → LcTurn C' X ow en scope own tg elt ifs s acc (A (i + 1))) {B : Hp} {σ : L2.St} {H : Hp} (S : Sta C X.K B ow en σ H) {Q : VK}
    (q : ∀ p acc B' H', A n acc → NxN C X.K ow en σ B H p (.lst acc) B' H' → Q (.ref p) H') :
    tLc (WI X tg iter) (fun v σ H Q => ∀ s0 H0 Ca cl fp, WG (X.blk s0 H0 scope (compEnvC scope cl Ca X.env) fp) tg v σ H Q) (fun σ H Q => ∀ s0 H0 Ca cl fp, ∃ t, PTs (X.blk s0 H0 scope (compEnvC scope cl Ca X.env) fp) ifs t ∧ t σ H Q)
      (fun σ H Q => ∀ s0 H0 Ca cl fp, WE (X.blk s0 H0 scope (compEnvC scope cl Ca X.env) fp) elt σ H Q) (own.map (·.2)) σ H Q := by
  refine hi.run B σ H S _ fun J gs B1 H1 n1 rg wj => ?_
  intro p hp
  have N0 : NxN (C.sees gs) X.K ow en σ B1 H1 p (.lst []) B1 (upd H1 p (.lst [])) := NxN.hold (n1.sta.sees rg) hp ⟨[], upd_same, rfl⟩
  refine ⟨fun i m H' => m = n - i ∧ i ≤ n ∧ ∃ acc B', A i acc ∧ acc.length ≤ i ∧ NxN (C.sees gs) X.K ow en σ B1 H1 p (.lst acc) B' H', ⟨n, by simp, Nat.zero_le _, [], B1, h0, Nat.le_refl _, N0⟩, ?_⟩
  rintro i m H' ⟨rfl, hi, acc, B', ha, hl, N⟩
  obtain ⟨go, stop⟩ := wj B' H' N.sta.seen N.sta.sub fun q hq => (N.sta.own _ (List.mem_cons_of_mem _ (hneed q hq))).2.2
  by_cases hlt : i < n
  · obtain ⟨g1, g2⟩ := go i hlt
    refine .inr ⟨g1, fun H'' => ∃ acc B', A (i + 1) acc ∧ acc.length ≤ i + 1 ∧ NxN (C.sees gs) X.K ow en σ B1 H1 p (.lst acc) B' H'', fun H'' z => ⟨n - (i + 1), by omega, rfl, hlt, z⟩, fun x H2 y => ?_⟩
    obtain ⟨s, B2, is, g, r⟩ := g2 x H2 y
    obtain ⟨js, en', T, hjs, hT, hE, hF, hP⟩ := (hs (C.sees gs) .sees i s acc hlt is ha).ex
    -- the state ahead of the turn, in the block
    have S2 : Sta (C.sees gs) X.K B2 ((p, .lst acc) :: ow) en σ H2 := N.sta.grow g
    have Sw := S2.wipe (own.map (·.2))
    have back : ∀ {B3 H3 : Hp} {σ3 : L2.St} {en3 : En} {acc3 : List SV}, Ex B2 B3 → (∀ a o, a ∉ ow.map (·.1) → a ≠ p → H2 a = some o → H3 a = some o) → (∀ a, B3 a ≠ none → B2 a ≠ none ∨ H2 a = none) → Sta (C.sees gs) X.K B3 ((p, .lst acc3) :: ow) en3 σ3 H3 →
        NxN (C.sees gs) X.K ow en σ B1 H1 p (.lst acc3) B3 H3 := fun {B3 H3 σ3 en3 acc3} e3 f3 w3 S3 => by
      refine ⟨(N.exB.trans g.exB).trans e3, fun a o h1 h2 => ?_, fun a h => ?_, N.new, ?_⟩
      · have ne : a ≠ p := ne_of_none h2 N.new
        exact f3 a o h1 ne (g.exH _ _ (N.fr a o h1 h2))
      · rcases w3 a h with h | h
        · rcases g.new a h with h | h
          · exact N.nw a h
          · exact .inr (free1 N h)
        · exact .inr (free1 N (free2 g h))
      · exact S2.slots (C2 := C) S3 e3
    intro s0 H0 Ca cl fp
    refine (hT s0 H0 Ca cl fp).more.run B2 _ H2 x Sw r _ fun σ3 b3 S3 => ⟨by rw [b3.wipe hjs, wipe_wipe], ?_⟩
    intro s0 H0 Ca cl fp
    refine (hE s0 H0 Ca cl fp).more.run B2 σ3 H2 S3 _ fun b B4 H4 tb n4 => ?_
    cases b with
    | false =>
      rw [if_neg Bool.false_ne_true]
      exact ⟨acc, B4, hF tb, by omega, back n4.exB (fun a o h1 h2 h3 => n4.fr a o (by simp [h1, h2]) h3) n4.nw n4.sta⟩
    | true =>
      rw [if_pos rfl]
      obtain ⟨P, hel, hPa⟩ := hP tb
      intro s0 H0 Ca cl fp
      refine (hel s0 H0 Ca cl fp).more.run B4 σ3 H4 n4.sta _ fun v r5 B5 H5 p5 n5 r5' => ?_
      obtain ⟨_, _, xs, hx, lx⟩ := n5.sta.own _ List.mem_cons_self
      have hx : H5 p = some (.lst xs) := hx
      have hxl : xs.length < sizeLine := by rw [← lx.length]; omega
      have S6 : Sta (C.sees gs) X.K B5 ((p, .lst (acc ++ [r5])) :: ow) en' σ3 (upd H5 p (.lst (xs ++ [v]))) := n5.sta.write .here ⟨xs ++ [v], upd_same, lx.append (RpSL.cons r5' RpSL.nil)⟩
      refine ⟨xs, hx, hxl, acc ++ [r5], B5, hPa r5 p5, by rw [List.length_append, List.length_singleton]; omega, back (n4.exB.trans n5.exB) (fun a o h1 h2 h3 => ?_) (fun a h => ?_) S6⟩
      · rw [upd_ne h2]
        exact n5.fr a o (by simp [h1, h2]) (n4.fr a o (by simp [h1, h2]) h3)
      · exact (n5.nw a h).elim (n4.nw a) fun z => .inr (n4.free z)
  · have e : i = n := by omega
    subst e
    exact .inl ⟨stop, q p acc B' H' ha (n1.trN ⟨N.exB, N.fr, N.nw, N.new, N.sta.unsees⟩)⟩
where
  wipe_wipe {σ : L2.St} : ∀ {vs : List Nat}, L2.wipe (L2.wipe σ vs) vs = L2.wipe σ vs
    | [] => rfl
    | v :: vs => by
      show (L2.wipe ((L2.wipe σ vs).set v none) vs).set v none = (L2.wipe σ vs).set v none
      by_cases h : v ∈ vs
      · rw [wipe_set h, wipe_wipe]
      · rw [wipe_set.wipe_out h, wipe_wipe, List.set_set]
  free1 {C : FC} {K : Fg} {ow : Ow} {en : En} {σ : L2.St} {B H B' H' : Hp} {p a : Addr} {oc : OC} (N : NxN C K ow en σ B H p oc B' H') (h : H' a = none) : H a = none := by
    cases q : H a with
    | none => rfl
    | some u =>
      by_cases hp : a ∈ ow.map (·.1)
      · obtain ⟨z, hz, e⟩ := List.mem_map.mp hp
        obtain ⟨_, _, k⟩ := N.sta.own z (List.mem_cons_of_mem _ hz)
        obtain ⟨u2, e2⟩ := k.there
        rw [e, h] at e2
        cases e2
      · rw [N.fr a u hp q] at h
        cases h
  free2 {B H B' H' : Hp} {a : Addr} (g : Grow B H B' H') (h : H' a = none) : H a = none := by
    cases q : H a with
    | none => rfl
    | some u =>
      rw [g.exH a u q] at h
      cases h

section
variable {need : Ow} {n : Nat} {item : Nat → SV → Prop}
theorem en_lc (own : List (Str × Nat)) (A : Nat → List SV → Prop) (hi : EvI C X ow en tg iter need n item) (hn : n ≤ sizeLine) (hneed : ∀ q ∈ need, q ∈ ow) (h0 : A 0 [])
    (hs : ∀ C', FC.Le C C' → ∀ i s acc, i < n → item i s → A i acc → LcTurn C' X ow en scope own tg elt ifs s acc (A (i + 1)))
    (hN : X.N.Nodup) (ok : BlkOk X.N X.env.scope scope own) (hc : X.calm = true := by rfl) (hfs : ∀ x, foldedSetIterable iter X.env x = pure x := by intro _; rfl) :
    EvN C X ow en (.ListComp elt [⟨tg, iter, ifs, 0⟩] scope pos) (fun oc => ∃ acc, oc = .lst acc ∧ A n acc) :=
  ⟨fun B σ H S Q q => ⟨_, pe_lc hc hN pi_wi ok (fun s0 H0 Ca cl fp => ⟨fun pins s σ H v u Q I r h => by
      obtain ⟨t, ht, z⟩ := h s0 H0 Ca cl fp
      exact ht.run pins s σ H v u Q I r z⟩) (fun s0 H0 Ca cl fp => ⟨fun pins s σ H Q I h => by
      obtain ⟨t, ht, z⟩ := h s0 H0 Ca cl fp
      exact ht.run pins s σ H Q I z⟩) (fun s0 H0 Ca cl fp => ⟨fun pins s σ H Q I h => by
      obtain ⟨t, ht, z⟩ := h s0 H0 Ca cl fp
      exact ht.run pins s σ H Q I z⟩) hfs, lc_read A hi hn hneed h0 hs S fun p acc B' H' ha n => q p _ B' H' ⟨acc, rfl, ha⟩ n⟩⟩
/-- y = [..], y a local name that no block reads -/
theorem sd_setLc {y : Str} {py spos : Pos} {rest : List Stmt} {D : Ends} (j : Nat) (own : List (Str × Nat)) (A : Nat → List SV → Prop) (hi : EvI C X ow en tg iter need n item) (hn : n ≤ sizeLine) (hneed : ∀ q ∈ need, q ∈ ow) (h0 : A 0 [])
    (hs : ∀ C', FC.Le C C' → ∀ i s acc, i < n → item i s → A i acc → LcTurn C' X ow en scope own tg elt ifs s acc (A (i + 1)))
    (k : ∀ p acc, A n acc → SD C X ((p, .lst acc) :: ow) (en.set j (.ptr p)) rest D)
    (hN : X.N.Nodup) (ok : BlkOk X.N X.env.scope scope own) (hy : X.N[j]? = some y := by rfl) (hyl : X.env.scope.names.lookup y = some .local := by rfl)
    (hsw : swapsWith (.ListComp elt [⟨tg, iter, ifs, 0⟩] scope pos) (some (.Name y py)) spos.line X.env = pure true := by exact sw_true rfl rfl rfl (by decide +kernel)) (hc : X.calm = true := by rfl) (hfs : ∀ x, foldedSetIterable iter X.env x = pure x := by intro _; rfl) :
    SD C X ow en (.Assign [.Name y py] (.ListComp elt [⟨tg, iter, ifs, 0⟩] scope pos) spos :: rest) D :=
  sd_seq (ps_setLc hc hN hy hyl hsw pi_wi ok (fun s0 H0 Ca cl fp => ⟨fun pins s σ H v u Q I r h => by
      obtain ⟨t, ht, z⟩ := h s0 H0 Ca cl fp
      exact ht.run pins s σ H v u Q I r z⟩) (fun s0 H0 Ca cl fp => ⟨fun pins s σ H Q I h => by
      obtain ⟨t, ht, z⟩ := h s0 H0 Ca cl fp
      exact ht.run pins s σ H Q I z⟩) (fun s0 H0 Ca cl fp => ⟨fun pins s σ H Q I h => by
      obtain ⟨t, ht, z⟩ := h s0 H0 Ca cl fp
      exact ht.run pins s σ H Q I z⟩) hfs) fun B σ H S => lc_read A hi hn hneed h0 hs S fun p acc B' H' ha n => (k p acc ha).run B' _ H' (n.sta.set j rfl)
end
end
/-! ### what is walked -/
section
variable {C : FC} {X : Cx} {ow : Ow} {en : En} {e e2 tg : Expr} {pos p0 : Pos}
/-- a list or tuple of data -/
inductive DatSeq : SV → List Sd.D → Prop where
  | lst (ds : List Sd.D) : DatSeq (.val (.lst ds)) ds
  | tup (ds : List Sd.D) : DatSeq (.val (.tup ds)) ds
theorem ei_lst {ds : List Sd.D} (h : EvD C X ow en e (.val (.lst ds))) : EvI C X ow en tg e [] ds.length (fun i s => ∃ d, ds[i]? = some d ∧ s = .val d) :=
  ⟨fun B σ H S R q => ⟨_, pi_list pe_we, h.run B σ H S _ fun v s B' H' p n r => by
    subst p
    have r0 := r
    simp only [RpS, Rp] at r
    obtain ⟨a, xs, e1, hx, l⟩ := r
    refine ⟨a, e1, ⟨xs, n.sta.sub.l hx⟩, q _ [(v, .val (.lst ds))] B' H' n (fun z hz => by
      rw [List.mem_singleton.mp hz]
      exact r0) fun B2 H2 hg sub _ => ?_⟩
    have r2 := hg _ (List.mem_singleton.mpr rfl)
    simp only [RpS, Rp] at r2
    obtain ⟨a2, ys, e2, hy, l2⟩ := r2
    rw [e1] at e2
    cases e2
    have hyH := sub.l hy
    refine ⟨fun i hi => ?_, ys, hyH, by rw [← l2.length]; exact Nat.le_refl _⟩
    have hd : ds[i]? = some ds[i] := List.getElem?_eq_getElem hi
    obtain ⟨x, hx2, rx⟩ := l2.get hd
    refine ⟨⟨ys, x, hyH, hx2⟩, fun x' H' y => ?_⟩
    obtain ⟨eH, y⟩ := y
    subst eH
    have ex := y ys hyH
    rw [hx2] at ex
    cases ex
    exact ⟨_, B2, ⟨_, hd, rfl⟩, Grow.refl sub, rx⟩⟩⟩
theorem ei_tup {ds : List Sd.D} (h : EvD C X ow en e (.val (.tup ds))) : EvI C X ow en tg e [] ds.length (fun i s => ∃ d, ds[i]? = some d ∧ s = .val d) :=
  ⟨fun B σ H S R q => ⟨_, pi_tup pe_we, h.run B σ H S _ fun v s B' H' p n r => by
    subst p
    have r0 := r
    simp only [RpS, Rp] at r
    obtain ⟨a, xs, e1, hx, l⟩ := r
    refine ⟨a, e1, ⟨xs, n.sta.sub.t hx⟩, q _ [(v, .val (.tup ds))] B' H' n (fun z hz => by
      rw [List.mem_singleton.mp hz]
      exact r0) fun B2 H2 hg sub _ => ?_⟩
    have r2 := hg _ (List.mem_singleton.mpr rfl)
    simp only [RpS, Rp] at r2
    obtain ⟨a2, ys, e2, hy, l2⟩ := r2
    rw [e1] at e2
    cases e2
    have hyH := sub.t hy
    refine ⟨fun i hi => ?_, ys, hyH, by rw [← l2.length]; exact Nat.le_refl _⟩
    have hd : ds[i]? = some ds[i] := List.getElem?_eq_getElem hi
    obtain ⟨x, hx2, rx⟩ := l2.get hd
    refine ⟨⟨ys, x, hyH, hx2⟩, fun x' H' y => ?_⟩
    obtain ⟨eH, y⟩ := y
    subst eH
    have ex := y ys hyH
    rw [hx2] at ex
    cases ex
    exact ⟨_, B2, ⟨_, hd, rfl⟩, Grow.refl sub, rx⟩⟩⟩
theorem walk_rng {K : Fg} {lo : Int} {n : Nat} : WalkJ K [] [] (Itr lo n) n (fun i s => s = iv (lo + (i : Nat))) := fun B H _ sub _ =>
  ⟨fun i hi => ⟨hi, fun x H' y => by
    obtain ⟨eH, ex⟩ := y
    subst eH ex
    exact ⟨_, B, rfl, Grow.refl sub, rs_int.mpr rfl⟩⟩, Nat.le_refl _⟩
theorem ei_range1 {A : Int → Prop} (ha : EvD C X ow en e (iv j)) (hj : -(2 ^ 62) ≤ j ∧ j < 2 ^ 62) (hm : X.mg "range" = none) (hg : Gl X "range" := by rfl) (hs : starEach [e] X.env = [(false, eval e X.env)] := by rfl) :
    EvI C X ow en tg (.Call (.Name "range" p0) [e] [] pos) [] j.toNat (fun i s => s = iv (0 + (i : Nat))) :=
  ⟨fun B σ H S R q => ⟨_, pi_range1 hg hm pa_wa hs, (ea_cons ha ea_nil hs).run B σ H S _ fun vs ss B' H' p n r => by
    subst p
    obtain ⟨y, ys, e1, r1, r2⟩ := r
    rw [rs_int.mp r1, show ys = [] from r2] at e1
    exact ⟨j, e1, hj.1, hj.2, q _ [] B' H' n (fun z hz => by cases hz) walk_rng⟩⟩⟩
theorem ei_range2 {i j : Int} (ha : EvD C X ow en e (iv i)) (hb : EvD C X ow en e2 (iv j)) (hj : -(2 ^ 62) ≤ i ∧ i < 2 ^ 62 ∧ -(2 ^ 62) ≤ j ∧ j < 2 ^ 62) (hm : X.mg "range" = none) (hg : Gl X "range" := by rfl)
    (hs : starEach [e, e2] X.env = [(false, eval e X.env), (false, eval e2 X.env)] := by rfl) (hs2 : starEach [e2] X.env = [(false, eval e2 X.env)] := by rfl) :
    EvI C X ow en tg (.Call (.Name "range" p0) [e, e2] [] pos) [] (j - i).toNat (fun k s => s = iv (i + (k : Nat))) :=
  ⟨fun B σ H S R q => ⟨_, pi_range2 hg hm pa_wa hs hs2, (ea_cons ha (ea_cons hb ea_nil hs2) (by rw [hs, hs2])).run B σ H S _ fun vs ss B' H' p n r => by
    subst p
    obtain ⟨y, ys, e1, r1, y2, ys2, e2, r2, r3⟩ := r
    rw [rs_int.mp r1, e2, rs_int.mp r2, show ys2 = [] from r3] at e1
    exact ⟨i, j, e1, hj, q _ [] B' H' n (fun z hz => by cases hz) walk_rng⟩⟩⟩
end
end Sd

/-! text SdEnum -/
set_option Elab.async false
set_option linter.all false
set_option maxRecDepth 100000
set_option maxHeartbeats 4000000
/-! SdEnum: enumerate over a list or a tuple; zip. -/
namespace Sd
open PySem PySem.Spec PyProof.Rows L2
theorem meets_enum1 {v : Value} {o : Obj} {H : Heap → Prop} (B : Begins v o H) :
    Meets (Builtin.«enumerate.__new__» ⟨[.type "enumerate", v], []⟩) (fun _ R s => H s.heap ∧
      R (.ok (.ret (.ref (s.heap.push o).objs.size))) { s with heap := (s.heap.push o).push { cls := .type "enumerate", data := .fields #[.none, .bool false, .ref s.heap.objs.size, rawInt 0, .none, .none] } }) :=
  .of_wp fun prog w A R s h => by
    obtain ⟨hp, g, d, tk, os⟩ := s; obtain ⟨h1, h⟩ := h
    have hsub := sub_enumerate
    have q1 : ∀ {A' : Around} {E : Value → Shared → Prop} {Q : Value → Shared → Prop}, Q (.ref hp.objs.size) ⟨hp.push o, g, d, tk, os⟩ → wpAny (model prog w) A' (pyIter v) Q E ⟨hp, g, d, tk, os⟩ :=
      fun q => B.iter prog w _ _ ⟨hp, g, d, tk, os⟩ _ h1 q
    wp_walk using q1
    refine wpAny_stack_any fun st => wpAny_pure ?_
    split
    · rename_i c _ _ _ _ _
      cases (c == Value.type "enumerate")
      · wp_walk using q1
        exact ⟨_, rfl, h⟩
      · wp_walk using q1
        exact ⟨_, rfl, h⟩
    · wp_walk using q1
      exact ⟨_, rfl, h⟩
theorem call_enum1 {prog : Program} {w : World} {A : Around} {E : Value → Shared → Prop} {s : Shared} {v : Value} {o : Obj} {H : Heap → Prop} {Q : Value → Shared → Prop} (B : Begins v o H) (h1 : H s.heap)
    (h : ∀ h', IsEnum h' (s.heap.objs.size + 1) s.heap.objs.size 0 .none → h'.get? s.heap.objs.size = some o → h'.objs.size = s.heap.objs.size + 2 →
      (∀ b o, s.heap.get? b = some o → h'.get? b = some o) → Q (.ref (s.heap.objs.size + 1)) { s with heap := h' }) :
    wpAny (model prog w) A (call (.type "enumerate") [v]) Q E s := by
  refine callType_new F.called_enumerate (by decide) (F.typeCall_enumerate_1 _) (F.newCall_enumerate_1 _) (fun obj => F.args_object_init_2 obj _) F.entry_enumerate_new
    (meets_enum1 B) ⟨h1, ?_⟩
  have hz : (s.heap.push o).objs.size = s.heap.objs.size + 1 := Heap.size_push ..
  show _ ∧ _
  rw [hz]
  have he : IsEnum ((s.heap.push o).push { cls := .type "enumerate", data := .fields #[.none, .bool false, .ref s.heap.objs.size, rawInt 0, .none, .none] }) (s.heap.objs.size + 1) s.heap.objs.size 0 .none := by
    have := Heap.get?_push_size (s.heap.push o) (o := { cls := .type "enumerate", data := .fields #[.none, .bool false, .ref s.heap.objs.size, rawInt 0, .none, .none] }) rfl
    rw [hz] at this; exact this
  refine ⟨⟨_, he, rfl⟩, h _ he (Heap.get?_push_of_some _ (Heap.get?_push_size _ B.free)) (by rw [Heap.size_push, hz]) fun b o x => Heap.get?_push_of_some _ (Heap.get?_push_of_some _ x)⟩
/-- the tuple at a, as it stands at each turn, its items numbered in new pairs -/
def IteT (K : PySem.W.Frag) (a : Addr) : It :=
  ⟨fun i H => ∃ (xs : List V) (x : V), SqT K H a xs ∧ xs[i]? = some x, fun i H v H' => ∃ T x, v = .ref T ∧ H T = none ∧ H' = upd H T (.tup [.int (i : Nat), x]) ∧ ∀ xs, SqT K H a xs → xs[i]? = some x, fun i H => ∃ xs : List V, SqT K H a xs ∧ xs.length = i⟩
theorem turn_enumT {P : Program} {w : World} {K : PySem.W.Frag} {elts : List Expr} {kk : Nat} {tpos : Pos} (a e it : Addr) :
    Turn P w K (.Tuple elts kk tpos) (IteT K a) [e, it] e (fun i h => (∃ old, IsEnum h e it ((i : Nat) : Int) old) ∧ h.IsTupleIter it a i ∧ e ≠ it ∧ a ≠ e ∧ a ≠ it) where
  mem := by simp
  obj := fun i h st b hb => by
    obtain ⟨⟨old, he⟩, ⟨o, ho, hc, hd⟩, _⟩ := st
    have e' : b = e ∨ b = it := by simpa using hb
    rcases e' with z | z
    · rw [z]; exact ⟨_, he, fun v q => nomatch q⟩
    · rw [z]; exact ⟨o, ho, fun v q => by rw [hd] at q; cases q⟩
  keep := fun i h h' st k => let ⟨⟨old, he⟩, hi, hne⟩ := st; ⟨⟨old, k e (by simp) _ he⟩, hi.at fun o q => k it (by simp) o q, hne⟩
  item := by
    intro X hP hw hK hc i pins s σ H E I hf st hg
    subst hP hw hK
    obtain ⟨⟨old, he⟩, hit, hne, hae, hai⟩ := st
    obtain ⟨xs, x, hq, hx⟩ := hg
    obtain ⟨its, rv, p, hz⟩ := I.tuple hq
    obtain ⟨u, hu, ru⟩ := rv.get hx
    have hel : e < s.heap.objs.size := Heap.lt_size he
    have hil : it < s.heap.objs.size := by obtain ⟨_, q, _⟩ := hit; exact Heap.lt_size q
    have Dr := Draws.tuple (prog := X.prog) (w := X.w) (A := X.A.in1) (show X.A.in1.handled = none from I.ok.hd hc) it a hai its.toArray
    have hlt : i < its.toArray.size := by
      have := (List.getElem?_eq_some_iff.mp hu).1
      simpa using this
    refine wpAny_pyNext_enum_itemC Dr he ⟨hit, p⟩ hlt hne (by simp [hne, Ne.symm hae]) fun x' h' tk hPx ho hs' hT hsz hk => ?_
    have ex' : x' = u := by
      have h2 : its.toArray[i]? = some x' := hPx
      have h3 : its[i]? = some x' := by simpa using h2
      rw [hu] at h3
      exact (Option.some.inj h3).symm
    subst ex'
    refine ⟨_, rfl, wpAny_letOwnedTupleGo_enum (s := { s with heap := h', toks := tk + 1 }) ho fun h'' he' sb => ?_⟩
    have hT2 : h''.get? s.heap.objs.size = some { cls := .type "tuple", data := .seq #[.int i tk, x'] } := (sb.2 _ (Nat.ne_of_gt hel)).trans hT
    have new : ObjOk X.prog X.w (upd H s.heap.objs.size (.tup [.int (i : Nat), x])) h'' s.heap.objs.size (.tup [.int (i : Nat), x]) :=
      ⟨by show 2 ≤ sizeLine; decide, [.int i tk, x'], .cons ⟨_, rfl⟩ (.cons ru .nil), ⟨_, hT2, rfl, _, rfl⟩⟩
    have I1 : Inv X pins σ (upd H s.heap.objs.size (.tup [.int (i : Nat), x])) { s with heap := h'', toks := tk + 1 } :=
      I.turnedNew (ch := [e, it]) (fun b ob hb q => (sb.2 b (fun z => hb (by simp [z]))).trans (hk b ob (fun z => hb (by simp [z])) (fun z => hb (by simp [z])) q)) hf (Nat.le_refl _) new
    refine ⟨.ref s.heap.objs.size, _, I1, rfl, ⟨_, x, rfl, I.hok.fresh (Nat.le_refl _), rfl, fun ys hy => by rw [I.tuple_inj hy hq]; exact hx⟩, ⟨⟨x', ?_⟩, hs'.1.at fun o q => (sb.2 it (Ne.symm hne)).trans q, hne, hae, hai⟩, fun b hb => ?_⟩
    · have e1 : ((i + 1 : Nat) : Int) = (i : Int) + 1 := by omega
      rw [e1]; exact he'
    · have hb' : b < s.heap.objs.size := by
        have e' : b = e ∨ b = it := by simpa using hb
        rcases e' with z | z
        · rw [z]; exact hel
        · rw [z]; exact hil
      rw [upd_ne (Nat.ne_of_lt hb')]
      exact (hf b hb).1
  done := by
    intro X hP hw hK hc i pins s σ H E I hf st hg
    subst hP hw hK
    obtain ⟨⟨old, he⟩, hit, hne, hae, hai⟩ := st
    obtain ⟨xs, hq, hx⟩ := hg
    obtain ⟨its, rv, p, hz⟩ := I.tuple hq
    obtain ⟨f0, f1, f2, f3, f4, f5⟩ := hf it (by simp)
    have hl := rv.length
    have Dr := Draws.tuple (prog := X.prog) (w := X.w) (A := X.A.in1) (show X.A.in1.handled = none from I.ok.hd hc) it a hai its.toArray
    have ei : its.toArray.size = i := by
      rw [List.size_toArray]
      omega
    refine wpAny_pyNext_enum_endD (i := (i : Int)) Dr he ⟨by rw [ei]; exact hit, p⟩ fun h' eb => ⟨rfl, I.turned (t' := s.toks) (fun b o hb q => eb b o hb q) f0 f1 f3 f4 f5⟩
  self := fun A i s Q E st h => let ⟨⟨_, he⟩, _⟩ := st; wpAny_pyIter_enum he h
def iEnumT (K : PySem.W.Frag) (ta : TA) : TI := fun σ H R => ta σ H fun vs H1 => ∃ a xs, vs = [.ref a] ∧ SqT K H1 a xs ∧ R (IteT K a) H1
theorem pi_enumT {X : Cx} {e : Expr} {ta : TA} {p pos tpos : Pos} {elts : List Expr} {kk : Nat} (hg : Gl X "enumerate") (hm : X.mg "enumerate" = none) (ha : PA X [e] ta) (hs : starEach [e] X.env = [(false, eval e X.env)] := by rfl) :
    PI X (.Tuple elts kk tpos) (.Call (.Name "enumerate" p) [e] [] pos) (iEnumT X.K ta) := by
  refine ⟨fun pins s σ H R I h => ?_⟩
  refine Call_ (ld_blt I hg hm boot_enumerate (PyProof.Rows.callWith_type1 (thn (ha.run pos pins s σ H _ I h) fun us s1 ⟨vs, H1, I1, r1, q1⟩ => ?_) hs rfl))
  obtain ⟨a, xs, ex, hq, q⟩ := q1
  subst ex
  cases r1 with
  | cons r rr =>
    cases rr
    cases r
    obtain ⟨its, rv, p', hz⟩ := I1.tuple hq
    have hal : a < s1.heap.objs.size := by
      obtain ⟨o, ho, _⟩ := id p'
      exact Heap.lt_size ho
    refine call_enum1 (begins_tuple a its.toArray) p' fun h' he hit hsz hk => wpAny_pyIter_enum he ?_
    have I2 : Inv X pins σ H1 { s1 with heap := h' } := I1.kept (t' := s1.toks) hk
    refine ⟨s1.heap.objs.size + 1, [s1.heap.objs.size + 1, s1.heap.objs.size], _, _, H1, rfl, I2, turn_enumT a (s1.heap.objs.size + 1) s1.heap.objs.size, ⟨⟨.none, he⟩, ⟨_, hit, rfl, rfl⟩, Nat.succ_ne_self _, ?_, Nat.ne_of_lt hal⟩, fun b hb => ?_, q⟩
    · exact Nat.ne_of_lt (Nat.lt_succ_of_lt hal)
    · have e' : b = s1.heap.objs.size + 1 ∨ b = s1.heap.objs.size := by simpa using hb
      have hle : s1.heap.objs.size ≤ b := by
        rcases e' with z | z
        · rw [z]; exact Nat.le_add_right _ _
        · rw [z]; exact Nat.le_refl _
      exact I1.fpOk hle (I1.hok.fresh hle)
section
variable {C : FC} {X : Cx} {ow : Ow} {en : En} {e e2 tg : Expr} {pos p0 tpos : Pos} {elts : List Expr} {kk : Nat}
/-- enumerate of a list, of a tuple of data -/
theorem ei_enumT {ds : List Sd.D} (h : EvD C X ow en e (.val (.tup ds))) (hm : X.mg "enumerate" = none) (hg : Gl X "enumerate" := by rfl) (hs : starEach [e] X.env = [(false, eval e X.env)] := by rfl) :
    EvI C X ow en (.Tuple elts kk tpos) (.Call (.Name "enumerate" p0) [e] [] pos) [] ds.length (fun i s => ∃ d, ds[i]? = some d ∧ s = .val (.tup [.int (i : Nat), d])) :=
  ⟨fun B σ H S R q => ⟨_, pi_enumT hg hm pa_wa hs, (ea_cons h ea_nil hs).run B σ H S _ fun vs ss B' H' p n r => by
    subst p
    obtain ⟨v, ys, e1, r1, r2⟩ := r
    have r0 := r1
    simp only [RpS, Rp] at r1
    obtain ⟨a, xs, ev, hx, l⟩ := r1
    subst ev
    rw [show ys = [] from r2] at e1
    refine ⟨a, xs, e1, n.sta.sub.t hx, q _ [(.ref a, .val (.tup ds))] B' H' n (fun z hz => by
      rw [List.mem_singleton.mp hz]
      exact r0) fun B2 H2 hg sub _ => ?_⟩
    have r2 := hg _ (List.mem_singleton.mpr rfl)
    simp only [RpS, Rp] at r2
    obtain ⟨a2, ys, e2, hy, l2⟩ := r2
    cases e2
    have hyH := sub.t hy
    refine ⟨fun i hi => ?_, ys, hyH, by rw [← l2.length]⟩
    have hd : ds[i]? = some ds[i] := List.getElem?_eq_getElem hi
    obtain ⟨x, hx2, rx⟩ := l2.get hd
    refine ⟨⟨ys, x, hyH, hx2⟩, fun x' H' y => ?_⟩
    obtain ⟨T, x2, ev, hT, eH, y⟩ := y
    subst ev eH
    have ex := y ys hyH
    rw [hx2] at ex
    cases ex
    have g := grow_new (o := .tup [.int (i : Nat), x]) sub hT
    refine ⟨_, _, ⟨_, hd, rfl⟩, g, ?_⟩
    simp only [RpS, Rp]
    exact ⟨T, _, rfl, SqT.of upd_same, RpL.cons (by simp only [Rp]) (RpL.cons (rx.mono g.exB) RpL.nil)⟩⟩⟩
where
  grow_new {B H : Hp} {T : Addr} {o : HO} (sub : Ex B H) (hT : H T = none) : Grow B H (upd B T o) (upd H T o) := by
    have hb : B T = none := by
      cases q : B T with
      | none => rfl
      | some u =>
        rw [sub T u q] at hT
        cases hT
    refine ⟨fun a u e => ?_, fun a u e => ?_, fun a u e => ?_, fun a e => ?_⟩
    · rw [upd_ne (ne_of_none e hb)]
      exact e
    · rw [upd_ne (ne_of_none e hT)]
      exact e
    · by_cases q : a = T
      · subst q
        rw [upd_same] at e ⊢
        exact e
      · rw [upd_ne q] at e ⊢
        exact sub a u e
    · by_cases q : a = T
      · subst q
        exact .inr hT
      · rw [upd_ne q] at e
        exact .inl e
theorem ei_enumL {ds : List Sd.D} (h : EvD C X ow en e (.val (.lst ds))) (hm : X.mg "enumerate" = none) (hg : Gl X "enumerate" := by rfl) (hs : starEach [e] X.env = [(false, eval e X.env)] := by rfl) :
    EvI C X ow en (.Tuple elts kk tpos) (.Call (.Name "enumerate" p0) [e] [] pos) [] ds.length (fun i s => ∃ d, ds[i]? = some d ∧ s = .val (.tup [.int (i : Nat), d])) :=
  ⟨fun B σ H S R q => ⟨_, pi_enum hg hm pa_wa hs, (ea_cons h ea_nil hs).run B σ H S _ fun vs ss B' H' p n r => by
    subst p
    obtain ⟨v, ys, e1, r1, r2⟩ := r
    have r0 := r1
    simp only [RpS, Rp] at r1
    obtain ⟨a, xs, ev, hx, l⟩ := r1
    subst ev
    rw [show ys = [] from r2] at e1
    refine ⟨a, xs, e1, n.sta.sub.l hx, q _ [(.ref a, .val (.lst ds))] B' H' n (fun z hz => by
      rw [List.mem_singleton.mp hz]
      exact r0) fun B2 H2 hg sub _ => ?_⟩
    have r2 := hg _ (List.mem_singleton.mpr rfl)
    simp only [RpS, Rp] at r2
    obtain ⟨a2, ys, e2, hy, l2⟩ := r2
    cases e2
    have hyH := sub.l hy
    refine ⟨fun i hi => ?_, ys, hyH, by rw [← l2.length]; exact Nat.le_refl _⟩
    have hd : ds[i]? = some ds[i] := List.getElem?_eq_getElem hi
    obtain ⟨x, hx2, rx⟩ := l2.get hd
    refine ⟨⟨ys, x, hyH, hx2⟩, fun x' H' y => ?_⟩
    obtain ⟨T, x2, ev, hT, eH, y⟩ := y
    subst ev eH
    have ex := y ys hyH
    rw [hx2] at ex
    cases ex
    have g := ei_enumT.grow_new (o := .tup [.int (i : Nat), x]) sub hT
    refine ⟨_, _, ⟨_, hd, rfl⟩, g, ?_⟩
    simp only [RpS, Rp]
    exact ⟨T, _, rfl, SqT.of upd_same, RpL.cons (by simp only [Rp]) (RpL.cons (rx.mono g.exB) RpL.nil)⟩⟩⟩
/-- zip of two tuples of one length -/
theorem ei_zipT {ds es : List Sd.D} (h : EvD C X ow en e (.val (.tup ds))) (h2 : EvD C X ow en e2 (.val (.tup es))) (hl : ds.length = es.length) (hm : X.mg "zip" = none) (hg : Gl X "zip" := by rfl)
    (hs : starEach [e, e2] X.env = (false, eval e X.env) :: starEach [e2] X.env := by rfl) (hs2 : starEach [e2] X.env = (false, eval e2 X.env) :: starEach [] X.env := by rfl) (hpl : (backTo pos (starEach [e2] X.env)).any (·.1) = false := by rfl) :
    EvI C X ow en (.Tuple elts kk tpos) (.Call (.Name "zip" p0) [e, e2] [] pos) [] ds.length (fun i s => ∃ d d', ds[i]? = some d ∧ es[i]? = some d' ∧ s = .val (.tup [d, d'])) :=
  ⟨fun B σ H S R q => ⟨_, RZ.pi_zipA hg hm pa_wa hs hpl, (ea_cons h (ea_cons h2 ea_nil hs2) hs).run B σ H S _ fun vs ss B' H' p n r => by
    subst p
    obtain ⟨v, ys, e1, r1, v2, ys2, e2, r2, r3⟩ := r
    have r01 := r1
    have r02 := r2
    simp only [RpS, Rp] at r1 r2
    obtain ⟨a, xs, ev, hx, l⟩ := r1
    obtain ⟨a', xs', ev', hx', l'⟩ := r2
    subst ev ev'
    rw [e2, show ys2 = [] from r3] at e1
    refine ⟨a, a', xs, xs', e1, .inr ⟨n.sta.sub.t hx, n.sta.sub.t hx', q _ [(.ref a, .val (.tup ds)), (.ref a', .val (.tup es))] B' H' n (fun z hz => by
      rcases List.mem_cons.mp hz with e | hz
      · rw [e]
        exact r01
      · rw [List.mem_singleton.mp hz]
        exact r02) fun B2 H2 hg sub _ => ?_⟩⟩
    have g1 := hg (.ref a, .val (.tup ds)) (by simp)
    have g2 := hg (.ref a', .val (.tup es)) (by simp)
    simp only [RpS, Rp] at g1 g2
    obtain ⟨b1, zs, f1, hz1, m1⟩ := g1
    obtain ⟨b2, zs', f2, hz2, m2⟩ := g2
    cases f1
    cases f2
    have h1 := sub.t hz1
    have h2 := sub.t hz2
    have n1 := m1.length
    have n2 := m2.length
    refine ⟨fun i hi => ?_, zs, zs', h1, h2, .inl (by omega)⟩
    have hd : ds[i]? = some ds[i] := List.getElem?_eq_getElem hi
    have hd' : es[i]? = some es[i] := List.getElem?_eq_getElem (by omega)
    obtain ⟨x, hx2, rx⟩ := m1.get hd
    obtain ⟨x', hx2', rx'⟩ := m2.get hd'
    refine ⟨⟨zs, zs', x, x', h1, h2, hx2, hx2'⟩, fun y H' yy => ?_⟩
    obtain ⟨T, w1, w2, ev, hT, eH, y1, y2⟩ := yy
    subst ev eH
    have ex := y1 zs h1
    have ex' := y2 zs' h2
    rw [hx2] at ex
    rw [hx2'] at ex'
    cases ex
    cases ex'
    have g := ei_enumT.grow_new (o := .tup [x, x']) sub hT
    refine ⟨_, _, ⟨_, _, hd, hd', rfl⟩, g, ?_⟩
    simp only [RpS, Rp]
    exact ⟨T, _, rfl, SqT.of upd_same, RpL.cons (rx.mono g.exB) (RpL.cons (rx'.mono g.exB) RpL.nil)⟩⟩⟩
/-- a list of one's own -/
theorem ei_own {p : Addr} {ss : List SV} (h : EvD C X ow en e (.ptr p)) (hm : (p, .lst ss) ∈ ow) : EvI C X ow en tg e [(p, .lst ss)] ss.length (fun i s => ss[i]? = some s) :=
  ⟨fun B σ H S R q => ⟨_, pi_list pe_we, h.run B σ H S _ fun v s B' H' e1 n r => by
    subst e1
    obtain rfl := rs_ptr.mp r
    obtain ⟨_, _, xs, hx, l⟩ := n.sta.own _ hm
    refine ⟨p, rfl, ⟨xs, SqL.of hx⟩, q _ [] B' H' n (fun z hz => by cases hz) fun B2 H2 hg sub hn => ?_⟩
    obtain ⟨ys, hy, l2⟩ := hn _ (List.mem_singleton.mpr rfl)
    have hyH : SqL X.K H2 p ys := SqL.of hy
    refine ⟨fun i hi => ?_, ys, hyH, by rw [← l2.length]; exact Nat.le_refl _⟩
    have hd : ss[i]? = some ss[i] := List.getElem?_eq_getElem hi
    obtain ⟨x, hx2, rx⟩ := l2.get hd
    refine ⟨⟨ys, x, hyH, hx2⟩, fun x' H' y => ?_⟩
    obtain ⟨eH, y⟩ := y
    subst eH
    have ex := y ys hyH
    rw [hx2] at ex
    cases ex
    exact ⟨_, B2, hd, Grow.refl sub, rx⟩⟩⟩
/-- the signs of a text -/
theorem ei_str {z : Str} (h : EvD C X ow en e (sv z)) : EvI C X ow en tg e [] z.cps.size (fun i s => ∃ c, z.cps[i]? = some c ∧ s = sv ⟨#[c]⟩) :=
  ⟨fun B σ H S R q => ⟨_, pi_str pe_we, h.run B σ H S _ fun v s B' H' p n r => by
    subst p
    refine ⟨z, rs_str.mp r, q _ [] B' H' n (fun z hz => by cases hz) fun B2 H2 hg sub _ => ⟨fun i hi => ⟨hi, fun x H' y => ?_⟩, Nat.le_refl _⟩⟩
    obtain ⟨eH, c, hc, ex⟩ := y
    subst eH ex
    exact ⟨_, B2, ⟨c, hc, rfl⟩, Grow.refl sub, rs_str.mpr rfl⟩⟩⟩
end
end Sd

/-! text Sd8 -/
set_option Elab.async false
set_option linter.all false
set_option maxRecDepth 100000
set_option maxHeartbeats 2000000
/-! Sd8: arguments that make objects; expressions that change what is owned; stores. -/
namespace Sd
open PySem PySem.Spec PyProof.Rows L2
/-- .. and ow' is owned: ow and new ones -/
structure NxG (C : FC) (K : Fg) (ow : Ow) (en : En) (σ : L2.St) (B H : Hp) (ow' : Ow) (B' H' : Hp) : Prop where
  exB : Ex B B'
  fr : ∀ a o, a ∉ ow.map (·.1) → H a = some o → H' a = some o
  nw : ∀ a, B' a ≠ none → B a ≠ none ∨ H a = none
  sb : ow.Sublist ow'
  fresh : ∀ q ∈ ow', q ∈ ow ∨ H q.1 = none
  sta : Sta C K B' ow' en σ H'
section
variable {C : FC} {K : Fg} {ow ow1 ow2 : Ow} {en : En} {σ : L2.St} {B H B' H' B1 H1 B2 H2 : Hp} {p : Addr} {oc : OC}
theorem NxG.refl (S : Sta C K B ow en σ H) : NxG C K ow en σ B H ow B H := ⟨Ex.refl _, fun _ _ _ h => h, fun _ h => .inl h, List.Sublist.refl _, fun _ h => .inl h, S⟩
theorem NxG.of (n : Nxt C K ow en σ B H B' H') : NxG C K ow en σ B H ow B' H' := ⟨n.exB, n.fr, n.nw, List.Sublist.refl _, fun _ h => .inl h, n.sta⟩
theorem NxG.ofN (n : NxN C K ow en σ B H p oc B' H') : NxG C K ow en σ B H ((p, oc) :: ow) B' H' := ⟨n.exB, n.fr, n.nw, List.sublist_cons_self _ _, fun q h => by
  rcases List.mem_cons.mp h with e | h
  · exact .inr (e ▸ n.new)
  · exact .inl h, n.sta⟩
theorem NxG.nxt (n : NxG C K ow en σ B H ow1 B' H') : Nxt C K ow en σ B H B' H' := ⟨n.exB, n.fr, n.nw, n.sta.drop n.sb⟩
theorem NxG.tr (a : NxG C K ow en σ B H ow1 B1 H1) (b : NxG C K ow1 en σ B1 H1 ow2 B2 H2) : NxG C K ow en σ B H ow2 B2 H2 := by
  have key : ∀ x o, x ∉ ow.map (·.1) → H x = some o → H2 x = some o := fun x o hx h => by
    refine b.fr x o (fun z => ?_) (a.fr x o hx h)
    obtain ⟨q, hq, e⟩ := List.mem_map.mp z
    rcases a.fresh q hq with hf | hf
    · exact hx (List.mem_map.mpr ⟨q, hf, e⟩)
    · rw [e, h] at hf
      cases hf
  refine ⟨a.exB.trans b.exB, key, fun x h => (b.nw x h).elim (a.nw x) fun z => .inr (a.nxt.free z), a.sb.trans b.sb, fun q hq => ?_, b.sta⟩
  rcases b.fresh q hq with hf | hf
  · exact a.fresh q hf
  · exact .inr (a.nxt.free hf)
theorem NxG.trN (a : NxG C K ow en σ B H ow1 B1 H1) (b : Nxt C K ow1 en σ B1 H1 B2 H2) : NxG C K ow en σ B H ow1 B2 H2 := a.tr (.of b)
/-- a new one remains of the new ones -/
theorem NxG.toN (n : NxG C K ow en σ B H ow1 B' H') (hs : ((p, oc) :: ow).Sublist ow1) (hp : H p = none) : NxN C K ow en σ B H p oc B' H' :=
  ⟨n.exB, n.fr, n.nw, hp, n.sta.drop hs⟩
end
/-- arguments, new objects among them -/
structure EvAw (C : FC) (X : Cx) (ow : Ow) (en : En) (es : List Expr) (P : Ow → List SV → Prop) : Prop where
  run : ∀ B σ H, Sta C X.K B ow en σ H → ∀ Q : List V → Hp → Prop, (∀ vs ss ow' B' H', P ow' ss → NxG C X.K ow en σ B H ow' B' H' → RpSL X.K B' ss vs → Q vs H') → WA X es σ H Q
/-- e changes what is owned -/
structure EvM (C : FC) (X : Cx) (ow : Ow) (en : En) (e : Expr) (P : SV → Ow → Prop) : Prop where
  run : ∀ B σ H, Sta C X.K B ow en σ H → ∀ Q : VK, (∀ v s ow' B' H', P s ow' → Sta C X.K B' ow' en σ H' → RpS X.K B' s v → Q v H') → WE X e σ H Q
/-- what a target does -/
structure TgM (C : FC) (X : Cx) (ow : Ow) (en : En) (tg : Expr) (s : SV) (Kk : Ow → En → Prop) : Prop where
  run : ∀ B σ H v, Sta C X.K B ow en σ H → RpS X.K B s v → ∀ Q : L2.St → Hp → Prop, (∀ B' σ' H' ow' en', Kk ow' en' → Sta C X.K B' ow' en' σ' H' → Ex B B' → Q σ' H') → WG X tg v σ H Q
structure TgsM (C : FC) (X : Cx) (ow : Ow) (en : En) (tgs : List Expr) (ss : List SV) (Kk : Ow → En → Prop) : Prop where
  run : ∀ B σ H vs, Sta C X.K B ow en σ H → RpSL X.K B ss vs → ∀ Q : L2.St → Hp → Prop, (∀ B' σ' H' ow' en', Kk ow' en' → Sta C X.K B' ow' en' σ' H' → Ex B B' → Q σ' H') → WGs X tgs vs σ H Q
section
variable {C : FC} {X : Cx} {ow ow' ow1 owA : Ow} {en en' : En} {a b c e o tg iter : Expr} {es tgs : List Expr} {pos pos' p0 apos : Pos} {P P' Pa Pb Pc : SV → Prop} {x y m f : Str} {rest body : List Stmt} {D : Ends} {st : Stmt} {s : SV} {ss : List SV} {js ks : List Nat} {k j : Nat} {R : Rel} {dvs : List V} {dd : List SV} {Cc : Addr} {Q' : SV → Ow → Prop} {PA' : Ow → List SV → Prop} {Kk : Ow → En → Prop}
theorem EvP.em (h : EvP C X ow en e P) (k : ∀ s, P s → Q' s ow) : EvM C X ow en e Q' := ⟨fun B σ H S Q q => h.run B σ H S Q fun v s B' H' p n r => q v s ow B' H' (k s p) n.sta r⟩
theorem EvN.em {A : OC → Prop} (h : EvN C X ow en e A) (k : ∀ p oc, A oc → Q' (.ptr p) ((p, oc) :: ow)) : EvM C X ow en e Q' := ⟨fun B σ H S Q q => h.run B σ H S Q fun p oc B' H' pa n => q _ _ _ B' H' (k p oc pa) n.sta rfl⟩
theorem EvM.imp {Q2 : SV → Ow → Prop} (h : EvM C X ow en e Q') (k : ∀ s ow', Q' s ow' → Q2 s ow') : EvM C X ow en e Q2 := ⟨fun B σ H S Q q => h.run B σ H S Q fun v s ow' B' H' p n r => q v s ow' B' H' (k s ow' p) n r⟩
/-! ### arguments -/
theorem eaw_nil (h : PA' ow []) : EvAw C X ow en [] PA' := ⟨fun B σ H S Q q => ⟨_, pa_nil, q _ _ _ B H h (NxG.refl S) rfl⟩⟩
theorem eaw_val (ha : EvP C X ow en e Pa) (hr : ∀ s, Pa s → EvAw C X ow en es (fun ow' ss => PA' ow' (s :: ss))) (hs : starEach (e :: es) X.env = (false, eval e X.env) :: starEach es X.env := by rfl) : EvAw C X ow en (e :: es) PA' :=
  ⟨fun B σ H S Q q => ⟨_, pa_cons pe_we pa_wa hs, ha.run B σ H S _ fun v s B' H' p n r => (hr s p).run B' σ H' n.sta _ fun vs ss ow' B2 H2 ps n2 rs => q _ _ _ _ _ ps ((NxG.of n).tr n2) (RpSL.cons (r.mono n2.exB) rs)⟩⟩
theorem eaw_new {A : OC → Prop} (ha : EvN C X ow en e A) (hr : ∀ p oc, A oc → EvAw C X ((p, oc) :: ow) en es (fun ow' ss => PA' ow' (.ptr p :: ss))) (hs : starEach (e :: es) X.env = (false, eval e X.env) :: starEach es X.env := by rfl) : EvAw C X ow en (e :: es) PA' :=
  ⟨fun B σ H S Q q => ⟨_, pa_cons pe_we pa_wa hs, ha.run B σ H S _ fun p oc B' H' pa n => (hr p oc pa).run B' σ H' n.sta _ fun vs ss ow' B2 H2 ps n2 rs => q _ _ _ _ _ ps ((NxG.ofN n).tr n2) (RpSL.cons rfl rs)⟩⟩
theorem eaw_of {A : List SV → Prop} (h : EvA C X ow en es A) (k : ∀ ss, A ss → PA' ow ss) : EvAw C X ow en es PA' := ⟨fun B σ H S Q q => h.run B σ H S Q fun vs ss B' H' p n r => q _ _ _ _ _ (k ss p) (.of n) r⟩
/-- a tuple display of new things -/
theorem em_tup {x1} (h : EvAw C X ow en es (fun ow' ss => ss.length ≤ sizeLine ∧ ∀ t, Q' (.ptr t) ((t, .tup ss) :: ow'))) : EvM C X ow en (.Tuple es x1 pos) Q' :=
  ⟨fun B σ H S Q q => ⟨_, pe_tup pa_wa, h.run B σ H S _ fun vs ss ow' B' H' ⟨hl, ps⟩ n rs => ⟨by rw [← rs.length]; exact hl, fun p hp => q _ _ _ B' _ (ps p) (n.sta.hold hp (oc := .tup ss) ⟨vs, upd_same, rs⟩) rfl⟩⟩⟩
theorem en_tup {x1} (h : EvA C X ow en es (· = ss)) (hl : ss.length ≤ sizeLine := by first | decide | (simp; decide)) : EvN C X ow en (.Tuple es x1 pos) (· = .tup ss) :=
  ⟨fun B σ H S Q q => ⟨_, pe_tup pa_wa, h.run B σ H S _ fun vs ts B' H' ps n rs => by
    subst ps
    exact ⟨by rw [← rs.length]; exact hl, fun p hp => q p _ _ _ rfl (n.trN (NxN.hold n.sta hp ⟨vs, upd_same, rs⟩))⟩⟩⟩
/-! ### calls -/
theorem ep_callW (cal : C8.Cal X.prog X.w X.K X.mg X.base k x (Pr X.K R) dvs) (hr : Room j X.A) (hk : k ≤ j) (hd : ∀ B, RpSL X.K B dd dvs)
    (ha : EvAw C X ow en (e :: es) (fun ow' ss => ∃ owA post, owA.Sublist ow' ∧ R owA (ss ++ dd) post ∧ ∀ s ow'', post s ow'' → ow'' = owA ∧ P s)) (hg : Gl X x := by rfl)
    (hdb : (x == ("__debug__" : Str)) = false := by decide) (he : starEach (e :: es) X.env = (false, eval e X.env) :: starEach es X.env := by rfl) (hpl : (backTo pos (starEach es X.env)).any (·.1) = false := by rfl) :
    EvP C X ow en (.Call (.Name x p0) (e :: es) [] pos) P :=
  ⟨fun B σ H S Q q => ⟨_, C8.pe_c cal hr hk hg pa_wa hdb he hpl, ha.run B σ H S _ fun vs ss ow' B' H' ⟨owA, post, sb, hR, hp⟩ n rs => by
    exact ⟨B', owA, ss ++ dd, post, n.sta.sub, n.sta.nd.sublist (sb.map _), fun q hq => ⟨(n.sta.own q (sb.subset hq)).1, (n.sta.own q (sb.subset hq)).2.2⟩, rs.append (hd B'), hR,
      ret_called n.sta sb hp fun v s B2 H2 p n2 r => q v s B2 H2 p (n.trN n2).nxt r⟩⟩⟩
theorem calledN {K : Fg} {B H B2 H2 : Hp} {σ : L2.St} {p : Addr} {oc : OC} (S : Sta C K B ow en σ H) (sb : owA.Sublist ow) (keep : ∀ a o, a ∉ owA.map (·.1) → H a = some o → H2 a = some o) (alive : ∀ a, H a ≠ none → H2 a ≠ none) (exB : Ex B B2)
    (new : ∀ a, B2 a ≠ none → B a ≠ none ∨ H a = none) (sub : Ex B2 H2) (own : ∀ q ∈ (p, oc) :: owA, B2 q.1 = none ∧ (q.1 ∈ owA.map (·.1) ∨ H q.1 = none) ∧ OCok K B2 H2 q.1 q.2) (nd : (((p, oc) :: owA).map (·.1)).Nodup) : NxN C K ow en σ B H p oc B2 H2 := by
  have n := S.called sb keep alive exB new sub fun q hq => ⟨(own q (List.mem_cons_of_mem _ hq)).1, (own q (List.mem_cons_of_mem _ hq)).2.2⟩
  obtain ⟨b1, b2, b3⟩ := own _ List.mem_cons_self
  have b1 : B2 p = none := b1
  have b3 : OCok K B2 H2 p oc := b3
  rw [List.map_cons, List.nodup_cons] at nd
  have hp : H p = none := b2.resolve_left nd.1
  refine ⟨n.exB, n.fr, n.nw, hp, n.sta.keep, n.sta.alive, n.sta.exB, n.sta.new, n.sta.sub, fun q hq => ?_, ?_, n.sta.len, n.sta.slot, n.sta.pin⟩
  · rcases List.mem_cons.mp hq with e | hq
    · subst e
      exact ⟨b1, .inr (S.h0 hp), b3⟩
    · exact n.sta.own q hq
  · rw [List.map_cons, List.nodup_cons]
    refine ⟨fun z => ?_, S.nd⟩
    obtain ⟨q0, hq0, e⟩ := List.mem_map.mp z
    obtain ⟨_, _, c3⟩ := S.own q0 hq0
    obtain ⟨u, eu⟩ := c3.there
    rw [e, hp] at eu
    cases eu
/-- a def that hands back a new object -/
theorem en_call {A : OC → Prop} {AL : List SV → Prop} (cal : C8.Cal X.prog X.w X.K X.mg X.base k x (Pr X.K R) dvs) (hr : Room j X.A) (hk : k ≤ j) (ha : EvA C X ow en (e :: es) AL) (hd : ∀ B, RpSL X.K B dd dvs)
    (h : ∀ ss, AL ss → ∃ owA post, owA.Sublist ow ∧ R owA (ss ++ dd) post ∧ ∀ s ow', post s ow' → ∃ p oc, s = .ptr p ∧ ow' = (p, oc) :: owA ∧ A oc) (hg : Gl X x := by rfl)
    (hdb : (x == ("__debug__" : Str)) = false := by decide) (he : starEach (e :: es) X.env = (false, eval e X.env) :: starEach es X.env := by rfl) (hpl : (backTo pos (starEach es X.env)).any (·.1) = false := by rfl) :
    EvN C X ow en (.Call (.Name x p0) (e :: es) [] pos) A :=
  ⟨fun B σ H S Q q => ⟨_, C8.pe_c cal hr hk hg pa_wa hdb he hpl, ha.run B σ H S _ fun vs ss B' H' ps n rs => by
    obtain ⟨owA, post, sb, hR, hp⟩ := h ss ps
    refine ⟨B', owA, ss ++ dd, post, n.sta.sub, n.sta.nd.sublist (sb.map _), fun q hq => ⟨(n.sta.own q (sb.subset hq)).1, (n.sta.own q (sb.subset hq)).2.2⟩, rs.append (hd B'), hR, ⟨fun v s ow' B2 H2 pp keep alive exB new sub own nd rv => ?_⟩⟩
    obtain ⟨p, oc, e1, e2, pa⟩ := hp s ow' pp
    subst e1 e2
    rw [rs_ptr.mp rv]
    exact q p oc B2 H2 pa (n.trN (calledN n.sta sb keep alive exB new sub own nd))⟩⟩
/-- plain defs: nothing of one's own is handed over -/
abbrev FR (pre : List SV → Prop) (res : List SV → SV → Prop) : Rel := fun ow ss post => ow = [] ∧ pre ss ∧ ∀ s, res ss s → post s []
theorem ep_callF {pre : List SV → Prop} {res : List SV → SV → Prop} {A : List SV → Prop} (cal : C8.Cal X.prog X.w X.K X.mg X.base k x (Pr X.K (FR pre res)) []) (hr : Room j X.A) (hk : k ≤ j) (ha : EvA C X ow en (e :: es) A)
    (h : ∀ ss, A ss → pre ss ∧ ∀ s, res ss s → P s) (hg : Gl X x := by rfl)
    (hdb : (x == ("__debug__" : Str)) = false := by decide) (he : starEach (e :: es) X.env = (false, eval e X.env) :: starEach es X.env := by rfl) (hpl : (backTo pos (starEach es X.env)).any (·.1) = false := by rfl) :
    EvP C X ow en (.Call (.Name x p0) (e :: es) [] pos) P :=
  ep_call (dd := []) cal hr hk ha (fun _ => RpSL.nil) (fun ss q => ⟨[], fun s ow' => ow' = [] ∧ res ss s, List.nil_sublist _, ⟨rfl, by rw [List.append_nil]; exact (h ss q).1, fun s z => ⟨rfl, by rw [List.append_nil] at z; exact z⟩⟩, fun s ow' z => ⟨z.1, (h ss q).2 s z.2⟩⟩) hg hdb he hpl
theorem ep_propF {pre : List SV → Prop} {res : List SV → SV → Prop} {ks : List Str} {so : SV} (c : Prp X.prog X.w X.K X.mg X.base k Cc f (Pr X.K (FR pre res))) (hr : Room j X.A) (hk : k + 1 ≤ j) (ho : EvD C X ow en o so) (hi : InsOf ow so Cc ks ss)
    (h : pre [so] ∧ ∀ s, res [so] s → P s) (hb : attributeBase o f X.env (eval o X.env) = eval o X.env := by rfl) : EvP C X ow en (.Attribute o f pos) P :=
  ep_prop c hr hk ho hi ⟨[], fun s ow' => ow' = [] ∧ res [so] s, List.nil_sublist _, ⟨rfl, h.1, fun s z => ⟨rfl, z⟩⟩, fun s ow' z => ⟨z.1, h.2 s z.2⟩⟩ hb
/-! ### targets -/
theorem tgm_name (i : Nat) (h : Kk ow (en.set i s)) (hN : X.N.Nodup) (hi : X.N[i]? = some x := by rfl) (hx : Loc X.env.scope x := by first | exact Or.inl rfl | exact Or.inr rfl) (hf : X.fn x = true ∨ X.env.scope.names.lookup x = some .local := by first | exact .inl rfl | exact .inr rfl) :
    TgM C X ow en (.Name x pos) s Kk := ⟨fun B σ H v S r Q q => ⟨_, pg_name hN hi hx hf, q _ _ _ _ _ h (S.set i r) (Ex.refl _)⟩⟩
theorem tgsm_nil (h : Kk ow en) : TgsM C X ow en [] [] Kk := ⟨fun B σ H vs S r Q q => ⟨_, pgs_nil, r, q _ _ _ _ _ h S (Ex.refl _)⟩⟩
theorem tgsm_cons (h : TgM C X ow en e s (fun ow' en' => TgsM C X ow' en' es ss Kk)) (hs : (assignEach (e :: es) X.env).map (·.2) = assign e X.env :: (assignEach es X.env).map (·.2) := by rfl) : TgsM C X ow en (e :: es) (s :: ss) Kk :=
  ⟨fun B σ H vs S ⟨y, ys, e1, r, rs⟩ Q q => ⟨_, pgs_cons pg_wg pgs_wgs hs, y, ys, e1, h.run B σ H y S r _ fun B' σ' H' ow' en' t S' x => t.run B' σ' H' ys S' (rs.mono x) Q fun B2 σ2 H2 ow2 en2 k2 S2 x2 => q _ _ _ _ _ k2 S2 (x.trans x2)⟩⟩
theorem tgm_tup {k : Nat} (ht : TupOf ow s ss) (h : TgsM C X ow en es ss Kk) (hc : X.calm = true) (hn : (assignEach es X.env).length = ss.length := by rfl) (hst : (assignEach es X.env).findIdx? (·.1) = none := by rfl) : TgM C X ow en (.Tuple es k pos) s Kk :=
  ⟨fun B σ H v S r Q q => by
    obtain ⟨a, xs, e1, hx, l⟩ := ht.at S r
    exact ⟨_, pg_tup hc pgs_wgs rfl hst, a, xs, e1, hx, by rw [hn, l.length], h.run B σ H xs S l Q q⟩⟩
/-- o.f = v, of one's own -/
def ksP (f : Str) : List Str → List Str
  | [] => [f]
  | g :: r => if g = f then g :: r else g :: ksP f r
def ssP {α : Type} (f : Str) (y : α) : List Str → List α → List α
  | g :: r, x :: xs => if g = f then y :: xs else x :: ssP f y r xs
  | _, _ => [y]
theorem putF_zip {f : Str} {y : V} : ∀ {ks : List Str} {xs : List V}, ks.length = xs.length → putF f y (ks.zip xs) = (ksP f ks).zip (ssP f y ks xs) ∧ (ksP f ks).length = (ssP f y ks xs).length
  | [], [], _ => ⟨rfl, rfl⟩
  | g :: r, x :: xs, h => by
    have hl : r.length = xs.length := by simpa using h
    obtain ⟨h1, h2⟩ := putF_zip (f := f) (y := y) hl
    rw [List.zip_cons_cons]
    unfold putF ksP ssP
    by_cases e : g = f
    · rw [if_pos e, if_pos e, if_pos e]
      exact ⟨rfl, by simp [hl]⟩
    · rw [if_neg e, if_neg e, if_neg e, h1]
      exact ⟨rfl, by simp [h2]⟩
  | [], _ :: _, h => by simp at h
  | _ :: _, [], h => by simp at h
theorem ssP_rp {K : Fg} {B : Hp} {f : Str} {s : SV} {v : V} (r : RpS K B s v) : ∀ {ks : List Str} {ss : List SV} {xs : List V}, RpSL K B ss xs → RpSL K B (ssP f s ks ss) (ssP f v ks xs)
  | [], _, _, _ => by
    show RpSL K B [s] [v]
    exact RpSL.cons r RpSL.nil
  | g :: ks, [], _, h => by
    rw [show _ = [] from h]
    exact RpSL.cons r RpSL.nil
  | g :: ks, t :: ss, _, ⟨y, ys, e1, r1, r2⟩ => by
    subst e1
    unfold ssP
    by_cases e : g = f
    · rw [if_pos e, if_pos e]
      exact RpSL.cons r r2
    · rw [if_neg e, if_neg e]
      exact RpSL.cons r1 (ssP_rp r r2)
theorem Sta.fput {K : Fg} {B H : Hp} {σ : L2.St} {p dx : Addr} {ks : List Str} {v : V} (S : Sta C K B ow en σ H) (h : Put p (.ins Cc dx ks ss) (.ins Cc dx (ksP f ks) (ssP f s ks ss)) ow ow') (r : RpS K B s v) (hl : ks.length < 1000) :
    ∃ fs, H p = some (.ins Cc dx fs) ∧ fs.length < 1000 ∧ Sta C K B ow' en σ (upd H p (.ins Cc dx (putF f v fs))) := by
  obtain ⟨_, _, xs, e, l, rs⟩ := S.own _ h.mem
  obtain ⟨h1, h2⟩ := putF_zip (f := f) (y := v) l
  refine ⟨_, e, by rw [List.length_zip]; omega, S.write h ⟨ssP f v ks xs, ?_, h2, ssP_rp r rs⟩⟩
  rw [upd_same, h1]
theorem pg_fld {ta : TE} (ho : PE X o ta) (ha : ∀ v, assign (.Attribute o f pos) X.env v = (do
      let ov ← holding [v] (eval o X.env)
      standAt pos.atName
      holding [v, ov] (setAttr ov f v)
      release [v, ov] []) := by intro _; rfl) : PG X (.Attribute o f pos) (fun v σ H Q => ta σ H fun x H1 => ∃ a C dx fs, x = .ref a ∧ H1 a = some (.ins C dx fs) ∧ Cls X.K C ∧ NoAttr X.K C f ∧ fs.length < 1000 ∧ Q σ (upd H1 a (.ins C dx (putF f v fs)))) := by
  refine ⟨fun pins s σ H v u Q I r h => ?_⟩
  rw [ha]
  refine wpAny_bind (wpAny_holding (thn (ho.run pins s σ H _ I h) fun ov s1 ⟨x, H1, I1, r1, a, C, dx, fs, ex, ea, c, n, l, q1⟩ => ?_))
  subst ex
  obtain rfl : ov = Value.ref a := r1
  refine wpAny_bind (wpAny_standAt (wpAny_bind (wpAny_holding (setattr_ok I1 ea c n l r fun s3 I3 => ?_))))
  exact wpAny_release ⟨σ, _, I3, q1⟩
theorem tgm_fld {p dx : Addr} {ks : List Str} (ho : EvD C X ow en o (.ptr p)) (cl : Cls X.K Cc) (na : NoAttr X.K Cc f) (hput : Put p (.ins Cc dx ks ss) (.ins Cc dx (ksP f ks) (ssP f s ks ss)) ow ow') (h : Kk ow' en) (hl : ks.length < 1000 := by decide)
    (ha : ∀ v, assign (.Attribute o f pos) X.env v = (do
      let ov ← holding [v] (eval o X.env)
      standAt pos.atName
      holding [v, ov] (setAttr ov f v)
      release [v, ov] []) := by intro _; rfl) : TgM C X ow en (.Attribute o f pos) s Kk :=
  ⟨fun B σ H v S r Q q => ⟨_, pg_fld pe_we ha, ho.run B σ H S _ fun w t B' H' e n rv => by
    subst e
    obtain ⟨fs, e1, e2, S2⟩ := n.sta.fput hput (r.mono n.exB) hl
    exact ⟨p, Cc, dx, fs, rs_ptr.mp rv, e1, cl, na, e2, q _ _ _ _ _ h S2 n.exB⟩⟩⟩
/-- l[i] = v, of one's own -/
theorem tgm_lsub {p : Addr} {i : Int} {n : Nat} (ho : EvD C X ow en o (.ptr p)) (hi : EvD C X ow en b (iv i)) (hn : ixN ss.length i = some n) (hput : Put p (.lst ss) (.lst (ss.set n s)) ow ow') (h : Kk ow' en)
    (ha : ∀ v, assign (.Subscript o b pos) X.env v = (do
      let ov ← holding [v] (eval o X.env)
      let iv ← holding [v, ov] (eval b X.env)
      standAt pos
      holding [v, ov, iv] (setItem ov iv v)
      release [v, ov, iv] []) := by intro _; rfl) : TgM C X ow en (.Subscript o b pos) s Kk :=
  ⟨fun B σ H v S r Q q => ⟨_, pg_sub pe_we pe_we set_list ha, ho.run B σ H S _ fun w t B' H' e n1 rv => hi.run B' σ H' n1.sta _ fun w2 t2 B2 H2 e2 n2 rv2 => by
    subst e e2
    obtain ⟨_, _, xs, hx, l⟩ := n2.sta.own _ hput.mem
    refine ⟨p, xs, i, n, rs_ptr.mp rv, rs_int.mp rv2, hx, by rw [← l.length]; exact hn, ?_⟩
    exact q _ _ _ _ _ h (n2.sta.write hput ⟨_, upd_same, l.set ((r.mono n1.exB).mono n2.exB) n⟩) (n1.exB.trans n2.exB)⟩⟩
/-- target = e -/
theorem sd_asg (he : EvM C X ow en e (fun s ow' => TgM C X ow' en tg s (fun ow'' en' => SD C X ow'' en' rest D))) (hs : swapsWithSole [tg] e pos.line X.env = pure false := by rfl) (hw : swappedStores [tg] e X.env = pure none := by rfl)
    (h1 : (assignEach [tg] X.env).map (·.2) = [assign tg X.env] := by rfl) : SD C X ow en (.Assign [tg] e pos :: rest) D :=
  sd_seq (ps_asg pe_we pg_wg hs hw h1) fun B σ H S => he.run B σ H S _ fun v s ow' B' H' t S' r => t.run B' σ H' v S' r _ fun B2 σ2 H2 ow2 en2 k2 S2 _ => k2.run B2 σ2 H2 S2
/-- x = e, what is owned may change -/
theorem sd_setM (i : Nat) (he : EvM C X ow en e (fun s ow' => SD C X ow' (en.set i s) rest D)) (hN : X.N.Nodup) (hi : X.N[i]? = some x := by rfl) (hx : Loc X.env.scope x := by first | exact Or.inl rfl | exact Or.inr rfl)
    (hs : swapsWith e (some (.Name x pos')) pos.line X.env = pure false := by rfl) (hf : X.fn x = true ∨ X.env.scope.names.lookup x = some .local := by first | exact .inl rfl | exact .inr rfl) : SD C X ow en (.Assign [.Name x pos'] e pos :: rest) D :=
  sd_seq (ps_set hN hi hx pe_we hs hf) fun B σ H S => he.run B σ H S _ fun v s ow' B' H' p S' r => p.run B' _ H' (S'.set i r)
theorem sd_exprM (he : EvM C X ow en e (fun s ow' => SD C X ow' en rest D)) (hs : swapsWith e none pos.line X.env = pure false := by rfl) : SD C X ow en (.Expr e pos :: rest) D :=
  sd_seq (ps_expr pe_we hs) fun B σ H S => he.run B σ H S _ fun v s ow' B' H' p S' r => p.run B' σ H' S'
theorem sd_retM {post : SV → Ow → Prop} (F : Fin C X.K post D) (he : EvM C X ow en e (fun s ow' => ∃ ow'', ow''.Sublist ow' ∧ post s ow'')) : SD C X ow en (.Return (some e) pos :: rest) D :=
  sd_seq (ps_ret pe_we) fun B σ H S => he.run B σ H S _ fun v s ow' B' H' ⟨ow'', sb, p⟩ S' r => F.rt v s ow'' en σ B' H' p (S'.drop sb) r
/-- x, y = a, b -/
theorem sd_par {kt k2 pt2} {px py pt : Pos} (i j : Nat) (he : EvAw C X ow en [a, b] (fun ow' ss => ∃ s t, ss = [s, t] ∧ SD C X ow' ((en.set i s).set j t) rest D)) (hc : X.calm = true) (hN : X.N.Nodup) (hij : i ≠ j) (hi : X.N[i]? = some x := by rfl) (hj : X.N[j]? = some y := by rfl)
    (hx : X.env.scope.names.lookup x = some .local := by rfl) (hy : X.env.scope.names.lookup y = some .local := by rfl)
    (hw : swappedStores [.Tuple [.Name x px, .Name y py] kt pt] (.Tuple [a, b] k2 pt2) X.env = pure (some [x, y]) := by rfl)
    (hs : swapsWithSole [.Tuple [.Name x px, .Name y py] kt pt] (.Tuple [a, b] k2 pt2) pos.line X.env = pure false := by rfl) :
    SD C X ow en (.Assign [.Tuple [.Name x px, .Name y py] kt pt] (.Tuple [a, b] k2 pt2) pos :: rest) D :=
  sd_seq (ps_par hc hN hi hj hij hx hy pa_wa hw hs) fun B σ H S => he.run B σ H S _ fun vs ss ow' B' H' ⟨s, t, e1, q⟩ n rs => by
    subst e1
    obtain ⟨v, vs1, e2, r1, w, vs2, e3, r2, e4⟩ := rs
    subst e2 e3
    have e4 : vs2 = [] := e4
    subst e4
    exact ⟨v, w, rfl, q.run B' _ H' ((n.sta.set i r1).set j r2)⟩
/-! ### freezing: an object of one's own becomes data -/
/-- a slot behind it -/
def FrS (p : Addr) (d : Sd.D) (s s' : SV) : Prop := s' = s ∨ (s = .ptr p ∧ s' = .val d)
inductive FrL (p : Addr) (d : Sd.D) : List SV → List SV → Prop where
  | nil : FrL p d [] []
  | cons {s s' : SV} {r r' : List SV} (h : FrS p d s s') (t : FrL p d r r') : FrL p d (s :: r) (s' :: r')
theorem FrL.same {p : Addr} {d : Sd.D} : ∀ {l : List SV}, FrL p d l l
  | [] => .nil
  | _ :: _ => .cons (.inl rfl) FrL.same
theorem FrL.len {p : Addr} {d : Sd.D} {l l' : List SV} (h : FrL p d l l') : l'.length = l.length := by
  induction h with
  | nil => rfl
  | cons _ _ ih => simp [ih]
theorem FrL.get {p : Addr} {d : Sd.D} {l l' : List SV} (h : FrL p d l l') : ∀ {i : Nat} {s' : SV}, l'[i]? = some s' → ∃ s, l[i]? = some s ∧ FrS p d s s' := by
  induction h with
  | nil => intro i s' e; simp at e
  | cons h t ih =>
    intro i s' e
    cases i with
    | zero => simp only [List.getElem?_cons_zero, Option.some.injEq] at e ⊢; subst e; exact ⟨_, rfl, h⟩
    | succ i => simp only [List.getElem?_cons_succ] at e ⊢; exact ih e
theorem FrS.rp {K : Fg} {B B' : Hp} {p : Addr} {d : Sd.D} {s s' : SV} {v : V} (h : FrS p d s s') (x : Ex B B') (hd : Rp K B' d (.ref p)) (r : RpS K B s v) : RpS K B' s' v := by
  rcases h with rfl | ⟨rfl, rfl⟩
  · exact r.mono x
  · rw [rs_ptr.mp r]
    exact hd
theorem FrL.rp {K : Fg} {B B' : Hp} {p : Addr} {d : Sd.D} {l l' : List SV} {vs : List V} (h : FrL p d l l') (x : Ex B B') (hd : Rp K B' d (.ref p)) (r : RpSL K B l vs) : RpSL K B' l' vs :=
  RpSL.of_get (by rw [h.len]; exact r.length) fun i s v e1 e2 => by
    obtain ⟨s0, h0, f⟩ := h.get e1
    obtain ⟨w, h1, r1⟩ := r.get h0
    rw [e2] at h1
    cases h1
    exact f.rp x hd r1
inductive FrO (p : Addr) (d : Sd.D) : OC → OC → Prop where
  | same {o : OC} : FrO p d o o
  | ins {C dx : Addr} {ks : List Str} {xs ys : List SV} (h : FrL p d xs ys) : FrO p d (.ins C dx ks xs) (.ins C dx ks ys)
  | dK {ks : List Key} {xs ys : List SV} (h : FrL p d xs ys) : FrO p d (.dK ks xs) (.dK ks ys)
inductive FrW (p : Addr) (d : Sd.D) : Ow → Ow → Prop where
  | nil : FrW p d [] []
  | cons {q : Addr} {o o' : OC} {r r' : Ow} (h : FrO p d o o') (t : FrW p d r r') : FrW p d ((q, o) :: r) ((q, o') :: r')
theorem FrW.same {p : Addr} {d : Sd.D} : ∀ {l : Ow}, FrW p d l l
  | [] => .nil
  | (_, _) :: _ => .cons .same FrW.same
theorem FrO.ok {K : Fg} {B B' H : Hp} {p q : Addr} {d : Sd.D} {o o' : OC} (h : FrO p d o o') (x : Ex B B') (hd : Rp K B' d (.ref p)) (ok : OCok K B H q o) : OCok K B' H q o' := by
  cases h with
  | same => exact ok.mono x fun _ z => z
  | ins h =>
    obtain ⟨xs, e, l, r⟩ := ok
    exact ⟨xs, e, l, h.rp x hd r⟩
  | dK h =>
    obtain ⟨xs, e, l, r⟩ := ok
    exact ⟨xs, e, l, h.rp x hd r⟩
theorem FrW.get {p : Addr} {d : Sd.D} {l l' : Ow} (h : FrW p d l l') : l'.map (·.1) = l.map (·.1) ∧ ∀ q ∈ l', ∃ o, (q.1, o) ∈ l ∧ FrO p d o q.2 := by
  induction h with
  | nil => exact ⟨rfl, fun q hq => by cases hq⟩
  | cons h t ih =>
    refine ⟨by simp [ih.1], fun q hq => ?_⟩
    rcases List.mem_cons.mp hq with e | hq
    · subst e
      exact ⟨_, List.mem_cons_self, h⟩
    · obtain ⟨o, ho, f⟩ := ih.2 q hq
      exact ⟨o, List.mem_cons_of_mem _ ho, f⟩
/-- p taken out of what is owned -/
inductive Out (p : Addr) (oc : OC) : Ow → Ow → Prop where
  | here {r : Ow} : Out p oc ((p, oc) :: r) r
  | there {q : Addr × OC} {r r' : Ow} (h : Out p oc r r') : Out p oc (q :: r) (q :: r')
theorem Out.perm {p : Addr} {oc : OC} {r r' : Ow} (h : Out p oc r r') : r.Perm ((p, oc) :: r') := by
  induction h with
  | here => exact .refl _
  | there h ih => exact (ih.cons _).trans (List.Perm.swap _ _ _)
theorem Sta.perm {K : Fg} {B H : Hp} {σ : L2.St} (S : Sta C K B ow en σ H) (h : ow.Perm ow') : Sta C K B ow' en σ H :=
  ⟨S.keep, S.alive, S.exB, S.new, S.sub, fun q hq => S.own q (h.mem_iff.mpr hq), (h.map _).nodup_iff.mp S.nd, S.len, S.slot, S.pin⟩
theorem Sta.freeze {K : Fg} {B H : Hp} {σ : L2.St} {p : Addr} {oc : OC} {d : Sd.D} {ow2 : Ow} (S : Sta C K B ow en σ H) (ho : Out p oc ow ow1) (hs : ShOf oc d) (hM : ∀ a ∈ C.M, a ∈ ow1.map (·.1)) (hw : FrW p d ow1 ow2) (hl : FrL p d en en') : ∃ B', Ex B B' ∧ Sta C K B' ow2 en' σ H := by
  have S1 := S.perm ho.perm
  obtain ⟨b1, b2, ok⟩ := S1.own _ List.mem_cons_self
  have nd := S1.nd
  rw [List.map_cons, List.nodup_cons] at nd
  have h0 : C.H0 p = none := by
    rcases b2 with b2 | b2
    · exact absurd (hM _ b2) nd.1
    · exact b2
  obtain ⟨o, hp, rp⟩ := hs.rp ok
  obtain ⟨eB, S2⟩ := S1.give h0 hp
  have hd := rp _ eB upd_same
  refine ⟨_, eB, S2.keep, S2.alive, S2.exB, S2.new, S2.sub, fun q hq => ?_, by rw [hw.get.1]; exact S2.nd, by rw [hl.len]; exact S2.len, fun i s' e1 e2 => ?_, S2.pin⟩
  · obtain ⟨o', ho', f⟩ := hw.get.2 q hq
    obtain ⟨c1, c2, c3⟩ := S2.own _ ho'
    exact ⟨c1, c2, f.ok (Ex.refl _) hd c3⟩
  · obtain ⟨s0, h0, f⟩ := hl.get e1
    have ne : s0 ≠ .un := fun z => by
      subst z
      rcases f with f | ⟨f, _⟩
      · exact e2 f
      · cases f
    obtain ⟨v, ev, r⟩ := S2.slot i s0 h0 ne
    exact ⟨v, ev, f.rp (Ex.refl _) hd r⟩
theorem sd_freeze {p : Addr} {oc : OC} {d : Sd.D} {ow2 : Ow} (ho : Out p oc ow ow1) (hs : ShOf oc d) (hM : ∀ a ∈ C.M, a ∈ ow1.map (·.1)) (hw : FrW p d ow1 ow2) (hl : FrL p d en en') (k : SD C X ow2 en' rest D) : SD C X ow en rest D := ⟨fun B σ H S => by
  obtain ⟨B', _, S'⟩ := S.freeze ho hs hM hw hl
  exact k.run B' σ H S'⟩
/-- what is known of an object told otherwise -/
theorem sd_conv {p : Addr} {a b : OC} (h : Put p a b ow ow') (hc : ∀ K B H, OCok K B H p a → OCok K B H p b) (k : SD C X ow' en rest D) : SD C X ow en rest D := ⟨fun B σ H S => k.run B σ H
  ⟨S.keep, S.alive, S.exB, S.new, S.sub, fun q hq => by
    rcases h.out S.nd q hq with e | ⟨h1, _⟩
    · subst e
      obtain ⟨c1, c2, c3⟩ := S.own _ h.mem
      exact ⟨c1, c2, hc _ _ _ c3⟩
    · exact S.own q h1, by rw [h.keys]; exact S.nd, S.len, S.slot, S.pin⟩⟩
/-- an object told by a predicate, opened -/
theorem sd_open {p : Addr} {φ : HO → Prop} (hm : (p, .abs φ) ∈ ow) (k : ∀ o, φ o → ∃ b ow', Put p (.abs φ) b ow ow' ∧ (∀ K B H, H p = some o → OCok K B H p b) ∧ SD C X ow' en rest D) : SD C X ow en rest D := ⟨fun B σ H S => by
  obtain ⟨_, _, o, ho, pho⟩ := S.own _ hm
  obtain ⟨b, ow', hput, hok, hk⟩ := k o pho
  refine hk.run B σ H ⟨S.keep, S.alive, S.exB, S.new, S.sub, fun q hq => ?_, by rw [hput.keys]; exact S.nd, S.len, S.slot, S.pin⟩
  rcases hput.out S.nd q hq with e | ⟨h1, _⟩
  · subst e
    obtain ⟨c1, c2, _⟩ := S.own _ hput.mem
    exact ⟨c1, c2, hok _ _ _ ho⟩
  · exact S.own q h1⟩
end
end Sd

/-! text Sd9 -/
set_option Elab.async false
set_option linter.all false
set_option maxRecDepth 100000
set_option maxHeartbeats 2000000
/-! Sd9: subscripts, slices, built-ins, methods of lists. -/
namespace Sd
open PySem PySem.Spec PyProof.Rows L2
theorem RpSL.atI {K : Fg} {B : Hp} {ss : List SV} {vs : List V} {i : Int} {s : SV} (h : RpSL K B ss vs) (e : atI ss i = some s) : ∃ v, L2.atI vs i = some v ∧ RpS K B s v := by
  unfold L2.atI at e ⊢
  rw [← h.length]
  cases q : ixN ss.length i with
  | none => rw [q] at e; cases e
  | some j =>
    rw [q] at e
    exact h.get e
/-- the items of a slice -/
def cutS {α : Type} (xs : List α) (lo hi : Option Int) : List α := (xs.drop (HT.sIx xs.length 0 lo)).take (HT.sIx xs.length xs.length hi - HT.sIx xs.length 0 lo)
theorem cutS_map {α β : Type} (f : α → β) (xs : List α) (lo hi : Option Int) : cutS (xs.map f) lo hi = (cutS xs lo hi).map f := by
  unfold cutS
  rw [List.length_map, List.map_take, List.map_drop]
theorem cutS_len {α : Type} (xs : List α) (lo hi : Option Int) : (cutS xs lo hi).length ≤ xs.length := by
  unfold cutS
  rw [List.length_take, List.length_drop]
  omega
theorem sIx_nat (n d : Nat) (i : Nat) (h : i ≤ n) : HT.sIx n d (some (i : Int)) = i := by
  unfold HT.sIx
  simp only [Option.getD_some]
  first
    | omega
    | (split <;> omega)
theorem cutS_to {α : Type} (xs : List α) (i : Nat) (h : i ≤ xs.length) : cutS xs none (some (i : Int)) = xs.take i := by
  unfold cutS
  rw [sIx_nat _ _ _ h, show HT.sIx xs.length 0 none = 0 from rfl, List.drop_zero, Nat.sub_zero]
theorem cutS_from {α : Type} (xs : List α) (i : Nat) (h : i ≤ xs.length) : cutS xs (some (i : Int)) none = xs.drop i := by
  unfold cutS
  rw [sIx_nat _ _ _ h, show HT.sIx xs.length xs.length none = xs.length from rfl]
  exact List.take_of_length_le (by rw [List.length_drop]; omega)
theorem cutS_mid {α : Type} (xs : List α) (i j : Nat) (hi : i ≤ xs.length) (h : j ≤ xs.length) : cutS xs (some (i : Int)) (some (j : Int)) = (xs.drop i).take (j - i) := by
  unfold cutS
  rw [sIx_nat _ _ _ hi, sIx_nat _ _ _ h]
theorem RpSL.cut {K : Fg} {B : Hp} {ss : List SV} {vs : List V} (h : RpSL K B ss vs) (lo hi : Option Int) : RpSL K B (cutS ss lo hi) (cutV vs lo hi) := by
  unfold cutS cutV
  rw [← h.length]
  exact (h.drop _).take _
section
variable {C : FC} {X : Cx} {ow ow' ow1 owA : Ow} {en en' : En} {a b c e o tg iter : Expr} {es tgs : List Expr} {pos pos' p0 p2 apos : Pos} {P P' Pa Pb Pc : SV → Prop} {x y m f : Str} {rest body : List Stmt} {D : Ends} {st : Stmt} {s t : SV} {ss : List SV} {i : Int} {Q' : SV → Ow → Prop}
/-! ### a[b] -/
theorem ep_ixT (ha : EvP C X ow en a Pa) (hb : EvP C X ow en b Pb) (h : ∀ x y, Pa x → Pb y → ∃ xs i s, TupOf ow x xs ∧ y = iv i ∧ atI xs i = some s ∧ P s) (hs : PlainIx b := by intro _ _; rfl) : EvP C X ow en (.Subscript a b pos) P :=
  ⟨fun B σ H S Q q => ⟨_, pe_ix ix_tup pe_we pe_we hs, ev_bin ha hb S fun v u x y B' H' px py n r1 r2 => by
    obtain ⟨xs, i, s, ht, ey, hi, ps⟩ := h x y px py
    obtain ⟨p, vs, e1, hq, l⟩ := ht.at n.sta r1
    subst ey
    obtain ⟨w, hw, rw'⟩ := l.atI hi
    exact ⟨p, vs, i, w, e1, rs_int.mp r2, hq, hw, q w s B' H' ps n rw'⟩⟩⟩
theorem ep_ixL (ha : EvP C X ow en a Pa) (hb : EvP C X ow en b Pb) (h : ∀ x y, Pa x → Pb y → ∃ xs i s, LstOf ow x xs ∧ y = iv i ∧ atI xs i = some s ∧ P s) (hs : PlainIx b := by intro _ _; rfl) : EvP C X ow en (.Subscript a b pos) P :=
  ⟨fun B σ H S Q q => ⟨_, pe_ix ix_list pe_we pe_we hs, ev_bin ha hb S fun v u x y B' H' px py n r1 r2 => by
    obtain ⟨xs, i, s, ht, ey, hi, ps⟩ := h x y px py
    obtain ⟨p, vs, e1, hq, l⟩ := ht.at n.sta r1
    subst ey
    obtain ⟨w, hw, rw'⟩ := l.atI hi
    exact ⟨p, vs, i, w, e1, rs_int.mp r2, hq, hw, q w s B' H' ps n rw'⟩⟩⟩
theorem ed_ixT (ha : EvD C X ow en a t) (hb : EvD C X ow en b (iv i)) (ht : TupOf ow t ss) (hi : atI ss i = some s) (hs : PlainIx b := by intro _ _; rfl) : EvD C X ow en (.Subscript a b pos) s :=
  ep_ixT ha hb (fun _ _ e1 e2 => ⟨ss, i, s, e1 ▸ ht, e2, hi, rfl⟩) hs
theorem ed_ixL (ha : EvD C X ow en a t) (hb : EvD C X ow en b (iv i)) (ht : LstOf ow t ss) (hi : atI ss i = some s) (hs : PlainIx b := by intro _ _; rfl) : EvD C X ow en (.Subscript a b pos) s :=
  ep_ixL ha hb (fun _ _ e1 e2 => ⟨ss, i, s, e1 ▸ ht, e2, hi, rfl⟩) hs
theorem ep_ixS {z : Str} (ha : EvD C X ow en a (sv z)) (hb : EvP C X ow en b Pb) (hz : z.length ≤ sizeLine) (h : ∀ y, Pb y → ∃ i c, y = iv i ∧ atI z.cps.toList i = some c ∧ P (sv ⟨#[c]⟩)) (hs : PlainIx b := by intro _ _; rfl) : EvP C X ow en (.Subscript a b pos) P :=
  ⟨fun B σ H S Q q => ⟨_, pe_ix ix_str pe_we pe_we hs, ev_bin ha hb S fun v u x y B' H' px py n r1 r2 => by
    subst px
    obtain ⟨i, c, ey, hi, ps⟩ := h y py
    subst ey
    exact ⟨z, i, c, rs_str.mp r1, rs_int.mp r2, hz, hi, q _ _ B' H' ps n (rs_str.mpr rfl)⟩⟩⟩
/-! ### a[lo:hi] -/
/-- a part of a slice -/
structure EvO (C : FC) (X : Cx) (ow : Ow) (en : En) (e : Option Expr) (i : Option Int) : Prop where
  run : ∀ B σ H, Sta C X.K B ow en σ H → ∀ Q : Option Int → Hp → Prop, (∀ B' H', Nxt C X.K ow en σ B H B' H' → Q i H') → ∃ t, PO X e t ∧ t σ H Q
theorem eo_none : EvO C X ow en none none := ⟨fun B σ H S Q q => ⟨_, po_none, q B H (Nxt.refl S)⟩⟩
theorem eo_some (h : EvD C X ow en e (iv i)) : EvO C X ow en (some e) (some i) := ⟨fun B σ H S Q q => ⟨_, po_some pe_we, h.run B σ H S _ fun v s B' H' p n r => ⟨i, by subst p; exact rs_int.mp r, q B' H' n⟩⟩⟩
def WO (X : Cx) (e : Option Expr) : L2.TO := fun σ H Q => ∃ t, PO X e t ∧ t σ H Q
theorem po_wo {e : Option Expr} : PO X e (WO X e) := ⟨fun pins s σ H Q I h => by
  obtain ⟨t, ht, q⟩ := h
  exact ht.run pins s σ H Q I q⟩
theorem en_slL {lo hi : Option Expr} {l h : Option Int} (ha : EvD C X ow en a t) (hl : EvO C X ow en lo l) (hh : EvO C X ow en hi h) (ht : LstOf ow t ss) : EvN C X ow en (.Subscript a (.Slice lo hi none p2) pos) (· = .lst (cutS ss l h)) :=
  ⟨fun B σ H S Q q => ⟨_, pe_slice sl_list pe_we po_wo po_wo, ha.run B σ H S _ fun v s B1 H1 p n1 r => hl.run B1 σ H1 n1.sta _ fun B2 H2 n2 => hh.run B2 σ H2 n2.sta _ fun B3 H3 n3 => by
    subst p
    obtain ⟨p, vs, e1, hq, rl⟩ := ht.at n3.sta ((r.mono n2.exB).mono n3.exB)
    exact ⟨p, vs, e1, hq, fun l hl => q l _ _ _ rfl (((n1.trans n2).trans n3).trN (NxN.hold n3.sta hl ⟨_, upd_same, rl.cut _ _⟩))⟩⟩⟩
theorem ed_slT {lo hi : Option Expr} {lq hq' : Option Int} {ds : List Sd.D} (ha : EvD C X ow en a (.val (.tup ds))) (hl : EvO C X ow en lo lq) (hh : EvO C X ow en hi hq') : EvD C X ow en (.Subscript a (.Slice lo hi none p2) pos) (.val (.tup (cutS ds lq hq'))) :=
  ⟨fun B σ H S Q q => ⟨_, pe_slice sl_tupA pe_we po_wo po_wo, ha.run B σ H S _ fun v s B1 H1 p n1 r => hl.run B1 σ H1 n1.sta _ fun B2 H2 n2 => hh.run B2 σ H2 n2.sta _ fun B3 H3 n3 => by
    subst p
    have r3 := (r.mono n2.exB).mono n3.exB
    obtain ⟨p, vs, e1, hq, rl⟩ := (TupOf.tup ds : TupOf ow _ _).at n3.sta r3
    have rl2 := RpSL.vals.mp rl
    have hlen := rl2.length
    refine ⟨p, vs, e1, hq, fun hw => ?_, fun hw l hl => ?_⟩
    · rw [← hlen] at hw
      have e : cutS ds lq hq' = ds := by
        unfold cutS
        rw [hw.1, hw.2, List.drop_zero, Nat.sub_zero, List.take_length]
      refine q _ _ B3 H3 rfl ((n1.trans n2).trans n3) ?_
      rw [e, ← e1]
      exact r3
    · have g := n3.sta.share (o := .tup (cutV vs lq hq')) hl
      refine q _ _ _ _ rfl (((n1.trans n2).trans n3).trans (Nxt.grow n3.sta g)) ?_
      simp only [RpS, Rp]
      refine ⟨_, _, rfl, SqT.of upd_same, ?_⟩
      have rc := (rl.cut (K := X.K) lq hq').mono g.exB
      rw [cutS_map] at rc
      exact RpSL.vals.mp rc⟩⟩
/-! ### + of tuples, of texts -/
theorem ed_catT {ds es : List Sd.D} (ha : EvD C X ow en a (.val (.tup ds))) (hb : EvD C X ow en b (.val (.tup es))) (hl : ds.length + es.length ≤ sizeLine) : EvD C X ow en (.BinOp a .Add b pos) (.val (.tup (ds ++ es))) :=
  ep_op op_catA ha hb fun _ _ e1 e2 => e1 ▸ e2 ▸ fun B σ H v u S r1 r2 Q q => by
    obtain ⟨p1, vs, e3, hq1, l1⟩ := (TupOf.tup ds : TupOf ow _ _).at S r1
    obtain ⟨p2, us, e4, hq2, l2⟩ := (TupOf.tup es : TupOf ow _ _).at S r2
    have m1 := RpSL.vals.mp l1
    have m2 := RpSL.vals.mp l2
    have n1 := m1.length
    have n2 := m2.length
    refine ⟨p1, p2, vs, us, e3, e4, hq1, hq2, by omega, fun h0 => ?_, fun _ h1 => ?_, fun _ _ p hp => ?_⟩
    · have : ds = [] := List.eq_nil_of_length_eq_zero (by rw [n1, h0]; rfl)
      subst this
      exact q _ _ B H rfl (Nxt.refl S) (e4 ▸ r2)
    · have : es = [] := List.eq_nil_of_length_eq_zero (by rw [n2, h1]; rfl)
      subst this
      refine q _ _ B H rfl (Nxt.refl S) ?_
      rw [List.append_nil, ← e3]
      exact r1
    · have g := S.share (o := .tup (vs ++ us)) hp
      refine q _ _ _ _ rfl (Nxt.grow S g) ?_
      simp only [RpS, Rp]
      exact ⟨_, _, rfl, SqT.of upd_same, (m1.append m2).mono g.exB⟩
theorem ed_addS {z w : Str} (ha : EvD C X ow en a (sv z)) (hb : EvD C X ow en b (sv w)) (hl : z.length + w.length ≤ sizeLine) : EvD C X ow en (.BinOp a .Add b pos) (sv (z ++ w)) :=
  ep_op op_add_str ha hb fun _ _ e1 e2 => e1 ▸ e2 ▸ fun B σ H v u S r1 r2 Q q => ⟨z, w, rs_str.mp r1, rs_str.mp r2, hl, q _ _ B H rfl (Nxt.refl S) (rs_str.mpr rfl)⟩
/-- [..] * n -/
theorem en_rep (ha : EvN C X ow en a (· = .lst ss)) (hb : EvD C X ow en b (iv i)) (hi : 0 ≤ i ∧ i < 2 ^ 62) (hl : ss.length * i.toNat ≤ sizeLine) (hbm : ∀ p oc, EvD C X ((p, oc) :: ow) en b (iv i)) : EvN C X ow en (.BinOp a .Mult b pos) (· = .lst (List.replicate i.toNat ss).flatten) :=
  ⟨fun B σ H S Q q => ⟨_, pe_op op_rep pe_we pe_we, ha.run B σ H S _ fun p oc B1 H1 e1 n1 => by
    subst e1
    refine (hbm p _).run B1 σ H1 n1.sta _ fun u s B2 H2 e2 n2 r2 => ?_
    subst e2
    obtain ⟨_, _, vs, hv, l⟩ := n2.sta.own _ List.mem_cons_self
    have hv : H2 p = some (.lst vs) := hv
    refine ⟨p, i, vs, rfl, rs_int.mp r2, hv, by omega, by omega, by rw [← l.length]; exact hl, fun r hr => ?_⟩
    have N : NxG C X.K ow en σ B H ((p, .lst ss) :: ow) B2 H2 := (NxG.ofN n1).trN n2
    have N2 : NxG C X.K ow en σ B H ((r, .lst (List.replicate i.toNat ss).flatten) :: (p, .lst ss) :: ow) B2 (upd H2 r (.lst (List.replicate i.toNat vs).flatten)) := N.tr (NxG.ofN (NxN.hold n2.sta hr ⟨_, upd_same, repS l _⟩))
    exact q r _ _ _ rfl (N2.toN (List.Sublist.cons_cons _ (List.sublist_cons_self _ _)) (N.nxt.free hr))⟩⟩
where
  repS {K : Fg} {B : Hp} {ss : List SV} {vs : List V} (l : RpSL K B ss vs) : ∀ k : Nat, RpSL K B (List.replicate k ss).flatten (List.replicate k vs).flatten
    | 0 => RpSL.nil
    | k + 1 => by
      rw [List.replicate_succ, List.replicate_succ, List.flatten_cons, List.flatten_cons]
      exact l.append (repS l k)
/-! ### methods of lists of one's own -/
theorem em_append {p : Addr} (ho : EvD C X ow en o (.ptr p)) (ha : EvP C X ow en e Pa) (hm : (p, .lst ss) ∈ ow) (hl : ss.length < sizeLine) (h : ∀ s, Pa s → ∃ ow', Put p (.lst ss) (.lst (ss ++ [s])) ow ow' ∧ Q' nv ow')
    (hbase : attributeBase o "append" X.env (eval o X.env) = eval o X.env := by rfl)
    (hfew : ((backTo pos (starEach (e :: []) X.env)).all (fun x => !x.1) && (backToKw pos (keywordEach [] X.env)).all (fun x => x.1.isSome)
      && decide ((e :: []).length + ([] : List Keyword).length + (if ([] : List Keyword).isEmpty then 0 else 1) < 30)) = true := by rfl)
    (hline : (apos.endLine == pos.line) = true := by rfl) (hs : starEach (e :: []) X.env = (false, eval e X.env) :: starEach [] X.env := by rfl) (hplain : (backTo pos (starEach [] X.env)).any (·.1) = false := by rfl) : EvM C X ow en (.Call (.Attribute o "append" apos) [e] [] pos) Q' :=
  ⟨fun B σ H S Q q => ⟨_, pe_bm PySem.F.plainAttrs_list PySem.F.slot_list_append PySem.F.type_list_append mt_append pe_we (pa_cons (X := X) pe_we pa_nil hs) hbase hfew hline hs hplain, ho.run B σ H S _ fun v s B1 H1 e1 n1 r1 => by
    subst e1
    obtain rfl := rs_ptr.mp r1
    obtain ⟨_, _, vs, hv, _⟩ := n1.sta.own _ hm
    refine ⟨.inl ⟨rfl, vs, SqL.of hv⟩, ha.run B1 σ H1 n1.sta _ fun u s B2 H2 ps n2 r2 => ?_⟩
    obtain ⟨ow', hput, pq⟩ := h s ps
    obtain ⟨_, _, vs2, hv2, l2⟩ := n2.sta.own _ hm
    refine ⟨p, vs2, u, rfl, rfl, hv2, by rw [← l2.length]; exact hl, ?_⟩
    exact q _ _ _ _ _ pq (n2.sta.write hput ⟨_, upd_same, l2.append (RpSL.cons r2 RpSL.nil)⟩) (rs_non.mpr rfl)⟩⟩
theorem em_pop {p : Addr} (ho : EvD C X ow en o (.ptr p)) (hput : Put p (.lst (ss ++ [s])) (.lst ss) ow ow') (h : Q' s ow') (hbase : attributeBase o "pop" X.env (eval o X.env) = eval o X.env := by rfl) (hline : (apos.endLine == pos.line) = true := by rfl) :
    EvM C X ow en (.Call (.Attribute o "pop" apos) [] [] pos) Q' :=
  ⟨fun B σ H S Q q => ⟨_, pe_bm0 PySem.F.plainAttrs_list PySem.F.slot_list_pop PySem.F.type_list_pop mt_pop pe_we hbase hline, ho.run B σ H S _ fun v s1 B1 H1 e1 n1 r1 => by
    subst e1
    obtain rfl := rs_ptr.mp r1
    obtain ⟨_, _, vs, hv, l⟩ := n1.sta.own _ hput.mem
    refine ⟨.inl ⟨rfl, vs, SqL.of hv⟩, ?_⟩
    have hl := l.length
    rw [List.length_append, List.length_singleton] at hl
    obtain ⟨w, hw, r⟩ := l.get (i := vs.length - 1) (s := s) (by rw [← hl]; simp)
    refine ⟨p, vs, w, rfl, rfl, hv, hw, q _ _ _ _ _ h (n1.sta.write hput ⟨_, upd_same, ?_⟩) r⟩
    have e : vs.dropLast = vs.take ss.length := by rw [List.dropLast_eq_take, ← hl]; simp
    have l2 := l.take ss.length
    rw [List.take_left' rfl] at l2
    rw [e]
    exact l2⟩⟩
/-- x += e: lists of one's own (the right one may be new) -/
theorem sd_ext {p r : Addr} {ts : List SV} {pos' : Pos} (i : Nat) (he : en[i]? = some (.ptr p)) (hv : EvM C X ow en e (fun s ow1 => ∃ r ts ow2, s = .ptr r ∧ (r, .lst ts) ∈ ow1 ∧ Put p (.lst ss) (.lst (ss ++ ts)) ow1 ow2 ∧ ss.length + ts.length ≤ sizeLine ∧ SD C X ow2 (en.set i (.ptr p)) rest D))
    (hN : X.N.Nodup) (hi : X.N[i]? = some x := by rfl) (hx : Loc X.env.scope x := by first | exact Or.inl rfl | exact Or.inr rfl) (hf : X.fn x = true ∨ X.env.scope.names.lookup x = some .local := by first | exact .inl rfl | exact .inr rfl) :
    SD C X ow en (.AugAssign (.Name x pos') .Add e pos :: rest) D :=
  sd_seq (ps_aug hN hi hx pe_we iop_ext hf) fun B σ H S => by
    obtain ⟨v, hv1, r1⟩ := S.slot i _ he (fun z => nomatch z)
    obtain rfl := rs_ptr.mp r1
    refine ⟨_, hv1, hv.run B σ H S _ fun u s ow1 B1 H1 ⟨r, ts, ow2, e1, hr, hput, hl, k⟩ S1 r2 => ?_⟩
    subst e1
    obtain rfl := rs_ptr.mp r2
    obtain ⟨_, _, vs, hv2, l2⟩ := S1.own _ hput.mem
    obtain ⟨_, _, us, hu, l3⟩ := S1.own _ hr
    have m2 := l2.length
    have m3 := l3.length
    refine ⟨p, r, vs, us, rfl, rfl, hv2, hu, by omega, ?_⟩
    exact k.run B1 _ _ ((S1.write hput ⟨_, upd_same, l2.append l3⟩).set i rfl)
/-! ### built-ins -/
theorem en_callB {A : List SV → Prop} {A2 : OC → Prop} {id : String} (ha : EvA C X ow en (e :: es) A) (hc : ∀ ss, A ss → ClN C X ow en (.builtin id) ss A2) (hm : X.mg x = none) (hv : bootBuiltins x = some (.builtin id)) (hg : Gl X x := by rfl)
    (hn : x ≠ "__name__" := by decide) (hdb : (x == ("__debug__" : Str)) = false := by decide) (he : starEach (e :: es) X.env = (false, eval e X.env) :: starEach es X.env := by rfl) (hpl : (backTo pos (starEach es X.env)).any (·.1) = false := by rfl) : EvN C X ow en (.Call (.Name x p0) (e :: es) [] pos) A2 :=
  ⟨fun B σ H S Q q => ⟨_, pe_callB (call_some (A := fun _ => True)) hg hm hv pa_wa hn hdb he hpl, ha.run B σ H S _ fun vs ss B' H' ps n rs => by
    obtain ⟨r, hr, h⟩ := (hc ss ps).ex
    exact ⟨r, hr, h B' σ H' vs n.sta rs Q fun p oc B2 H2 pa n2 => q p oc B2 H2 pa (n.trN n2)⟩⟩⟩
theorem en_callTy {A : List SV → Prop} {A2 : OC → Prop} {T : String} (ha : EvA C X ow en (e :: es) A) (hc : ∀ ss, A ss → ClN C X ow en (.type T) ss A2) (hm : X.mg x = none) (hv : bootBuiltins x = some (.type T)) (hg : Gl X x := by rfl)
    (hn : x ≠ "__name__" := by decide) (hdb : (x == ("__debug__" : Str)) = false := by decide) (he : starEach (e :: es) X.env = (false, eval e X.env) :: starEach es X.env := by rfl) (hpl : (backTo pos (starEach es X.env)).any (·.1) = false := by rfl) : EvN C X ow en (.Call (.Name x p0) (e :: es) [] pos) A2 :=
  ⟨fun B σ H S Q q => ⟨_, pe_callTy (call_some (A := fun _ => True)) hg hm hv pa_wa hn hdb he hpl, ha.run B σ H S _ fun vs ss B' H' ps n rs => by
    obtain ⟨r, hr, h⟩ := (hc ss ps).ex
    exact ⟨r, hr, h B' σ H' vs n.sta rs Q fun p oc B2 H2 pa n2 => q p oc B2 H2 pa (n.trN n2)⟩⟩⟩
theorem sl1 {K : Fg} {B : Hp} {s : SV} {vs : List V} (h : RpSL K B [s] vs) : ∃ v, vs = [v] ∧ RpS K B s v := by
  obtain ⟨v, r, e, r1, r2⟩ := h
  rw [show r = [] from r2] at e
  exact ⟨v, e, r1⟩
theorem sl2 {K : Fg} {B : Hp} {s t : SV} {vs : List V} (h : RpSL K B [s, t] vs) : ∃ v w, vs = [v, w] ∧ RpS K B s v ∧ RpS K B t w := by
  obtain ⟨v, r, e, r1, r2⟩ := h
  obtain ⟨w, e2, r3⟩ := sl1 r2
  rw [e2] at e
  exact ⟨v, w, e, r1, r3⟩
theorem cl_len (h : SeqOf ow s ss) : ClD C X ow en (.builtin "len") [s] (· = iv ss.length) := ⟨_, call_len, fun B σ H vs S rs Q q => by
  obtain ⟨v, e, r⟩ := sl1 rs
  obtain ⟨a, xs, e1, hq, l⟩ := h.at S r
  subst e e1
  refine ⟨_, xs.length, rfl, ?_, q _ _ B H rfl (Nxt.refl S) (rs_int.mpr (by rw [l.length]))⟩
  rcases hq with hq | hq
  · exact .inl ⟨xs, hq, rfl⟩
  · exact .inr ⟨xs, hq, rfl⟩⟩
theorem cl_lenS {z : Str} (h : z.length ≤ sizeLine) : ClD C X ow en (.builtin "len") [sv z] (· = iv z.length) := ⟨_, call_len, fun B σ H vs S rs Q q => by
  obtain ⟨v, e, r⟩ := sl1 rs
  rw [rs_str.mp r] at e
  subst e
  exact ⟨_, z.length, rfl, ⟨h, rfl⟩, q _ _ B H rfl (Nxt.refl S) (rs_int.mpr rfl)⟩⟩
theorem cl_sum {ns : List Int} (h : LstOf ow s (ns.map iv)) (hc : X.calm = true) : ClD C X ow en (.builtin "sum") [s] (· = iv ns.sum) := ⟨_, cr_sum hc, fun B σ H vs S rs Q q => by
  obtain ⟨v, e, r⟩ := sl1 rs
  obtain ⟨a, xs, e1, hq, l⟩ := h.at S r
  have e2 := ints_at l
  subst e e1 e2
  exact ⟨a, ns, rfl, hq, q _ _ B H rfl (Nxt.refl S) (rs_int.mpr rfl)⟩⟩
theorem cl_max {ns : List Int} (h : LstOf ow s (ns.map iv)) (hn : 0 < ns.length) (hc : X.calm = true) : ClD C X ow en (.builtin "max") [s] (fun s => ∃ m, s = iv m ∧ m ∈ ns ∧ ∀ y ∈ ns, y ≤ m) := ⟨_, cr_max hc, fun B σ H vs S rs Q q => by
  obtain ⟨v, e, r⟩ := sl1 rs
  obtain ⟨a, xs, e1, hq, l⟩ := h.at S r
  have e2 := ints_at l
  subst e e1 e2
  exact ⟨a, ns, rfl, hq, hn, fun m h1 h2 => q _ _ B H ⟨m, rfl, h1, h2⟩ (Nxt.refl S) (rs_int.mpr rfl)⟩⟩
theorem cl_any {bs : List Bool} (h : LstOf ow s (bs.map bv)) (hc : X.calm = true) : ClD C X ow en (.builtin "any") [s] (· = bv (bs.any id)) := ⟨_, cr_any hc, fun B σ H vs S rs Q q => by
  obtain ⟨v, e, r⟩ := sl1 rs
  obtain ⟨a, xs, e1, hq, l⟩ := h.at S r
  have e2 := bls_at l
  subst e e1 e2
  exact ⟨a, bs, rfl, hq, q _ _ B H rfl (Nxt.refl S) (rs_bl.mpr rfl)⟩⟩
theorem cl_all {bs : List Bool} (h : LstOf ow s (bs.map bv)) (hc : X.calm = true) : ClD C X ow en (.builtin "all") [s] (· = bv (bs.all id)) := ⟨_, cr_all hc, fun B σ H vs S rs Q q => by
  obtain ⟨v, e, r⟩ := sl1 rs
  obtain ⟨a, xs, e1, hq, l⟩ := h.at S r
  have e2 := bls_at l
  subst e e1 e2
  exact ⟨a, bs, rfl, hq, q _ _ B H rfl (Nxt.refl S) (rs_bl.mpr rfl)⟩⟩
theorem cl_max2 {i j : Int} (hc : X.calm = true) : ClD C X ow en (.builtin "max") [iv i, iv j] (· = iv (if j > i then j else i)) := ⟨_, call_max2 hc, fun B σ H vs S rs Q q => by
  obtain ⟨v, w, e, r1, r2⟩ := sl2 rs
  rw [rs_int.mp r1, rs_int.mp r2] at e
  exact ⟨i, j, e, q _ _ B H rfl (Nxt.refl S) (rs_int.mpr rfl)⟩⟩
theorem cl_min2 {i j : Int} (hc : X.calm = true) : ClD C X ow en (.builtin "min") [iv i, iv j] (· = iv (if j < i then j else i)) := ⟨_, call_min2 hc, fun B σ H vs S rs Q q => by
  obtain ⟨v, w, e, r1, r2⟩ := sl2 rs
  rw [rs_int.mp r1, rs_int.mp r2] at e
  exact ⟨i, j, e, q _ _ B H rfl (Nxt.refl S) (rs_int.mpr rfl)⟩⟩
theorem cl_abs {i : Int} : ClD C X ow en (.builtin "abs") [iv i] (· = iv (if i < 0 then -i else i)) := ⟨_, call_abs, fun B σ H vs S rs Q q => by
  obtain ⟨v, e, r1⟩ := sl1 rs
  rw [rs_int.mp r1] at e
  exact ⟨i, e, q _ _ B H rfl (Nxt.refl S) (rs_int.mpr rfl)⟩⟩
/-- sorted(xs), texts -/
theorem cn_sortedS {zs : List Str} (h : LstOf ow s (zs.map sv)) (hl : zs.length < 64) : ClN C X ow en (.builtin "sorted") [s] (fun oc => ∃ ys : List Str, oc = .lst (ys.map sv) ∧ ys.Perm zs ∧ sortedS ys = true) := ⟨_, cr_sortedS, fun B σ H vs S rs Q q => by
  obtain ⟨v, e, r⟩ := sl1 rs
  obtain ⟨a, xs, e1, hq, l⟩ := h.at S r
  have e2 := strs_at l
  subst e e1 e2
  exact ⟨a, zs, rfl, hq, hl, fun ys p h1 h2 hp => q p _ _ _ ⟨ys, rfl, h1, h2⟩ (NxN.hold S hp ⟨_, upd_same, vals_strs ys⟩)⟩⟩
where
  vals_strs {K : Fg} {B : Hp} : ∀ ys : List Str, RpSL K B (ys.map sv) (ys.map V.str)
    | [] => RpSL.nil
    | _ :: ys => RpSL.cons (rs_str.mpr rfl) (vals_strs ys)
/-- tuple(xs), of a list of data -/
theorem cl_tuple {ds : List Sd.D} (h : LstOf ow s (ds.map SV.val)) : ClD C X ow en (.type "tuple") [s] (· = .val (.tup ds)) := ⟨_, call_tuple_of, fun B σ H vs S rs Q q => by
  obtain ⟨v, e, r⟩ := sl1 rs
  obtain ⟨a, xs, e1, hq, l⟩ := h.at S r
  subst e e1
  refine ⟨a, xs, rfl, .inl ⟨hq, fun p hp => ?_⟩⟩
  have g := S.share (o := .tup xs) hp
  refine q _ _ _ _ rfl (Nxt.grow S g) ?_
  simp only [RpS, Rp]
  exact ⟨p, xs, rfl, SqT.of upd_same, (RpSL.vals.mp l).mono g.exB⟩⟩
/-- list(xs), of a list or tuple -/
theorem cn_list (h : SeqOf ow s ss) : ClN C X ow en (.type "list") [s] (· = .lst ss) := ⟨_, call_list_of, fun B σ H vs S rs Q q => by
  obtain ⟨v, e, r⟩ := sl1 rs
  obtain ⟨a, xs, e1, hq, l⟩ := h.at S r
  subst e e1
  exact ⟨a, xs, rfl, hq, fun p hp => q p _ _ _ rfl (NxN.hold S hp ⟨xs, upd_same, l⟩)⟩⟩
/-! ### isinstance -/
/-- of a built-in class -/
structure Isi (s : SV) (T : String) (k : Bool) : Prop where
  ex : ∀ (K : Fg) (B H : Hp) (v : V), Ex B H → RpS K B s v → ∃ t, TyX K H v t ∧ PySem.W.kitOne K t (.type T) = some k
theorem isi_int {i : Int} {T : String} {k : Bool} (h : kitB "int" T = some k) : Isi (iv i) T k := ⟨fun K B H v _ r => ⟨_, by rw [rs_int.mp r]; exact .base (.int i), kit_ty h⟩⟩
theorem isi_bl {i : Bool} {T : String} {k : Bool} (h : kitB "bool" T = some k) : Isi (bv i) T k := ⟨fun K B H v _ r => ⟨_, by rw [rs_bl.mp r]; exact .base (.bl i), kit_ty h⟩⟩
theorem isi_str {i : Str} {T : String} {k : Bool} (h : kitB "str" T = some k) : Isi (sv i) T k := ⟨fun K B H v _ r => ⟨_, by rw [rs_str.mp r]; exact .base (.str i), kit_ty h⟩⟩
theorem isi_tup {ds : List Sd.D} {T : String} {k : Bool} (h : kitB "tuple" T = some k) : Isi (.val (.tup ds)) T k := ⟨fun K B H v x r => by
  simp only [RpS, Rp] at r
  obtain ⟨a, xs, e, q, _⟩ := r
  subst e
  refine ⟨.type "tuple", ?_, kit_ty h⟩
  rcases x.t q with (q | ⟨o, q⟩) | ⟨o, its, n, hk, hc, _⟩
  · exact .base (.tup q)
  · exact .fTuple q
  · exact .kTuple hk hc⟩
theorem ed_isi {T : String} {k : Bool} {tx : Str} {kt : Pos} (ha : EvD C X ow en e s) (hi : Isi s T k) (hm : X.mg "isinstance" = none) (hmt : X.mg tx = none) (hv : bootBuiltins tx = some (.type T)) (hg : Gl X "isinstance" := by rfl) (hgt : Gl X tx := by rfl)
    (hn : tx ≠ "__name__" := by decide) (hd : (tx == ("__debug__" : Str)) = false := by decide)
    (he : starEach (e :: [.Name tx kt]) X.env = (false, eval e X.env) :: starEach [.Name tx kt] X.env := by rfl) (he2 : starEach [.Name tx kt] X.env = (false, eval (.Name tx kt) X.env) :: starEach [] X.env := by rfl) (hpl : (backTo pos (starEach [.Name tx kt] X.env)).any (·.1) = false := by rfl) :
    EvD C X ow en (.Call (.Name "isinstance" p0) [e, .Name tx kt] [] pos) (bv k) :=
  ⟨fun B σ H S Q q => ⟨_, pe_callB call_isi hg hm (by decide +kernel) (pa_cons (X := X) pe_we (pa_cons (X := X) (pe_bltn (v := .ty T) hgt hmt hv rfl hn hd) pa_nil he2) he) (by decide) (by decide) he hpl, ha.run B σ H S _ fun v s1 B1 H1 e1 n1 r1 => by
    subst e1
    obtain ⟨t, ht, hk⟩ := hi.ex X.K B1 H1 v n1.sta.sub r1
    exact ⟨v, .ty T, t, .type T, k, rfl, .ty T, ht, hk, q _ _ B1 H1 rfl n1 (rs_bl.mpr rfl)⟩⟩⟩
/-- of a class of one's own: yes -/
theorem ed_isC {Cc : Addr} {ks : List Str} {tx : Str} {kt : Pos} (ha : EvD C X ow en e s) (hi : InsOf ow s Cc ks ss) (c : C8.InsC X.K Cc) (hm : X.mg "isinstance" = none) (hmt : X.mg tx = some (.ref Cc)) (hg : Gl X "isinstance" := by rfl) (hgt : Gl X tx := by rfl)
    (hd : (tx == ("__debug__" : Str)) = false := by decide)
    (he : starEach (e :: [.Name tx kt]) X.env = (false, eval e X.env) :: starEach [.Name tx kt] X.env := by rfl) (he2 : starEach [.Name tx kt] X.env = (false, eval (.Name tx kt) X.env) :: starEach [] X.env := by rfl) (hpl : (backTo pos (starEach [.Name tx kt] X.env)).any (·.1) = false := by rfl) :
    EvD C X ow en (.Call (.Name "isinstance" p0) [e, .Name tx kt] [] pos) (bv true) :=
  ⟨fun B σ H S Q q => ⟨_, pe_callB (C8.call_isC c) hg hm (by decide +kernel) (pa_cons (X := X) pe_we (pa_cons (X := X) (C8.pe_gc (v := .ref Cc) hgt ⟨_, hmt, rfl⟩ hd) pa_nil he2) he) (by decide) (by decide) he hpl, ha.run B σ H S _ fun v s1 B1 H1 e1 n1 r1 => by
    subst e1
    obtain ⟨a, dx, xs, e2, hH, _, _⟩ := hi.at n1.sta r1
    subst e2
    exact ⟨a, dx, _, rfl, hH, q _ _ B1 H1 rfl n1 (rs_bl.mpr rfl)⟩⟩⟩
/-! ### tests by truth -/
theorem et_lst (h : EvD C X ow en e s) (hl : SeqOf ow s ss) (he : ∀ whole, isTrue e X.env whole = (do let v ← whole; standAt e.pos; holding [v] (truthy v)) := by intro _; rfl) : EvT C X ow en e (!ss.isEmpty) :=
  ⟨fun B σ H S Q q => ⟨_, pt_truth pe_we he, h.run B σ H S _ fun v s1 B1 H1 e1 n1 r1 => by
    subst e1
    obtain ⟨a, xs, e2, hq, l⟩ := hl.at n1.sta r1
    subst e2
    have el : (!xs.isEmpty) = !ss.isEmpty := by
      have := l.length
      cases xs <;> cases ss <;> first | rfl | simp at this
    refine ⟨!xs.isEmpty, ?_, q _ B1 H1 el n1⟩
    rcases hq with hq | hq
    · exact .inl ⟨xs, hq, rfl⟩
    · exact .inr (.inl ⟨xs, hq, rfl⟩)⟩⟩
/-- a sign in a text -/
theorem cd_inC {c : Nat} {z : Str} : CmpD C X ow en .In (sv ⟨#[c]⟩) (sv z) (decide (c ∈ z.cps.toList)) := ⟨_, op_in_sign, fun B σ H v u S r1 r2 Q q =>
  ⟨c, z, rs_str.mp r1, rs_str.mp r2, q _ _ B H rfl (Nxt.refl S) (rs_bl.mpr rfl)⟩⟩
theorem cd_notInC {c : Nat} {z : Str} : CmpD C X ow en .NotIn (sv ⟨#[c]⟩) (sv z) (!decide (c ∈ z.cps.toList)) := ⟨_, op_notIn_sign, fun B σ H v u S r1 r2 Q q =>
  ⟨c, z, rs_str.mp r1, rs_str.mp r2, q _ _ B H rfl (Nxt.refl S) (rs_bl.mpr rfl)⟩⟩
/-- an int in a list or tuple of ints -/
theorem inV_int {x : Int} {xs : List Int} : inV (.int x) (xs.map V.int) = decide (x ∈ xs) := by
  unfold inV
  rw [List.any_map]
  by_cases h : x ∈ xs
  · rw [decide_eq_true h, List.any_eq_true]
    exact ⟨x, h, by simp [eqV]⟩
  · rw [decide_eq_false h, List.any_eq_false]
    intro y hy
    have ne : ¬ y = x := fun e => h (e ▸ hy)
    simp [eqV, ne]
theorem flat_ints (xs : List Int) : (xs.map V.int).all flatV = true := by
  rw [List.all_map, List.all_eq_true]
  intro y _
  rfl
theorem cd_notInI {x : Int} {t : SV} {xs : List Int} (h : SeqOf ow t (xs.map iv)) : CmpD C X ow en .NotIn (iv x) t (!decide (x ∈ xs)) := ⟨_, op_notIn_seq, fun B σ H v u S r1 r2 Q q => by
  obtain ⟨a, ys, e, hq, l⟩ := h.at S r2
  have e2 := ints_at l
  rw [rs_int] at r1
  subst e e2 r1
  exact ⟨a, _, rfl, hq, rfl, flat_ints xs, q _ _ B H rfl (Nxt.refl S) (rs_bl.mpr (by rw [if_pos rfl, inV_int]))⟩⟩
theorem ed_gInt {i : Int} (h : ∃ t, X.mg x = some (.int i t)) (hg : Gl X x := by rfl) (hd : (x == ("__debug__" : Str)) = false := by decide) : EvD C X ow en (.Name x pos) (iv i) := by
  obtain ⟨t, h⟩ := h
  exact ed_glob (v := .int i) hg ⟨_, h, t, rfl⟩ (fun _ => rs_int.mpr rfl) hd
theorem ed_gStr {z : Str} (h : ∃ t, X.mg x = some (.str z t)) (hg : Gl X x := by rfl) (hd : (x == ("__debug__" : Str)) = false := by decide) : EvD C X ow en (.Name x pos) (sv z) := by
  obtain ⟨t, h⟩ := h
  exact ed_glob (v := .str z) hg ⟨_, h, t, rfl⟩ (fun _ => rs_str.mpr rfl) hd
/-- the end of a block: the join's word -/
theorem sd_stop {I : Ow → En → Prop} (e : D.nx = Po C X I) (h : I ow en) : SD C X ow en [] D := sd_end h e
end
end Sd

/-! text Sc -/
set_option Elab.async false
set_option linter.all false
set_option maxRecDepth 100000
set_option maxHeartbeats 2000000
/-! Sc: slots, scopes, bindings of the defs. -/
namespace Tx
open PySem PySem.Spec PyProof.Rows L2 Sd C8
abbrev N_is_integer : List Str := ["value"]
abbrev p_is_integer : List Str := ["value"]
theorem sc_is_integer : FnScope N_is_integer p_is_integer (fnScope s_is_integer) := ⟨rfl, rfl, rfl, by decide +kernel, rfl, by decide +kernel, by decide +kernel⟩
theorem bd_is_integer {K : Fg} {fd : FuncData} {f : Addr} (F : FunD K "is_integer" d_is_integer.qual (fnArgs s_is_integer) (fnBody s_is_integer) (fnScope s_is_integer) [] [] f fd) : Binds K fd p_is_integer [] := F.bindsN fun _ _ _ _ _ _ us hl => match us, hl with | [_], _ => rfl
abbrev N_is_name : List Str := ["value", "sign"]
abbrev p_is_name : List Str := ["value"]
theorem sc_is_name : FnScope N_is_name p_is_name (fnScope s_is_name) := ⟨rfl, rfl, rfl, by decide +kernel, rfl, by decide +kernel, by decide +kernel⟩
theorem bd_is_name {K : Fg} {fd : FuncData} {f : Addr} (F : FunD K "is_name" d_is_name.qual (fnArgs s_is_name) (fnBody s_is_name) (fnScope s_is_name) [] [] f fd) : Binds K fd p_is_name [] := F.bindsN fun _ _ _ _ _ _ us hl => match us, hl with | [_], _ => rfl
abbrev N_check_name : List Str := ["value"]
abbrev p_check_name : List Str := ["value"]
theorem sc_check_name : FnScope N_check_name p_check_name (fnScope s_check_name) := ⟨rfl, rfl, rfl, by decide +kernel, rfl, by decide +kernel, by decide +kernel⟩
theorem bd_check_name {K : Fg} {fd : FuncData} {f : Addr} (F : FunD K "check_name" d_check_name.qual (fnArgs s_check_name) (fnBody s_check_name) (fnScope s_check_name) [] [] f fd) : Binds K fd p_check_name [] := F.bindsN fun _ _ _ _ _ _ us hl => match us, hl with | [_], _ => rfl
abbrev N_check_flag : List Str := ["value"]
abbrev p_check_flag : List Str := ["value"]
theorem sc_check_flag : FnScope N_check_flag p_check_flag (fnScope s_check_flag) := ⟨rfl, rfl, rfl, by decide +kernel, rfl, by decide +kernel, by decide +kernel⟩
theorem bd_check_flag {K : Fg} {fd : FuncData} {f : Addr} (F : FunD K "check_flag" d_check_flag.qual (fnArgs s_check_flag) (fnBody s_check_flag) (fnScope s_check_flag) [] [] f fd) : Binds K fd p_check_flag [] := F.bindsN fun _ _ _ _ _ _ us hl => match us, hl with | [_], _ => rfl
abbrev N_check_stations : List Str := ["stations", "names", "index", "station"]
abbrev p_check_stations : List Str := ["stations"]
theorem sc_check_stations : FnScope N_check_stations p_check_stations (fnScope s_check_stations) := ⟨rfl, rfl, rfl, by decide +kernel, rfl, by decide +kernel, by decide +kernel⟩
theorem bd_check_stations {K : Fg} {fd : FuncData} {f : Addr} (F : FunD K "check_stations" d_check_stations.qual (fnArgs s_check_stations) (fnBody s_check_stations) (fnScope s_check_stations) [] [] f fd) : Binds K fd p_check_stations [] := F.bindsN fun _ _ _ _ _ _ us hl => match us, hl with | [_], _ => rfl
abbrev N_check_links : List Str := ["links", "names", "index", "link"]
abbrev p_check_links : List Str := ["links", "names"]
theorem sc_check_links : FnScope N_check_links p_check_links (fnScope s_check_links) := ⟨rfl, rfl, rfl, by decide +kernel, rfl, by decide +kernel, by decide +kernel⟩
theorem bd_check_links {K : Fg} {fd : FuncData} {f : Addr} (F : FunD K "check_links" d_check_links.qual (fnArgs s_check_links) (fnBody s_check_links) (fnScope s_check_links) [] [] f fd) : Binds K fd p_check_links [] := F.bindsN fun _ _ _ _ _ _ us hl => match us, hl with | [_, _], _ => rfl
abbrev N_check_line : List Str := ["value"]
abbrev p_check_line : List Str := ["value"]
theorem sc_check_line : FnScope N_check_line p_check_line (fnScope s_check_line) := ⟨rfl, rfl, rfl, by decide +kernel, rfl, by decide +kernel, by decide +kernel⟩
theorem bd_check_line {K : Fg} {fd : FuncData} {f : Addr} (F : FunD K "check_line" d_check_line.qual (fnArgs s_check_line) (fnBody s_check_line) (fnScope s_check_line) [] [] f fd) : Binds K fd p_check_line [] := F.bindsN fun _ _ _ _ _ _ us hl => match us, hl with | [_], _ => rfl
abbrev N_check_numbers : List Str := ["value", "index", "number"]
abbrev p_check_numbers : List Str := ["value"]
theorem sc_check_numbers : FnScope N_check_numbers p_check_numbers (fnScope s_check_numbers) := ⟨rfl, rfl, rfl, by decide +kernel, rfl, by decide +kernel, by decide +kernel⟩
theorem bd_check_numbers {K : Fg} {fd : FuncData} {f : Addr} (F : FunD K "check_numbers" d_check_numbers.qual (fnArgs s_check_numbers) (fnBody s_check_numbers) (fnScope s_check_numbers) [] [] f fd) : Binds K fd p_check_numbers [] := F.bindsN fun _ _ _ _ _ _ us hl => match us, hl with | [_], _ => rfl
abbrev N_least_period : List Str := ["flags", "start", "period", "size", "ahead", "k"]
abbrev p_least_period : List Str := ["flags", "start", "period"]
theorem sc_least_period : FnScope N_least_period p_least_period (fnScope s_least_period) := ⟨rfl, rfl, rfl, by decide +kernel, rfl, by decide +kernel, by decide +kernel⟩
theorem bd_least_period {K : Fg} {fd : FuncData} {f : Addr} (F : FunD K "least_period" d_least_period.qual (fnArgs s_least_period) (fnBody s_least_period) (fnScope s_least_period) [] [] f fd) : Binds K fd p_least_period [] := F.bindsN fun _ _ _ _ _ _ us hl => match us, hl with | [_, _, _], _ => rfl
abbrev N_least_form : List Str := ["flags", "start", "period", "size"]
abbrev p_least_form : List Str := ["flags", "start", "period"]
theorem sc_least_form : FnScope N_least_form p_least_form (fnScope s_least_form) := ⟨rfl, rfl, rfl, by decide +kernel, rfl, by decide +kernel, by decide +kernel⟩
theorem bd_least_form {K : Fg} {fd : FuncData} {f : Addr} (F : FunD K "least_form" d_least_form.qual (fnArgs s_least_form) (fnBody s_least_form) (fnScope s_least_form) [] [] f fd) : Binds K fd p_least_form [] := F.bindsN fun _ _ _ _ _ _ us hl => match us, hl with | [_, _, _], _ => rfl
abbrev N_flags_of : List Str := ["single", "again", "start", "period", "flags", "number", "k"]
abbrev p_flags_of : List Str := ["single", "again", "start", "period"]
theorem sc_flags_of : FnScope N_flags_of p_flags_of (fnScope s_flags_of) := ⟨rfl, rfl, rfl, by decide +kernel, rfl, by decide +kernel, by decide +kernel⟩
theorem bd_flags_of {K : Fg} {fd : FuncData} {f : Addr} (F : FunD K "flags_of" d_flags_of.qual (fnArgs s_flags_of) (fnBody s_flags_of) (fnScope s_flags_of) [] [] f fd) : Binds K fd p_flags_of [] := F.bindsN fun _ _ _ _ _ _ us hl => match us, hl with | [_, _, _, _], _ => rfl
abbrev N_lags_with : List Str := ["form"]
abbrev p_lags_with : List Str := ["form"]
theorem sc_lags_with : FnScope N_lags_with p_lags_with (fnScope s_lags_with) := ⟨rfl, rfl, rfl, by decide +kernel, rfl, by decide +kernel, by decide +kernel⟩
theorem bd_lags_with {K : Fg} {fd : FuncData} {f : Addr} (F : FunD K "lags_with" d_lags_with.qual (fnArgs s_lags_with) (fnBody s_lags_with) (fnScope s_lags_with) [] [] f fd) : Binds K fd p_lags_with [] := F.bindsN fun _ _ _ _ _ _ us hl => match us, hl with | [_], _ => rfl
abbrev N_lags_of : List Str := ["members", "start", "period"]
abbrev p_lags_of : List Str := ["members", "start", "period"]
theorem sc_lags_of : FnScope N_lags_of p_lags_of (fnScope s_lags_of) := ⟨rfl, rfl, rfl, by decide +kernel, rfl, by decide +kernel, by decide +kernel⟩
theorem bd_lags_of {K : Fg} {fd : FuncData} {f : Addr} (F : FunD K "lags_of" d_lags_of.qual (fnArgs s_lags_of) (fnBody s_lags_of) (fnScope s_lags_of) [] [] f fd) : Binds K fd p_lags_of [] := F.bindsN fun _ _ _ _ _ _ us hl => match us, hl with | [_, _, _], _ => rfl
abbrev N_ends_of : List Str := ["line", "places", "index", "name", "link"]
abbrev p_ends_of : List Str := ["line"]
theorem sc_ends_of : FnScope N_ends_of p_ends_of (fnScope s_ends_of) := ⟨rfl, rfl, rfl, by decide +kernel, rfl, by decide +kernel, by decide +kernel⟩
theorem bd_ends_of {K : Fg} {fd : FuncData} {f : Addr} (F : FunD K "ends_of" d_ends_of.qual (fnArgs s_ends_of) (fnBody s_ends_of) (fnScope s_ends_of) [] [] f fd) : Binds K fd p_ends_of [] := F.bindsN fun _ _ _ _ _ _ us hl => match us, hl with | [_], _ => rfl
abbrev N_rings_from : List Str := ["ends", "begin", "found", "waiting", "ring", "seen", "index", "source", "target"]
abbrev p_rings_from : List Str := ["ends", "begin"]
theorem sc_rings_from : FnScope N_rings_from p_rings_from (fnScope s_rings_from) := ⟨rfl, rfl, rfl, by decide +kernel, rfl, by decide +kernel, by decide +kernel⟩
theorem bd_rings_from {K : Fg} {fd : FuncData} {f : Addr} (F : FunD K "rings_from" d_rings_from.qual (fnArgs s_rings_from) (fnBody s_rings_from) (fnScope s_rings_from) [] [] f fd) : Binds K fd p_rings_from [] := F.bindsN fun _ _ _ _ _ _ us hl => match us, hl with | [_, _], _ => rfl
abbrev N_rings : List Str := ["line", "ends", "found", "begin"]
abbrev p_rings : List Str := ["line"]
theorem sc_rings : FnScope N_rings p_rings (fnScope s_rings) := ⟨rfl, rfl, rfl, by decide +kernel, rfl, by decide +kernel, by decide +kernel⟩
theorem bd_rings {K : Fg} {fd : FuncData} {f : Addr} (F : FunD K "rings" d_rings.qual (fnArgs s_rings) (fnBody s_rings) (fnScope s_rings) [] [] f fd) : Binds K fd p_rings [] := F.bindsN fun _ _ _ _ _ _ us hl => match us, hl with | [_], _ => rfl
abbrev N_stuck : List Str := ["line", "ring", "index"]
abbrev p_stuck : List Str := ["line"]
theorem sc_stuck : FnScope N_stuck p_stuck (fnScope s_stuck) := ⟨rfl, rfl, rfl, by decide +kernel, rfl, by decide +kernel, by decide +kernel⟩
theorem bd_stuck {K : Fg} {fd : FuncData} {f : Addr} (F : FunD K "stuck" d_stuck.qual (fnArgs s_stuck) (fnBody s_stuck) (fnScope s_stuck) [] [] f fd) : Binds K fd p_stuck [] := F.bindsN fun _ _ _ _ _ _ us hl => match us, hl with | [_], _ => rfl
abbrev N_check_free : List Str := ["lines", "line", "ring"]
abbrev p_check_free : List Str := ["lines"]
theorem sc_check_free : FnScope N_check_free p_check_free (fnScope s_check_free) := ⟨rfl, rfl, rfl, by decide +kernel, rfl, by decide +kernel, by decide +kernel⟩
abbrev N_width_of : List Str := ["line", "hands", "station", "link"]
abbrev p_width_of : List Str := ["line"]
theorem sc_width_of : FnScope N_width_of p_width_of (fnScope s_width_of) := ⟨rfl, rfl, rfl, by decide +kernel, rfl, by decide +kernel, by decide +kernel⟩
theorem bd_width_of {K : Fg} {fd : FuncData} {f : Addr} (F : FunD K "width_of" d_width_of.qual (fnArgs s_width_of) (fnBody s_width_of) (fnScope s_width_of) [] [] f fd) : Binds K fd p_width_of [] := F.bindsN fun _ _ _ _ _ _ us hl => match us, hl with | [_], _ => rfl
abbrev N_entries_of : List Str := ["line", "found", "station", "link"]
abbrev p_entries_of : List Str := ["line"]
theorem sc_entries_of : FnScope N_entries_of p_entries_of (fnScope s_entries_of) := ⟨rfl, rfl, rfl, by decide +kernel, rfl, by decide +kernel, by decide +kernel⟩
theorem bd_entries_of {K : Fg} {fd : FuncData} {f : Addr} (F : FunD K "entries_of" d_entries_of.qual (fnArgs s_entries_of) (fnBody s_entries_of) (fnScope s_entries_of) [] [] f fd) : Binds K fd p_entries_of [] := F.bindsN fun _ _ _ _ _ _ us hl => match us, hl with | [_], _ => rfl
abbrev N_is_begun : List Str := ["entries", "rows", "told", "lag", "name", "place"]
abbrev p_is_begun : List Str := ["entries", "rows", "told"]
theorem sc_is_begun : FnScope N_is_begun p_is_begun (fnScope s_is_begun) := ⟨rfl, rfl, rfl, by decide +kernel, rfl, by decide +kernel, by decide +kernel⟩
theorem bd_is_begun {K : Fg} {fd : FuncData} {f : Addr} (F : FunD K "is_begun" d_is_begun.qual (fnArgs s_is_begun) (fnBody s_is_begun) (fnScope s_is_begun) [] [] f fd) : Binds K fd p_is_begun [] := F.bindsN fun _ _ _ _ _ _ us hl => match us, hl with | [_, _, _], _ => rfl
abbrev N_next_row : List Str := ["entries", "start", "rows", "ends", "begins", "left", "changed", "fresh", "name"]
abbrev p_next_row : List Str := ["entries", "start", "rows"]
theorem sc_next_row : FnScope N_next_row p_next_row (fnScope s_next_row) := ⟨rfl, rfl, rfl, by decide +kernel, rfl, by decide +kernel, by decide +kernel⟩
theorem bd_next_row {K : Fg} {fd : FuncData} {f : Addr} (F : FunD K "next_row" d_next_row.qual (fnArgs s_next_row) (fnBody s_next_row) (fnScope s_next_row) [] [] f fd) : Binds K fd p_next_row [] := F.bindsN fun _ _ _ _ _ _ us hl => match us, hl with | [_, _, _], _ => rfl
abbrev N_walked : List Str := ["line", "name"]
abbrev p_walked : List Str := ["line", "name"]
theorem sc_walked : FnScope N_walked p_walked (fnScope s_walked) := ⟨rfl, rfl, rfl, by decide +kernel, rfl, by decide +kernel, by decide +kernel⟩
theorem bd_walked {K : Fg} {fd : FuncData} {f : Addr} (F : FunD K "walked" d_walked.qual (fnArgs s_walked) (fnBody s_walked) (fnScope s_walked) [] [] f fd) : Binds K fd p_walked [] := F.bindsN fun _ _ _ _ _ _ us hl => match us, hl with | [_, _], _ => rfl
abbrev N_chosen_names : List Str := ["line", "names", "index", "name"]
abbrev p_chosen_names : List Str := ["line", "names"]
theorem sc_chosen_names : FnScope N_chosen_names p_chosen_names (fnScope s_chosen_names) := ⟨rfl, rfl, rfl, by decide +kernel, rfl, by decide +kernel, by decide +kernel⟩
theorem bd_chosen_names {K : Fg} {fd : FuncData} {f : Addr} (F : FunD K "chosen_names" d_chosen_names.qual (fnArgs s_chosen_names) (fnBody s_chosen_names) (fnScope s_chosen_names) [] [] f fd) : Binds K fd p_chosen_names [] := F.bindsN fun _ _ _ _ _ _ us hl => match us, hl with | [_, _], _ => rfl
abbrev N_exchange_of : List Str := ["line", "names", "chosen"]
abbrev p_exchange_of : List Str := ["line", "names"]
theorem sc_exchange_of : FnScope N_exchange_of p_exchange_of (fnScope s_exchange_of) := ⟨rfl, rfl, rfl, by decide +kernel, rfl, by decide +kernel, by decide +kernel⟩
theorem bd_exchange_of {K : Fg} {fd : FuncData} {f : Addr} (F : FunD K "exchange_of" d_exchange_of.qual (fnArgs s_exchange_of) (fnBody s_exchange_of) (fnScope s_exchange_of) [] [] f fd) : Binds K fd p_exchange_of [] := F.bindsN fun _ _ _ _ _ _ us hl => match us, hl with | [_, _], _ => rfl
abbrev N_most_at_once : List Str := ["line", "names"]
abbrev p_most_at_once : List Str := ["line", "names"]
theorem sc_most_at_once : FnScope N_most_at_once p_most_at_once (fnScope s_most_at_once) := ⟨rfl, rfl, rfl, by decide +kernel, rfl, by decide +kernel, by decide +kernel⟩
abbrev N_overlapping : List Str := ["line", "names", "exchange"]
abbrev p_overlapping : List Str := ["line", "names"]
theorem sc_overlapping : FnScope N_overlapping p_overlapping (fnScope s_overlapping) := ⟨rfl, rfl, rfl, by decide +kernel, rfl, by decide +kernel, by decide +kernel⟩
abbrev N_law_cell : List Str := ["_law_cells", "_law_k", "_law_mixed", "_law_part"]
abbrev p_law_cell : List Str := ["_law_cells", "_law_k"]
theorem sc_law_cell : FnScope N_law_cell p_law_cell (fnScope s_law_cell) := ⟨rfl, rfl, rfl, by decide +kernel, rfl, by decide +kernel, by decide +kernel⟩
theorem bd_law_cell {K : Fg} {fd : FuncData} {f : Addr} (F : FunD K "_law_cell" d_law_cell.qual (fnArgs s_law_cell) (fnBody s_law_cell) (fnScope s_law_cell) [] [] f fd) : Binds K fd p_law_cell [] := F.bindsN fun _ _ _ _ _ _ us hl => match us, hl with | [_, _], _ => rfl
abbrev N_law_pool : List Str := ["_law_cell_here", "_law_great"]
abbrev p_law_pool : List Str := ["_law_cell_here"]
theorem sc_law_pool : FnScope N_law_pool p_law_pool (fnScope s_law_pool) := ⟨rfl, rfl, rfl, by decide +kernel, rfl, by decide +kernel, by decide +kernel⟩
theorem bd_law_pool {K : Fg} {fd : FuncData} {f : Addr} (F : FunD K "_law_pool" d_law_pool.qual (fnArgs s_law_pool) (fnBody s_law_pool) (fnScope s_law_pool) [] [] f fd) : Binds K fd p_law_pool [] := F.bindsN fun _ _ _ _ _ _ us hl => match us, hl with | [_], _ => rfl
abbrev N_law_draw : List Str := ["_law_pool_here", "_law_many", "_law_state", "_law_step", "_law_digit"]
abbrev p_law_draw : List Str := ["_law_pool_here", "_law_many"]
theorem sc_law_draw : FnScope N_law_draw p_law_draw (fnScope s_law_draw) := ⟨rfl, rfl, rfl, by decide +kernel, rfl, by decide +kernel, by decide +kernel⟩
theorem bd_law_draw {K : Fg} {fd : FuncData} {f : Addr} (F : FunD K "_law_draw" d_law_draw.qual (fnArgs s_law_draw) (fnBody s_law_draw) (fnScope s_law_draw) [] [] f fd) : Binds K fd p_law_draw [] := F.bindsN fun _ _ _ _ _ _ us hl => match us, hl with | [_, _], _ => rfl
abbrev N_law_tag : List Str := ["_law_pool_here", "_law_tags", "_law_signs", "_law_tag_here", "_law_turn"]
abbrev p_law_tag : List Str := ["_law_pool_here", "_law_tags"]
theorem sc_law_tag : FnScope N_law_tag p_law_tag (fnScope s_law_tag) := ⟨rfl, rfl, rfl, by decide +kernel, rfl, by decide +kernel, by decide +kernel⟩
theorem bd_law_tag {K : Fg} {fd : FuncData} {f : Addr} (F : FunD K "_law_tag" d_law_tag.qual (fnArgs s_law_tag) (fnBody s_law_tag) (fnScope s_law_tag) [] [] f fd) : Binds K fd p_law_tag [] := F.bindsN fun _ _ _ _ _ _ us hl => match us, hl with | [_, _], _ => rfl
abbrev N_law_wire : List Str := ["_law_pool_here", "_law_tags", "_law_at", "_law_to", "_law_wait", "_law_soon"]
abbrev p_law_wire : List Str := ["_law_pool_here", "_law_tags"]
theorem sc_law_wire : FnScope N_law_wire p_law_wire (fnScope s_law_wire) := ⟨rfl, rfl, rfl, by decide +kernel, rfl, by decide +kernel, by decide +kernel⟩
theorem bd_law_wire {K : Fg} {fd : FuncData} {f : Addr} (F : FunD K "_law_wire" d_law_wire.qual (fnArgs s_law_wire) (fnBody s_law_wire) (fnScope s_law_wire) [] [] f fd) : Binds K fd p_law_wire [] := F.bindsN fun _ _ _ _ _ _ us hl => match us, hl with | [_, _], _ => rfl
abbrev N_law_plan : List Str := ["_law_pool_here", "_law_most", "_law_more", "_law_tags", "_law_rows", "_law_wires", "_law_turn", "_law_k", "_law_free", "_law_last"]
abbrev p_law_plan : List Str := ["_law_pool_here", "_law_most", "_law_more"]
theorem sc_law_plan : FnScope N_law_plan p_law_plan (fnScope s_law_plan) := ⟨rfl, rfl, rfl, by decide +kernel, rfl, by decide +kernel, by decide +kernel⟩
theorem bd_law_plan {K : Fg} {fd : FuncData} {f : Addr} (F : FunD K "_law_plan" d_law_plan.qual (fnArgs s_law_plan) (fnBody s_law_plan) (fnScope s_law_plan) [] [] f fd) : Binds K fd p_law_plan [] := F.bindsN fun _ _ _ _ _ _ us hl => match us, hl with | [_, _, _], _ => rfl
abbrev N_law_line : List Str := ["_law_plan_here", "_law_turn", "_law_rows", "_law_at", "_law_posts", "_law_wires", "_law_tag_here", "_law_free", "_law_clock", "_law_base", "_law_goal", "_law_wait", "_law_soon"]
abbrev p_law_line : List Str := ["_law_plan_here", "_law_turn"]
theorem sc_law_line : FnScope N_law_line p_law_line (fnScope s_law_line) := ⟨rfl, rfl, rfl, by decide +kernel, rfl, by decide +kernel, by decide +kernel⟩
theorem bd_law_line {K : Fg} {fd : FuncData} {f : Addr} (F : FunD K "_law_line" d_law_line.qual (fnArgs s_law_line) (fnBody s_law_line) (fnScope s_law_line) [] [] f fd) : Binds K fd p_law_line [] := F.bindsN fun _ _ _ _ _ _ us hl => match us, hl with | [_, _], _ => rfl
abbrev N_law_play : List Str := ["_law_plan_here", "_law_spans_here", "_law_most", "_law_found", "_law_k", "_law_tag_here", "_law_free", "_law_clock", "_law_due", "_law_base", "_law_goal", "_law_wait", "_law_soon", "_law_begin"]
abbrev p_law_play : List Str := ["_law_plan_here", "_law_spans_here", "_law_most"]
theorem sc_law_play : FnScope N_law_play p_law_play (fnScope s_law_play) := ⟨rfl, rfl, rfl, by decide +kernel, rfl, by decide +kernel, by decide +kernel⟩
theorem bd_law_play {K : Fg} {fd : FuncData} {f : Addr} (F : FunD K "_law_play" d_law_play.qual (fnArgs s_law_play) (fnBody s_law_play) (fnScope s_law_play) [] [] f fd) : Binds K fd p_law_play [] := F.bindsN fun _ _ _ _ _ _ us hl => match us, hl with | [_, _, _], _ => rfl
abbrev N_law_span : List Str := ["_law_pool_here", "_law_way"]
abbrev p_law_span : List Str := ["_law_pool_here"]
theorem sc_law_span : FnScope N_law_span p_law_span (fnScope s_law_span) := ⟨rfl, rfl, rfl, by decide +kernel, rfl, by decide +kernel, by decide +kernel⟩
theorem bd_law_span {K : Fg} {fd : FuncData} {f : Addr} (F : FunD K "_law_span" d_law_span.qual (fnArgs s_law_span) (fnBody s_law_span) (fnScope s_law_span) [] [] f fd) : Binds K fd p_law_span [] := F.bindsN fun _ _ _ _ _ _ us hl => match us, hl with | [_], _ => rfl
abbrev N_law_spans : List Str := ["_law_pool_here", "_law_plan_here", "_law_most", "_law_spans_here", "_law_tag_here", "_law_free", "_law_clock", "_law_k"]
abbrev p_law_spans : List Str := ["_law_pool_here", "_law_plan_here", "_law_most"]
theorem sc_law_spans : FnScope N_law_spans p_law_spans (fnScope s_law_spans) := ⟨rfl, rfl, rfl, by decide +kernel, rfl, by decide +kernel, by decide +kernel⟩
theorem bd_law_spans {K : Fg} {fd : FuncData} {f : Addr} (F : FunD K "_law_spans" d_law_spans.qual (fnArgs s_law_spans) (fnBody s_law_spans) (fnScope s_law_spans) [] [] f fd) : Binds K fd p_law_spans [] := F.bindsN fun _ _ _ _ _ _ us hl => match us, hl with | [_, _, _], _ => rfl
abbrev N_law_busy : List Str := ["_law_went", "_law_some", "_law_moment_here", "_law_begun", "_law_task"]
abbrev p_law_busy : List Str := ["_law_went", "_law_some", "_law_moment_here"]
theorem sc_law_busy : FnScope N_law_busy p_law_busy (fnScope s_law_busy) := ⟨rfl, rfl, rfl, by decide +kernel, rfl, by decide +kernel, by decide +kernel⟩
theorem bd_law_busy {K : Fg} {fd : FuncData} {f : Addr} (F : FunD K "_law_busy" d_law_busy.qual (fnArgs s_law_busy) (fnBody s_law_busy) (fnScope s_law_busy) [] [] f fd) : Binds K fd p_law_busy [] := F.bindsN fun _ _ _ _ _ _ us hl => match us, hl with | [_, _, _], _ => rfl
abbrev N_law_right : List Str := ["_law_pool_here", "_law_plan_here", "_law_mine", "_law_some", "_law_told", "_law_shown", "_law_went", "_law_task", "_law_last", "_law_row"]
abbrev p_law_right : List Str := ["_law_pool_here"]
theorem sc_law_right : FnScope N_law_right p_law_right (fnScope s_law_right) := ⟨rfl, rfl, rfl, by decide +kernel, rfl, by decide +kernel, by decide +kernel⟩
theorem bd_law_right {K : Fg} {fd : FuncData} {f : Addr} (F : FunD K "_law_right" d_law_right.qual (fnArgs s_law_right) (fnBody s_law_right) (fnScope s_law_right) [] [] f fd) : Binds K fd p_law_right [] := F.bindsN fun _ _ _ _ _ _ us hl => match us, hl with | [_], _ => rfl
abbrev N_law : List Str := ["_law_cells", "_law_k"]
abbrev p_law : List Str := ["_law_cells"]
theorem sc_law : FnScope N_law p_law (fnScope s_law) := ⟨rfl, rfl, rfl, by decide +kernel, rfl, by decide +kernel, by decide +kernel⟩
theorem bd_law {K : Fg} {fd : FuncData} {f : Addr} (F : FunD K "law" d_law.qual (fnArgs s_law) (fnBody s_law) (fnScope s_law) [] [] f fd) : Binds K fd p_law [] := F.bindsN fun _ _ _ _ _ _ us hl => match us, hl with | [_], _ => rfl
abbrev N_Station_init : List Str := ["self", "name", "hands", "timed"]
abbrev p_Station_init : List Str := ["self", "name", "hands", "timed"]
theorem sc_Station_init : FnScope N_Station_init p_Station_init (fnScope s_Station_init) := ⟨rfl, rfl, rfl, by decide +kernel, rfl, by decide +kernel, by decide +kernel⟩
abbrev N_Link_init : List Str := ["self", "source", "target", "stock", "early"]
abbrev p_Link_init : List Str := ["self", "source", "target", "stock", "early"]
theorem sc_Link_init : FnScope N_Link_init p_Link_init (fnScope s_Link_init) := ⟨rfl, rfl, rfl, by decide +kernel, rfl, by decide +kernel, by decide +kernel⟩
abbrev N_Line_init : List Str := ["self", "stations", "links", "outlet", "names", "station"]
abbrev p_Line_init : List Str := ["self", "stations", "links", "outlet"]
theorem sc_Line_init : FnScope N_Line_init p_Line_init (fnScope s_Line_init) := ⟨rfl, rfl, rfl, by decide +kernel, rfl, by decide +kernel, by decide +kernel⟩
theorem bd_Line_init {K : Fg} {fd : FuncData} {f : Addr} (F : FunD K "__init__" d_Line_init.qual (fnArgs s_Line_init) (fnBody s_Line_init) (fnScope s_Line_init) [] [] f fd) : Binds K fd p_Line_init [] := F.bindsN fun _ _ _ _ _ _ us hl => match us, hl with | [_, _, _, _], _ => rfl
abbrev N_Line_len : List Str := ["self"]
abbrev p_Line_len : List Str := ["self"]
theorem sc_Line_len : FnScope N_Line_len p_Line_len (fnScope s_Line_len) := ⟨rfl, rfl, rfl, by decide +kernel, rfl, by decide +kernel, by decide +kernel⟩
theorem bd_Line_len {K : Fg} {fd : FuncData} {f : Addr} (F : FunD K "__len__" d_Line_len.qual (fnArgs s_Line_len) (fnBody s_Line_len) (fnScope s_Line_len) [] [] f fd) : Binds K fd p_Line_len [] := F.bindsN fun _ _ _ _ _ _ us hl => match us, hl with | [_], _ => rfl
abbrev N_Lags_init : List Str := ["self", "single", "again", "period", "start"]
abbrev p_Lags_init : List Str := ["self", "single", "again", "period"]
theorem sc_Lags_init : FnScope N_Lags_init p_Lags_init (fnScope s_Lags_init) := ⟨rfl, rfl, rfl, by decide +kernel, rfl, by decide +kernel, by decide +kernel⟩
abbrev N_FormedLags_init : List Str := ["self", "form"]
abbrev p_FormedLags_init : List Str := ["self", "form"]
theorem sc_FormedLags_init : FnScope N_FormedLags_init p_FormedLags_init (fnScope s_FormedLags_init) := ⟨rfl, rfl, rfl, by decide +kernel, rfl, by decide +kernel, by decide +kernel⟩
theorem bd_FormedLags_init {K : Fg} {fd : FuncData} {f : Addr} (F : FunD K "__init__" d_FormedLags_init.qual (fnArgs s_FormedLags_init) (fnBody s_FormedLags_init) (fnScope s_FormedLags_init) [] [] f fd) : Binds K fd p_FormedLags_init [] := F.bindsN fun _ _ _ _ _ _ us hl => match us, hl with | [_, _], _ => rfl
abbrev N_Walk_init : List Str := ["self", "line", "start", "width", "entries", "windows", "begin", "window"]
abbrev p_Walk_init : List Str := ["self", "line", "start"]
theorem sc_Walk_init : FnScope N_Walk_init p_Walk_init (fnScope s_Walk_init) := ⟨rfl, rfl, rfl, by decide +kernel, rfl, by decide +kernel, by decide +kernel⟩
theorem bd_Walk_init {K : Fg} {fd : FuncData} {f : Addr} (F : FunD K "__init__" d_Walk_init.qual (fnArgs s_Walk_init) (fnBody s_Walk_init) (fnScope s_Walk_init) [] [] f fd) : Binds K fd p_Walk_init [] := F.bindsN fun _ _ _ _ _ _ us hl => match us, hl with | [_, _, _], _ => rfl
abbrev N_Walk_lags_at : List Str := ["self", "name", "place", "members", "at", "row"]
abbrev p_Walk_lags_at : List Str := ["self", "name", "place"]
theorem sc_Walk_lags_at : FnScope N_Walk_lags_at p_Walk_lags_at (fnScope s_Walk_lags_at) := ⟨rfl, rfl, rfl, by decide +kernel, rfl, by decide +kernel, by decide +kernel⟩
theorem bd_Walk_lags_at {K : Fg} {fd : FuncData} {f : Addr} (F : FunD K "lags_at" d_Walk_lags_at.qual (fnArgs s_Walk_lags_at) (fnBody s_Walk_lags_at) (fnScope s_Walk_lags_at) [] [] f fd) : Binds K fd p_Walk_lags_at [] := F.bindsN fun _ _ _ _ _ _ us hl => match us, hl with | [_, _, _], _ => rfl
abbrev N_Walk_ends : List Str := ["self", "name"]
abbrev p_Walk_ends : List Str := ["self", "name"]
theorem sc_Walk_ends : FnScope N_Walk_ends p_Walk_ends (fnScope s_Walk_ends) := ⟨rfl, rfl, rfl, by decide +kernel, rfl, by decide +kernel, by decide +kernel⟩
theorem bd_Walk_ends {K : Fg} {fd : FuncData} {f : Addr} (F : FunD K "ends" d_Walk_ends.qual (fnArgs s_Walk_ends) (fnBody s_Walk_ends) (fnScope s_Walk_ends) [] [] f fd) : Binds K fd p_Walk_ends [] := F.bindsN fun _ _ _ _ _ _ us hl => match us, hl with | [_, _], _ => rfl
abbrev N_Walk_begins : List Str := ["self", "name"]
abbrev p_Walk_begins : List Str := ["self", "name"]
theorem sc_Walk_begins : FnScope N_Walk_begins p_Walk_begins (fnScope s_Walk_begins) := ⟨rfl, rfl, rfl, by decide +kernel, rfl, by decide +kernel, by decide +kernel⟩
theorem bd_Walk_begins {K : Fg} {fd : FuncData} {f : Addr} (F : FunD K "begins" d_Walk_begins.qual (fnArgs s_Walk_begins) (fnBody s_Walk_begins) (fnScope s_Walk_begins) [] [] f fd) : Binds K fd p_Walk_begins [] := F.bindsN fun _ _ _ _ _ _ us hl => match us, hl with | [_, _], _ => rfl
abbrev N_Orders_init : List Str := ["self", "line", "name", "walk", "other"]
abbrev p_Orders_init : List Str := ["self", "line"]
theorem sc_Orders_init : FnScope N_Orders_init p_Orders_init (fnScope s_Orders_init) := ⟨rfl, rfl, rfl, by decide +kernel, rfl, by decide +kernel, by decide +kernel⟩
theorem bd_Orders_init {K : Fg} {fd : FuncData} {f : Addr} (F : FunD K "__init__" d_Orders_init.qual (fnArgs s_Orders_init) (fnBody s_Orders_init) (fnScope s_Orders_init) [] [] f fd) : Binds K fd p_Orders_init [] := F.bindsN fun _ _ _ _ _ _ us hl => match us, hl with | [_, _], _ => rfl
abbrev N_Orders_between : List Str := ["self", "name", "other"]
abbrev p_Orders_between : List Str := ["self", "name", "other"]
theorem sc_Orders_between : FnScope N_Orders_between p_Orders_between (fnScope s_Orders_between) := ⟨rfl, rfl, rfl, by decide +kernel, rfl, by decide +kernel, by decide +kernel⟩
theorem bd_Orders_between {K : Fg} {fd : FuncData} {f : Addr} (F : FunD K "between" d_Orders_between.qual (fnArgs s_Orders_between) (fnBody s_Orders_between) (fnScope s_Orders_between) [] [] f fd) : Binds K fd p_Orders_between [] := F.bindsN fun _ _ _ _ _ _ us hl => match us, hl with | [_, _, _], _ => rfl
abbrev N_Exchange_init : List Str := ["self", "orders", "names", "name", "mate"]
abbrev p_Exchange_init : List Str := ["self", "orders", "names"]
theorem sc_Exchange_init : FnScope N_Exchange_init p_Exchange_init (fnScope s_Exchange_init) := ⟨rfl, rfl, rfl, by decide +kernel, rfl, by decide +kernel, by decide +kernel⟩
theorem bd_Exchange_init {K : Fg} {fd : FuncData} {f : Addr} (F : FunD K "__init__" d_Exchange_init.qual (fnArgs s_Exchange_init) (fnBody s_Exchange_init) (fnScope s_Exchange_init) [] [] f fd) : Binds K fd p_Exchange_init [] := F.bindsN fun _ _ _ _ _ _ us hl => match us, hl with | [_, _, _], _ => rfl
abbrev N_Exchange_cheapest : List Str := ["self", "ways", "name", "later", "used", "cost", "mates", "mate", "lag", "key"]
abbrev p_Exchange_cheapest : List Str := ["self"]
theorem sc_Exchange_cheapest : FnScope N_Exchange_cheapest p_Exchange_cheapest (fnScope s_Exchange_cheapest) := ⟨rfl, rfl, rfl, by decide +kernel, rfl, by decide +kernel, by decide +kernel⟩
theorem bd_Exchange_cheapest {K : Fg} {fd : FuncData} {f : Addr} (F : FunD K "cheapest" d_Exchange_cheapest.qual (fnArgs s_Exchange_cheapest) (fnBody s_Exchange_cheapest) (fnScope s_Exchange_cheapest) [] [] f fd) : Binds K fd p_Exchange_cheapest [] := F.bindsN fun _ _ _ _ _ _ us hl => match us, hl with | [_], _ => rfl
abbrev N_Exchange_floors : List Str := ["self", "found", "turn", "name", "mate", "other", "lag", "least"]
abbrev p_Exchange_floors : List Str := ["self"]
theorem sc_Exchange_floors : FnScope N_Exchange_floors p_Exchange_floors (fnScope s_Exchange_floors) := ⟨rfl, rfl, rfl, by decide +kernel, rfl, by decide +kernel, by decide +kernel⟩
theorem bd_Exchange_floors {K : Fg} {fd : FuncData} {f : Addr} (F : FunD K "floors" d_Exchange_floors.qual (fnArgs s_Exchange_floors) (fnBody s_Exchange_floors) (fnScope s_Exchange_floors) [] [] f fd) : Binds K fd p_Exchange_floors [] := F.bindsN fun _ _ _ _ _ _ us hl => match us, hl with | [_], _ => rfl
abbrev N_Exchange_tasks_apart : List Str := ["self", "floors", "found", "name", "mate", "last", "number"]
abbrev p_Exchange_tasks_apart : List Str := ["self"]
theorem sc_Exchange_tasks_apart : FnScope N_Exchange_tasks_apart p_Exchange_tasks_apart (fnScope s_Exchange_tasks_apart) := ⟨rfl, rfl, rfl, by decide +kernel, rfl, by decide +kernel, by decide +kernel⟩
theorem bd_Exchange_tasks_apart {K : Fg} {fd : FuncData} {f : Addr} (F : FunD K "tasks_apart" d_Exchange_tasks_apart.qual (fnArgs s_Exchange_tasks_apart) (fnBody s_Exchange_tasks_apart) (fnScope s_Exchange_tasks_apart) [] [] f fd) : Binds K fd p_Exchange_tasks_apart [] := F.bindsN fun _ _ _ _ _ _ us hl => match us, hl with | [_], _ => rfl
abbrev N_Station_name : List Str := ["self"]
abbrev p_Station_name : List Str := ["self"]
theorem sc_Station_name : FnScope N_Station_name p_Station_name (fnScope s_Station_name) := ⟨rfl, rfl, rfl, by decide +kernel, rfl, by decide +kernel, by decide +kernel⟩
theorem bd_Station_name {K : Fg} {fd : FuncData} {f : Addr} (F : FunD K "name" d_Station_name.qual (fnArgs s_Station_name) (fnBody s_Station_name) (fnScope s_Station_name) [] [] f fd) : Binds K fd p_Station_name [] := F.bindsN fun _ _ _ _ _ _ us hl => match us, hl with | [_], _ => rfl
abbrev N_Station_hands : List Str := ["self"]
abbrev p_Station_hands : List Str := ["self"]
theorem sc_Station_hands : FnScope N_Station_hands p_Station_hands (fnScope s_Station_hands) := ⟨rfl, rfl, rfl, by decide +kernel, rfl, by decide +kernel, by decide +kernel⟩
theorem bd_Station_hands {K : Fg} {fd : FuncData} {f : Addr} (F : FunD K "hands" d_Station_hands.qual (fnArgs s_Station_hands) (fnBody s_Station_hands) (fnScope s_Station_hands) [] [] f fd) : Binds K fd p_Station_hands [] := F.bindsN fun _ _ _ _ _ _ us hl => match us, hl with | [_], _ => rfl
abbrev N_Station_timed : List Str := ["self"]
abbrev p_Station_timed : List Str := ["self"]
theorem sc_Station_timed : FnScope N_Station_timed p_Station_timed (fnScope s_Station_timed) := ⟨rfl, rfl, rfl, by decide +kernel, rfl, by decide +kernel, by decide +kernel⟩
theorem bd_Station_timed {K : Fg} {fd : FuncData} {f : Addr} (F : FunD K "timed" d_Station_timed.qual (fnArgs s_Station_timed) (fnBody s_Station_timed) (fnScope s_Station_timed) [] [] f fd) : Binds K fd p_Station_timed [] := F.bindsN fun _ _ _ _ _ _ us hl => match us, hl with | [_], _ => rfl
abbrev N_Link_source : List Str := ["self"]
abbrev p_Link_source : List Str := ["self"]
theorem sc_Link_source : FnScope N_Link_source p_Link_source (fnScope s_Link_source) := ⟨rfl, rfl, rfl, by decide +kernel, rfl, by decide +kernel, by decide +kernel⟩
theorem bd_Link_source {K : Fg} {fd : FuncData} {f : Addr} (F : FunD K "source" d_Link_source.qual (fnArgs s_Link_source) (fnBody s_Link_source) (fnScope s_Link_source) [] [] f fd) : Binds K fd p_Link_source [] := F.bindsN fun _ _ _ _ _ _ us hl => match us, hl with | [_], _ => rfl
abbrev N_Link_target : List Str := ["self"]
abbrev p_Link_target : List Str := ["self"]
theorem sc_Link_target : FnScope N_Link_target p_Link_target (fnScope s_Link_target) := ⟨rfl, rfl, rfl, by decide +kernel, rfl, by decide +kernel, by decide +kernel⟩
theorem bd_Link_target {K : Fg} {fd : FuncData} {f : Addr} (F : FunD K "target" d_Link_target.qual (fnArgs s_Link_target) (fnBody s_Link_target) (fnScope s_Link_target) [] [] f fd) : Binds K fd p_Link_target [] := F.bindsN fun _ _ _ _ _ _ us hl => match us, hl with | [_], _ => rfl
abbrev N_Link_stock : List Str := ["self"]
abbrev p_Link_stock : List Str := ["self"]
theorem sc_Link_stock : FnScope N_Link_stock p_Link_stock (fnScope s_Link_stock) := ⟨rfl, rfl, rfl, by decide +kernel, rfl, by decide +kernel, by decide +kernel⟩
theorem bd_Link_stock {K : Fg} {fd : FuncData} {f : Addr} (F : FunD K "stock" d_Link_stock.qual (fnArgs s_Link_stock) (fnBody s_Link_stock) (fnScope s_Link_stock) [] [] f fd) : Binds K fd p_Link_stock [] := F.bindsN fun _ _ _ _ _ _ us hl => match us, hl with | [_], _ => rfl
abbrev N_Link_early : List Str := ["self"]
abbrev p_Link_early : List Str := ["self"]
theorem sc_Link_early : FnScope N_Link_early p_Link_early (fnScope s_Link_early) := ⟨rfl, rfl, rfl, by decide +kernel, rfl, by decide +kernel, by decide +kernel⟩
theorem bd_Link_early {K : Fg} {fd : FuncData} {f : Addr} (F : FunD K "early" d_Link_early.qual (fnArgs s_Link_early) (fnBody s_Link_early) (fnScope s_Link_early) [] [] f fd) : Binds K fd p_Link_early [] := F.bindsN fun _ _ _ _ _ _ us hl => match us, hl with | [_], _ => rfl
abbrev N_Line_stations : List Str := ["self"]
abbrev p_Line_stations : List Str := ["self"]
theorem sc_Line_stations : FnScope N_Line_stations p_Line_stations (fnScope s_Line_stations) := ⟨rfl, rfl, rfl, by decide +kernel, rfl, by decide +kernel, by decide +kernel⟩
theorem bd_Line_stations {K : Fg} {fd : FuncData} {f : Addr} (F : FunD K "stations" d_Line_stations.qual (fnArgs s_Line_stations) (fnBody s_Line_stations) (fnScope s_Line_stations) [] [] f fd) : Binds K fd p_Line_stations [] := F.bindsN fun _ _ _ _ _ _ us hl => match us, hl with | [_], _ => rfl
abbrev N_Line_links : List Str := ["self"]
abbrev p_Line_links : List Str := ["self"]
theorem sc_Line_links : FnScope N_Line_links p_Line_links (fnScope s_Line_links) := ⟨rfl, rfl, rfl, by decide +kernel, rfl, by decide +kernel, by decide +kernel⟩
theorem bd_Line_links {K : Fg} {fd : FuncData} {f : Addr} (F : FunD K "links" d_Line_links.qual (fnArgs s_Line_links) (fnBody s_Line_links) (fnScope s_Line_links) [] [] f fd) : Binds K fd p_Line_links [] := F.bindsN fun _ _ _ _ _ _ us hl => match us, hl with | [_], _ => rfl
abbrev N_Line_outlet : List Str := ["self"]
abbrev p_Line_outlet : List Str := ["self"]
theorem sc_Line_outlet : FnScope N_Line_outlet p_Line_outlet (fnScope s_Line_outlet) := ⟨rfl, rfl, rfl, by decide +kernel, rfl, by decide +kernel, by decide +kernel⟩
theorem bd_Line_outlet {K : Fg} {fd : FuncData} {f : Addr} (F : FunD K "outlet" d_Line_outlet.qual (fnArgs s_Line_outlet) (fnBody s_Line_outlet) (fnScope s_Line_outlet) [] [] f fd) : Binds K fd p_Line_outlet [] := F.bindsN fun _ _ _ _ _ _ us hl => match us, hl with | [_], _ => rfl
abbrev N_Line_names : List Str := ["self", "station"]
abbrev p_Line_names : List Str := ["self"]
theorem sc_Line_names : FnScope N_Line_names p_Line_names (fnScope s_Line_names) := ⟨rfl, rfl, rfl, by decide +kernel, rfl, by decide +kernel, by decide +kernel⟩
theorem bd_Line_names {K : Fg} {fd : FuncData} {f : Addr} (F : FunD K "names" d_Line_names.qual (fnArgs s_Line_names) (fnBody s_Line_names) (fnScope s_Line_names) [] [] f fd) : Binds K fd p_Line_names [] := F.bindsN fun _ _ _ _ _ _ us hl => match us, hl with | [_], _ => rfl
abbrev N_Line_timed : List Str := ["self", "station"]
abbrev p_Line_timed : List Str := ["self"]
theorem sc_Line_timed : FnScope N_Line_timed p_Line_timed (fnScope s_Line_timed) := ⟨rfl, rfl, rfl, by decide +kernel, rfl, by decide +kernel, by decide +kernel⟩
theorem bd_Line_timed {K : Fg} {fd : FuncData} {f : Addr} (F : FunD K "timed" d_Line_timed.qual (fnArgs s_Line_timed) (fnBody s_Line_timed) (fnScope s_Line_timed) [] [] f fd) : Binds K fd p_Line_timed [] := F.bindsN fun _ _ _ _ _ _ us hl => match us, hl with | [_], _ => rfl
abbrev N_Lags_members : List Str := ["self", "k", "flag"]
abbrev p_Lags_members : List Str := ["self"]
theorem sc_Lags_members : FnScope N_Lags_members p_Lags_members (fnScope s_Lags_members) := ⟨rfl, rfl, rfl, by decide +kernel, rfl, by decide +kernel, by decide +kernel⟩
theorem bd_Lags_members {K : Fg} {fd : FuncData} {f : Addr} (F : FunD K "members" d_Lags_members.qual (fnArgs s_Lags_members) (fnBody s_Lags_members) (fnScope s_Lags_members) [] [] f fd) : Binds K fd p_Lags_members [] := F.bindsN fun _ _ _ _ _ _ us hl => match us, hl with | [_], _ => rfl
abbrev N_Lags_first : List Str := ["self"]
abbrev p_Lags_first : List Str := ["self"]
theorem sc_Lags_first : FnScope N_Lags_first p_Lags_first (fnScope s_Lags_first) := ⟨rfl, rfl, rfl, by decide +kernel, rfl, by decide +kernel, by decide +kernel⟩
theorem bd_Lags_first {K : Fg} {fd : FuncData} {f : Addr} (F : FunD K "first" d_Lags_first.qual (fnArgs s_Lags_first) (fnBody s_Lags_first) (fnScope s_Lags_first) [] [] f fd) : Binds K fd p_Lags_first [] := F.bindsN fun _ _ _ _ _ _ us hl => match us, hl with | [_], _ => rfl
end Tx

/-! text W1 -/
set_option Elab.async false
set_option linter.all false
set_option maxRecDepth 100000
set_option maxHeartbeats 2000000
/-! W1: names, flags, stations, links. -/
namespace Tx
open PySem PySem.Spec PyProof.Rows L2 Sd C8
theorem bt_int : bootBuiltins "int" = some (.type "int") := by decide +kernel
theorem bt_bool : bootBuiltins "bool" = some (.type "bool") := by decide +kernel
theorem bt_str : bootBuiltins "str" = some (.type "str") := by decide +kernel
theorem bt_tuple : bootBuiltins "tuple" = some (.type "tuple") := by decide +kernel
theorem bt_list : bootBuiltins "list" = some (.type "list") := by decide +kernel
theorem bt_dict : bootBuiltins "dict" = some (.type "dict") := by decide +kernel
theorem bb_len : bootBuiltins "len" = some (.builtin "len") := by decide +kernel
theorem bb_range : bootBuiltins "range" = some (.type "range") := by decide +kernel
theorem bb_isinstance : bootBuiltins "isinstance" = some (.builtin "isinstance") := by decide +kernel
theorem bb_sorted : bootBuiltins "sorted" = some (.builtin "sorted") := by decide +kernel
theorem bb_enumerate : bootBuiltins "enumerate" = some (.type "enumerate") := by decide +kernel
theorem bb_max : bootBuiltins "max" = some (.builtin "max") := by decide +kernel
theorem bb_min : bootBuiltins "min" = some (.builtin "min") := by decide +kernel
theorem bb_sum : bootBuiltins "sum" = some (.builtin "sum") := by decide +kernel
theorem bb_any : bootBuiltins "any" = some (.builtin "any") := by decide +kernel
theorem bb_all : bootBuiltins "all" = some (.builtin "all") := by decide +kernel
theorem bb_abs : bootBuiltins "abs" = some (.builtin "abs") := by decide +kernel
theorem bb_divmod : bootBuiltins "divmod" = some (.builtin "divmod") := by decide +kernel
theorem bb_zip : bootBuiltins "zip" = some (.type "zip") := by decide +kernel
theorem kb_int_int : kitB "int" "int" = some true := by decide +kernel
theorem kb_int_bool : kitB "int" "bool" = some false := by decide +kernel
theorem kb_int_str : kitB "int" "str" = some false := by decide +kernel
theorem kb_int_tuple : kitB "int" "tuple" = some false := by decide +kernel
theorem kb_bool_int : kitB "bool" "int" = some true := by decide +kernel
theorem kb_bool_bool : kitB "bool" "bool" = some true := by decide +kernel
theorem kb_bool_str : kitB "bool" "str" = some false := by decide +kernel
theorem kb_bool_tuple : kitB "bool" "tuple" = some false := by decide +kernel
theorem kb_str_int : kitB "str" "int" = some false := by decide +kernel
theorem kb_str_bool : kitB "str" "bool" = some false := by decide +kernel
theorem kb_str_str : kitB "str" "str" = some true := by decide +kernel
theorem kb_str_tuple : kitB "str" "tuple" = some false := by decide +kernel
theorem kb_tuple_int : kitB "tuple" "int" = some false := by decide +kernel
theorem kb_tuple_bool : kitB "tuple" "bool" = some false := by decide +kernel
theorem kb_tuple_str : kitB "tuple" "str" = some false := by decide +kernel
theorem kb_tuple_tuple : kitB "tuple" "tuple" = some true := by decide +kernel
section
variable {P : Program} {w : World} {K : Fg} {mg : Str → Option Value} {base : Heap}
/-- a def by its body -/
theorem cal_of {x qual : Str} {params : Arguments} {body : List Stmt} {scope : Scope} {f : Addr} {fd : FuncData} {N ps : List Str} {R : Rel} {k : Nat} (F : FunD K x qual params body scope [] [] f fd) (S : FnScope N ps scope) (hm : mg x = some (.ref f)) (bd : Binds K fd ps [])
    (len : ∀ ow ss post, R ow ss post → ss.length = ps.length)
    (hb : ∀ (cdv : Value) (A : Around) (outer : List Env) (s : Shared) (H : Hp) (E : XK) (C : FC) (D : Ends) (ow : Ow) (ss : List SV) (post : SV → Ow → Prop), Room k (A.deeper (envOfC qual scope s.heap.objs.size f cdv)) → R ow ss post → C.M = ow.map (·.1) → Fin C K post D → FinN C K post D →
      SD C (cxOf L2.CX0 P w K mg base N qual scope f cdv A outer s H E).nox ow (ss ++ List.replicate (N.length - ss.length) .un) body D) : Cal P w K mg base (k + 1) x (Pr K R) [] :=
  ⟨f, fd, ps, [], fn_pr F S len hb, hm, F.kp, bd, .nil⟩
abbrev rI : Rel := FR (fun ss => ∃ i, ss = [iv i]) (fun _ s => s = bv true)
theorem ok_is_integer (T : Txt K mg) : Cal P w K mg base 1 "is_integer" (Pr K rI) [] := by
  obtain ⟨fd, F⟩ := T.f_is_integer
  refine cal_of F sc_is_integer (T.glo _) (bd_is_integer F) (by rintro ow ss post ⟨_, ⟨i, rfl⟩, _⟩; rfl) fun cdv A outer s H E C D ow ss post hr hR hM Fn Fx => ?_
  obtain ⟨rfl, ⟨i, rfl⟩, hp⟩ := hR
  refine sd_ret Fn ((ed_and2 (ed_isi (ed_var 0) (isi_int kb_int_int) (T.free _) (T.free _) bt_int) fun _ =>
    ed_notV (ed_isi (ed_var 0) (isi_int kb_int_bool) (T.free _) (T.free _) bt_bool))) (List.Sublist.refl _) (hp _ rfl)
def kindB (y : NameKind) : Bool × Bool × Bool := match y with
  | .local => (true, false, false)
  | .cell => (false, true, false)
  | .free => (false, false, true)
  | _ => (false, false, false)
def blkB (N : List Str) (sc scope : Scope) (own : List (Str × Nat)) : Bool :=
  decide (scope.kind = .function) && ((scope.names.all fun y => decide (scope.names.lookup y.1 = some y.2)) && ((own.all fun p => decide (N[p.2]? = some p.1)) && ((scope.names.all fun y => !decide (y.2 = .free) || (decide (sc.names.lookup y.1 = some .cell) || decide (sc.names.lookup y.1 = some .free))) &&
  (scope.names.all fun y => !(decide (y.2 = .local) || decide (y.2 = .cell)) || (decide (y.1 ∈ own.map (·.1)) || decide (y.1 ∉ N))))))
theorem blk {N : List Str} {sc scope : Scope} {own : List (Str × Nat)} (h : blkB N sc scope own = true) : BlkOk N sc scope own := by
  unfold blkB at h
  simp only [Bool.and_eq_true, decide_eq_true_eq, List.all_eq_true, Bool.or_eq_true, Bool.not_eq_true', decide_eq_false_iff_not] at h
  obtain ⟨h1, h2, h3, h4, h5⟩ := h
  refine ⟨h1, h2, h3, fun y hy e => ?_, fun y hy e => ?_⟩
  · exact (h4 y hy).resolve_left fun z => z e
  · refine (h5 y hy).resolve_left fun z => ?_
    simp only [Bool.or_eq_false_iff, decide_eq_false_iff_not] at z
    rcases e with e | e
    · exact z.1 e
    · exact z.2 e
/-- a name -/
def letters : List Nat := ("abcdefghijklmnopqrstuvwxyz" : Str).cps.toList
def digits : List Nat := ("0123456789" : Str).cps.toList
structure NameOk (z : Str) : Prop where
  len : 1 ≤ z.length ∧ z.length ≤ 8
  first : ∃ c, z.cps.toList[0]? = some c ∧ c ∈ letters
  all : ∀ c ∈ z.cps.toList, c ∈ ("abcdefghijklmnopqrstuvwxyz" ++ "0123456789" : Str).cps.toList
/-- a list comprehension's list as data -/
theorem ed_lc {X : Cx} {C : FC} {ow : Ow} {en : En} {elt tg iter : Expr} {ifs : List Expr} {scope : Scope} {pos : Pos} {need : Ow} {n : Nat} {item : Nat → SV → Prop} (own : List (Str × Nat)) (A : Nat → List Sd.D → Prop) (hi : EvI C X ow en tg iter need n item) (hn : n ≤ sizeLine) (hneed : ∀ q ∈ need, q ∈ ow) (h0 : A 0 [])
    (hs : ∀ C', FC.Le C C' → ∀ i s ds, i < n → item i s → A i ds → LcTurn C' X ow en scope own tg elt ifs s (ds.map SV.val) (fun acc => ∃ ds, acc = ds.map SV.val ∧ A (i + 1) ds))
    (hN : X.N.Nodup) (ok : BlkOk X.N X.env.scope scope own) (hc : X.calm = true := by rfl) (hfs : ∀ x, foldedSetIterable iter X.env x = pure x := by intro _; rfl) :
    EvP C X ow en (.ListComp elt [⟨tg, iter, ifs, 0⟩] scope pos) (fun s => ∃ ds, s = .val (.lst ds) ∧ A n ds) :=
  ep_ofN (en_lc own (fun i acc => ∃ ds, acc = ds.map SV.val ∧ A i ds) hi hn hneed ⟨[], rfl, h0⟩ (fun C' le i s acc hi is ⟨ds, e, a⟩ => e ▸ hs C' le i s ds hi is a) hN ok hc hfs) fun oc ⟨acc, e, ds, e2, a⟩ => by
    subst e e2
    exact ⟨_, .lst ds, ds, rfl, a⟩
abbrev rNm : Rel := FR (fun ss => ∃ z, ss = [sv z] ∧ NameOk z) (fun _ s => s = bv true)
theorem map_rep (n : Nat) : (List.replicate n true).map bv = List.replicate n (bv true) := by rw [List.map_replicate]
theorem ok_is_name (T : Txt K mg) : Cal P w K mg base 1 "is_name" (Pr K rNm) [] := by
  obtain ⟨fd, F⟩ := T.f_is_name
  refine cal_of F sc_is_name (T.glo _) (bd_is_name F) (by rintro ow ss post ⟨_, ⟨i, rfl, _⟩, _⟩; rfl) fun cdv A outer s H E C D ow ss post hr hR hM Fn Fx => ?_
  obtain ⟨rfl, ⟨z, rfl, hz⟩, hp⟩ := hR
  obtain ⟨c, hc0, hcl⟩ := hz.first
  have zl : z.length ≤ sizeLine := by rw [sizeLine_eq]; have := hz.len.2; omega
  refine sd_no ((et_or3 (et_not (et_val (ed_isi (ed_var 0) (isi_str kb_str_str) (T.free _) (T.free _) bt_str))) (fun _ => et_not (et_chain ed_int (ep_callB (ea_cons (ed_var 0) ea_nil) (fun ss e => e ▸ cl_lenS zl) (T.free _) bb_len) (fun _ => ed_gInt (T.int "MOST_SIGNS" 8)) cd_le (fun _ => cd_le)))
    (fun _ _ => et_cmp (ep_ixS (P := (· = sv ⟨#[c]⟩)) (ed_var 0) ed_int zl fun y e => ⟨0, c, e, atI_nat (j := 0) hc0, rfl⟩) (ed_gStr (T.str "LETTERS" "abcdefghijklmnopqrstuvwxyz")) cd_notInC)).to ?_) ?_
  · have h1 := hz.len.1
    have h2 := hz.len.2
    have e : decide (c ∈ (("abcdefghijklmnopqrstuvwxyz" : Str)).cps.toList) = true := decide_eq_true hcl
    rw [e]
    simp
    omega
  · refine sdp_ret Fn (P := (· = bv true)) (ep_callB (A := (fun ss => ss = [.val (.lst ((List.replicate z.cps.size true).map Sd.D.bl))])) (eap_cons (ed_lc [("sign", 1)] (fun i ds => ds = (List.replicate i true).map Sd.D.bl) (ei_str (ed_var 0)) (by simpa [Str.length] using zl) (fun q hq => by cases hq) rfl ?_ sc_is_name.nd (blk (N := N_is_name) (sc := fnScope s_is_name) (by decide +kernel))) ea_nil (fun s ss h1 h2 => by
        obtain ⟨ds, e1, e2⟩ := h1
        rw [e1, e2, h2])) (fun ss e => e ▸ ?_) (T.free _) bb_all) fun s e => ⟨[], List.Sublist.refl _, hp _ e⟩
    · rintro C' le i s ds hi ⟨c, hc, rfl⟩ rfl
      refine ⟨[1], _, (· = true), by decide, fun _ _ _ _ _ => tg_name 1 sc_is_name.nd, fun _ _ _ _ _ => ets_nil, fun h => (by cases h), fun _ => ⟨(· = bv true), fun _ _ _ _ _ => (ed_cmp (ed_var 1) (ed_addS (ed_gStr (T.str "LETTERS" "abcdefghijklmnopqrstuvwxyz")) (ed_gStr (T.str "DIGITS" "0123456789")) (by decide +kernel)) cd_inC).is ?_, fun r e => ?_⟩⟩
      · have hm : c ∈ z.cps.toList := by
          rw [Array.getElem?_eq_some_iff] at hc
          obtain ⟨h, e⟩ := hc
          rw [← e]
          exact Array.getElem_mem_toList h
        have h2 := hz.all c hm
        have e : decide (c ∈ (("abcdefghijklmnopqrstuvwxyz" : Str) ++ ("0123456789" : Str)).cps.toList) = true := decide_eq_true h2
        rw [e]
      · subst e
        exact ⟨(List.replicate (i + 1) true).map Sd.D.bl, by rw [List.replicate_succ', List.map_append, List.map_append]; rfl, rfl⟩
    · have := cl_all (C := C) (X := (cxOf L2.CX0 P w K mg base N_is_name d_is_name.qual (fnScope s_is_name) (d_is_name.at_ K) cdv A outer s H E).nox) (ow := []) (en := [sv z] ++ List.replicate (N_is_name.length - [sv z].length) SV.un) (s := .val (.lst ((List.replicate z.cps.size true).map Sd.D.bl))) (bs := List.replicate z.cps.size true) (by
        have := LstOf.lst (ow := []) ((List.replicate z.cps.size true).map Sd.D.bl)
        rwa [List.map_map] at this) rfl
      simpa using this
end
end Tx

/-! text W2 -/
set_option Elab.async false
set_option linter.all false
set_option maxRecDepth 100000
set_option maxHeartbeats 2000000
/-! W2: stations, links: making, reading. -/
namespace Tx
open PySem PySem.Spec PyProof.Rows L2 Sd C8
def oid : Option Int → Sd.D
  | none => .non
  | some i => .int i
section
variable {P : Program} {w : World} {K : Fg} {mg : Str → Option Value} {base : Heap}
theorem ok_check_name (T : Txt K mg) : Cal P w K mg base 2 "check_name" (Pr K (FR (fun ss => ∃ z, ss = [sv z] ∧ NameOk z) (fun _ s => s = nv))) [] := by
  obtain ⟨fd, F⟩ := T.f_check_name
  refine cal_of F sc_check_name (T.glo _) (bd_check_name F) (by rintro ow ss post ⟨_, ⟨i, rfl, _⟩, _⟩; rfl) fun cdv A outer s H E C D ow ss post hr hR hM Fn Fx => ?_
  obtain ⟨rfl, ⟨z, rfl, hz⟩, hp⟩ := hR
  exact sd_no (et_not (et_val (k := true) (ep_callF (ok_is_name T) hr (Nat.le_refl _) (ea_cons (ed_var 0) ea_nil) fun ss e => ⟨⟨z, e, hz⟩, fun s e => e⟩))) (sd_fin Fx (hp _ rfl))
theorem ok_check_flag (T : Txt K mg) : Cal P w K mg base 1 "check_flag" (Pr K (FR (fun ss => ∃ b, ss = [bv b]) (fun _ s => s = nv))) [] := by
  obtain ⟨fd, F⟩ := T.f_check_flag
  refine cal_of F sc_check_flag (T.glo _) (bd_check_flag F) (by rintro ow ss post ⟨_, ⟨i, rfl⟩, _⟩; rfl) fun cdv A outer s H E C D ow ss post hr hR hM Fn Fx => ?_
  obtain ⟨rfl, ⟨z, rfl⟩, hp⟩ := hR
  exact sd_no (et_not (et_val (k := true) (ed_isi (ed_var 0) (isi_bl kb_bool_bool) (T.free _) (T.free _) bt_bool))) (sd_fin Fx (hp _ rfl))
/-! ### Station -/
structure St3 where
  name : Str
  hands : Option Int
  timed : Bool
structure St3.Ok (s : St3) : Prop where
  name : NameOk s.name
  hands : ∀ i, s.hands = some i → 1 ≤ i ∧ i ≤ 4
abbrev St3.sides (s : St3) : Sd.D := .tup [.str s.name, oid s.hands, .bl s.timed]
abbrev dSt (K : Fg) (s : St3) : Sd.D := .ins (He.ga K "Station") ["sides"] [s.sides]
abbrev rStation (K : Fg) : Rel := fun ow ss post => ∃ (p dx : Addr) (s : St3), ow = [(p, .ins (He.ga K "Station") dx [] [])] ∧ ss = [.ptr p, sv s.name, .val (oid s.hands), bv s.timed] ∧ s.Ok ∧ post nv [(p, .ins (He.ga K "Station") dx ["sides"] [.val s.sides])]
theorem ok_Station (T : Txt K mg) : MakK P w K mg base 3 2 "Station" (He.ga K "Station") ["timed"] (Pr K (rStation K)) := by
  obtain ⟨fd, F⟩ := T.f_Station_init
  obtain ⟨its, mv, b⟩ := F.kbinds (ps := p_Station_init) 3 ["timed"] [] (fun us _ _ ws => us ++ ws) (List.cons_ne_nil _ _) (List.cons_ne_nil _ _) (fun q hq => by cases hq) (fun r1 _ _ r4 => r1.append r4)
    (fun U V doc pm an cdv ct us its mv ws h1 h2 h3 h4 => match us, its, mv, ws, h1, h2, h3, h4 with | [_, _, _], [_], [], [_], _, _, _, _ => ⟨_, rfl, rfl⟩)
  refine ⟨_, fd, p_Station_init, _, _, T.mkr _, fn_pr F sc_Station_init ?_ ?_, T.glo _, b, fun vs zs _ _ => rfl⟩
  · rintro ow ss post ⟨p, dx, s, _, rfl, _⟩
    rfl
  · intro cdv A outer sh H E C D ow ss post hr hR hM Fn Fx
    obtain ⟨p, dx, s, rfl, rfl, hs, hp⟩ := hR
    obtain ⟨n, h, t⟩ := s
    refine sd_expr (ep_callF (ok_check_name T) hr (by decide) (ea_cons (ed_var 1) ea_nil) fun ss e => ⟨⟨_, e, hs.name⟩, fun s e => e⟩) ?_
    refine sd_no (EvTP.to (k := !isNon (oid h) && (false || false)) (et_and2 (et_cmp (ed_var 2) ed_non cd_notN) fun hn => ?_) (by simp)) ?_
    · cases h with
      | none => cases hn
      | some i =>
        have hi := hs.hands i rfl
        refine et_or2 (et_not (et_val (k := true) (ep_callF (ok_is_integer T) hr (by decide) (ea_cons (ed_var 2) ea_nil) fun ss e => ⟨⟨_, e⟩, fun s e => e⟩))) fun _ =>
          (et_not (et_chain ed_int (ed_var 2) (fun _ => ed_gInt (T.int "MOST_HANDS" 4)) cd_le fun _ => cd_le)).to (by simp; omega)
    refine sd_expr (ep_callF (ok_check_flag T) hr (by decide) (ea_cons (ed_var 3) ea_nil) fun ss e => ⟨⟨_, e⟩, fun s e => e⟩) ?_
    refine sd_asg (EvP.em (P := (· = .val (St3.sides ⟨n, h, t⟩))) (ed_tup (ea_cons (ed_var 1) (ea_cons (ed_var 2) (ea_cons (ed_var 3) ea_nil)))) fun s e => ?_)
    subst e
    exact tgm_fld (ed_var 0) (T.cls _) (T.noat "Station" "sides") .here (sd_fin Fx hp)
/-! ### Link -/
structure Lk4 where
  src : Str
  tgt : Str
  stock : Int
  early : Bool
structure Lk4.Ok (s : Lk4) : Prop where
  src : NameOk s.src
  tgt : NameOk s.tgt
  stock : 0 ≤ s.stock ∧ s.stock ≤ 5
abbrev Lk4.sides (s : Lk4) : Sd.D := .tup [.str s.src, .str s.tgt, .int s.stock, .bl s.early]
abbrev dLk (K : Fg) (s : Lk4) : Sd.D := .ins (He.ga K "Link") ["sides"] [s.sides]
abbrev rLink (K : Fg) : Rel := fun ow ss post => ∃ (p dx : Addr) (s : Lk4), ow = [(p, .ins (He.ga K "Link") dx [] [])] ∧ ss = [.ptr p, sv s.src, sv s.tgt, iv s.stock, bv s.early] ∧ s.Ok ∧ post nv [(p, .ins (He.ga K "Link") dx ["sides"] [.val s.sides])]
theorem ok_Link (T : Txt K mg) : MakK P w K mg base 3 3 "Link" (He.ga K "Link") ["early"] (Pr K (rLink K)) := by
  obtain ⟨fd, F⟩ := T.f_Link_init
  obtain ⟨its, mv, b⟩ := F.kbinds (ps := p_Link_init) 4 ["early"] [] (fun us _ _ ws => us ++ ws) (List.cons_ne_nil _ _) (List.cons_ne_nil _ _) (fun q hq => by cases hq) (fun r1 _ _ r4 => r1.append r4)
    (fun U V doc pm an cdv ct us its mv ws h1 h2 h3 h4 => match us, its, mv, ws, h1, h2, h3, h4 with | [_, _, _, _], [_], [], [_], _, _, _, _ => ⟨_, rfl, rfl⟩)
  refine ⟨_, fd, p_Link_init, _, _, T.mkr _, fn_pr F sc_Link_init ?_ ?_, T.glo _, b, fun vs zs _ _ => rfl⟩
  · rintro ow ss post ⟨p, dx, s, _, rfl, _⟩
    rfl
  · intro cdv A outer sh H E C D ow ss post hr hR hM Fn Fx
    obtain ⟨p, dx, s, rfl, rfl, hs, hp⟩ := hR
    obtain ⟨a, b, i, t⟩ := s
    have hi := hs.stock
    refine sd_expr (ep_callF (ok_check_name T) hr (by decide) (ea_cons (ed_var 1) ea_nil) fun ss e => ⟨⟨_, e, hs.src⟩, fun s e => e⟩) ?_
    refine sd_expr (ep_callF (ok_check_name T) hr (by decide) (ea_cons (ed_var 2) ea_nil) fun ss e => ⟨⟨_, e, hs.tgt⟩, fun s e => e⟩) ?_
    refine sd_no (EvTP.to (k := (false || false)) (et_or2 (et_not (et_val (k := true) (ep_callF (ok_is_integer T) hr (by decide) (ea_cons (ed_var 3) ea_nil) fun ss e => ⟨⟨_, e⟩, fun s e => e⟩))) fun _ =>
          (et_not (et_chain ed_int (ed_var 3) (fun _ => ed_gInt (T.int "MOST_STOCK" 5)) cd_le fun _ => cd_le)).to (by simp at hi ⊢; omega)) rfl) ?_
    refine sd_expr (ep_callF (ok_check_flag T) hr (by decide) (ea_cons (ed_var 4) ea_nil) fun ss e => ⟨⟨_, e⟩, fun s e => e⟩) ?_
    refine sd_asg (EvP.em (P := (· = .val (Lk4.sides ⟨a, b, i, t⟩))) (ed_tup (ea_cons (ed_var 1) (ea_cons (ed_var 2) (ea_cons (ed_var 3) (ea_cons (ed_var 4) ea_nil))))) fun s e => ?_)
    subst e
    exact tgm_fld (ed_var 0) (T.cls _) (T.noat "Link" "sides") .here (sd_fin Fx hp)
/-! ### what is read off -/
/-- a getter of sides[j] -/
abbrev rSide (Cn : Addr) (j : Nat) : Rel := FR (fun ss => ∃ (ds : List Sd.D) (d : Sd.D), ss = [.val (.ins Cn ["sides"] [.tup ds])] ∧ ds[j]? = some d) (fun ss s => ∀ (ds : List Sd.D) (d : Sd.D), ss = [.val (.ins Cn ["sides"] [.tup ds])] → ds[j]? = some d → s = .val d)
theorem prp_of {x f qual : Str} {params : Arguments} {body : List Stmt} {scope : Scope} {fd : FuncData} {N ps : List Str} {R : Rel} {k : Nat} (T : Txt K mg) (F : FunD K f qual params body scope [] [] (gt K (He.ga K x) f) fd) (S : FnScope N ps scope) (bd : Binds K fd ps [])
    (len : ∀ ow ss post, R ow ss post → ss.length = ps.length)
    (hb : ∀ (cdv : Value) (A : Around) (outer : List Env) (s : Shared) (H : Hp) (E : XK) (C : FC) (D : Ends) (ow : Ow) (ss : List SV) (post : SV → Ow → Prop), Room k (A.deeper (envOfC qual scope s.heap.objs.size (gt K (He.ga K x) f) cdv)) → R ow ss post → C.M = ow.map (·.1) → Fin C K post D → FinN C K post D →
      SD C (cxOf L2.CX0 P w K mg base N qual scope (gt K (He.ga K x) f) cdv A outer s H E).nox ow (ss ++ List.replicate (N.length - ss.length) .un) body D)
    (hc : x ∈ clss := by decide +kernel) (hp : (x, f) ∈ props := by decide +kernel) : Prp P w K mg base (k + 1) (He.ga K x) f (Pr K R) :=
  ⟨_, _, fd, ps, T.cls x hc, T.prop x f hp, fn_pr F S len hb, bd⟩
theorem side_len {Cn : Addr} {j : Nat} : ∀ (ow : Ow) (ss : List SV) (post : SV → Ow → Prop), rSide Cn j ow ss post → ss.length = 1 := by
  rintro ow ss post ⟨_, ⟨ds, d, rfl, _⟩, _⟩
  rfl
theorem side_ret {X : Cx} {C : FC} {Cn : Addr} {j : Nat} {q : Int} {post : SV → Ow → Prop} {D : Ends} {ow : Ow} {ss : List SV} {p1 p2 p3 p4 p5 : Pos} {jj : Nat} (hK : Cls X.K Cn) (hn : NoAttr X.K Cn "sides") (hN : X.N = [("self" : Str)]) (hv : Vis X.env.scope "self") (Fn : Fin C X.K post D) (hR : rSide Cn j ow ss post) (hj : q = (j : Int) := by rfl)
    (hb : attributeBase (.Name "self" p1) "sides" X.env (eval (.Name "self" p1) X.env) = eval (.Name "self" p1) X.env := by rfl) : SD C X ow (ss ++ List.replicate (1 - ss.length) .un) [.Return (some (.Subscript (.Attribute (.Name "self" p1) "sides" p2) (.Constant (.int q) jj p3) p4)) p5] D := by
  obtain ⟨rfl, ⟨ds, d, rfl, hd⟩, hp⟩ := hR
  subst hj
  refine sd_ret Fn (s := .val d) (ed_ixT (ss := ds.map SV.val) (ep_fld (ed_var 0 (hN := by rw [hN]; rfl) (hv := hv)) (.val _ _ _) hK hn rfl hb) ed_int (.tup ds) (atI_nat (by rw [List.getElem?_map, hd]; rfl))) (List.Sublist.refl _) (hp _ fun ds2 d2 e1 e2 => ?_)
  injection e1 with e1
  injection e1 with e1
  injection e1 with _ _ e1
  injection e1 with e1
  injection e1 with e1
  subst e1
  rw [hd] at e2
  cases e2
  rfl
theorem ok_Station_name (T : Txt K mg) : Prp P w K mg base 1 (He.ga K "Station") "name" (Pr K (rSide (He.ga K "Station") 0)) := by
  obtain ⟨fd, F⟩ := T.f_Station_name
  exact prp_of T F sc_Station_name (bd_Station_name F) side_len fun cdv A outer sh H E C D ow ss post hr hR hM Fn Fx => side_ret (T.cls "Station") (T.noat "Station" "sides") rfl (.inl rfl) Fn hR
theorem ok_Station_hands (T : Txt K mg) : Prp P w K mg base 1 (He.ga K "Station") "hands" (Pr K (rSide (He.ga K "Station") 1)) := by
  obtain ⟨fd, F⟩ := T.f_Station_hands
  exact prp_of T F sc_Station_hands (bd_Station_hands F) side_len fun cdv A outer sh H E C D ow ss post hr hR hM Fn Fx => side_ret (T.cls "Station") (T.noat "Station" "sides") rfl (.inl rfl) Fn hR
theorem ok_Station_timed (T : Txt K mg) : Prp P w K mg base 1 (He.ga K "Station") "timed" (Pr K (rSide (He.ga K "Station") 2)) := by
  obtain ⟨fd, F⟩ := T.f_Station_timed
  exact prp_of T F sc_Station_timed (bd_Station_timed F) side_len fun cdv A outer sh H E C D ow ss post hr hR hM Fn Fx => side_ret (T.cls "Station") (T.noat "Station" "sides") rfl (.inl rfl) Fn hR
theorem ok_Link_source (T : Txt K mg) : Prp P w K mg base 1 (He.ga K "Link") "source" (Pr K (rSide (He.ga K "Link") 0)) := by
  obtain ⟨fd, F⟩ := T.f_Link_source
  exact prp_of T F sc_Link_source (bd_Link_source F) side_len fun cdv A outer sh H E C D ow ss post hr hR hM Fn Fx => side_ret (T.cls "Link") (T.noat "Link" "sides") rfl (.inl rfl) Fn hR
theorem ok_Link_target (T : Txt K mg) : Prp P w K mg base 1 (He.ga K "Link") "target" (Pr K (rSide (He.ga K "Link") 1)) := by
  obtain ⟨fd, F⟩ := T.f_Link_target
  exact prp_of T F sc_Link_target (bd_Link_target F) side_len fun cdv A outer sh H E C D ow ss post hr hR hM Fn Fx => side_ret (T.cls "Link") (T.noat "Link" "sides") rfl (.inl rfl) Fn hR
theorem ok_Link_stock (T : Txt K mg) : Prp P w K mg base 1 (He.ga K "Link") "stock" (Pr K (rSide (He.ga K "Link") 2)) := by
  obtain ⟨fd, F⟩ := T.f_Link_stock
  exact prp_of T F sc_Link_stock (bd_Link_stock F) side_len fun cdv A outer sh H E C D ow ss post hr hR hM Fn Fx => side_ret (T.cls "Link") (T.noat "Link" "sides") rfl (.inl rfl) Fn hR
theorem ok_Link_early (T : Txt K mg) : Prp P w K mg base 1 (He.ga K "Link") "early" (Pr K (rSide (He.ga K "Link") 3)) := by
  obtain ⟨fd, F⟩ := T.f_Link_early
  exact prp_of T F sc_Link_early (bd_Link_early F) side_len fun cdv A outer sh H E C D ow ss post hr hR hM Fn Fx => side_ret (T.cls "Link") (T.noat "Link" "sides") rfl (.inl rfl) Fn hR
theorem ok_Line_stations (T : Txt K mg) : Prp P w K mg base 1 (He.ga K "Line") "stations" (Pr K (rSide (He.ga K "Line") 0)) := by
  obtain ⟨fd, F⟩ := T.f_Line_stations
  exact prp_of T F sc_Line_stations (bd_Line_stations F) side_len fun cdv A outer sh H E C D ow ss post hr hR hM Fn Fx => side_ret (T.cls "Line") (T.noat "Line" "sides") rfl (.inl rfl) Fn hR
theorem ok_Line_links (T : Txt K mg) : Prp P w K mg base 1 (He.ga K "Line") "links" (Pr K (rSide (He.ga K "Line") 1)) := by
  obtain ⟨fd, F⟩ := T.f_Line_links
  exact prp_of T F sc_Line_links (bd_Line_links F) side_len fun cdv A outer sh H E C D ow ss post hr hR hM Fn Fx => side_ret (T.cls "Line") (T.noat "Line" "sides") rfl (.inl rfl) Fn hR
theorem ok_Line_outlet (T : Txt K mg) : Prp P w K mg base 1 (He.ga K "Line") "outlet" (Pr K (rSide (He.ga K "Line") 2)) := by
  obtain ⟨fd, F⟩ := T.f_Line_outlet
  exact prp_of T F sc_Line_outlet (bd_Line_outlet F) side_len fun cdv A outer sh H E C D ow ss post hr hR hM Fn Fx => side_ret (T.cls "Line") (T.noat "Line" "sides") rfl (.inl rfl) Fn hR
end
end Tx

/-! text Sd10 -/
set_option Elab.async false
set_option linter.all false
set_option maxRecDepth 100000
set_option maxHeartbeats 2000000
/-! Sd10: more statements. -/
namespace Sd
open PySem PySem.Spec PyProof.Rows L2
section
variable {C : FC} {X : Cx} {ow ow' ow1 owA : Ow} {en en' : En} {a b c e o tg iter elt : Expr} {es tgs : List Expr} {ifs : List Expr} {pos pos' p0 p2 apos : Pos} {P P' Pa Pb Pc : SV → Prop} {x y m f : Str} {rest body : List Stmt} {D : Ends} {st : Stmt} {s t : SV} {ss : List SV} {i : Int} {Q' : SV → Ow → Prop} {scope : Scope}
theorem FrL.put {p : Addr} {d : Sd.D} : ∀ {en : En} {j : Nat}, FrL p d (en.set j (.ptr p)) (en.set j (.val d))
  | [], _ => .nil
  | _ :: _, 0 => .cons (.inr ⟨rfl, rfl⟩) FrL.same
  | _ :: _, _ + 1 => .cons (.inl rfl) FrL.put
theorem seqS {ow : Ow} (zs : List Str) : SeqOf ow (.val (.lst (zs.map Sd.D.str))) (zs.map sv) := by
  have := SeqOf.lst (ow := ow) (zs.map Sd.D.str)
  rwa [List.map_map] at this
theorem seqTS {ow : Ow} (zs : List Str) : SeqOf ow (.val (.tup (zs.map Sd.D.str))) (zs.map sv) := by
  have := SeqOf.tup (ow := ow) (zs.map Sd.D.str)
  rwa [List.map_map] at this
theorem seqTI {ow : Ow} (zs : List Int) : SeqOf ow (.val (.tup (zs.map Sd.D.int))) (zs.map iv) := by
  have := SeqOf.tup (ow := ow) (zs.map Sd.D.int)
  rwa [List.map_map] at this
theorem lstS {ow : Ow} (zs : List Str) : LstOf ow (.val (.lst (zs.map Sd.D.str))) (zs.map sv) := by
  have := LstOf.lst (ow := ow) (zs.map Sd.D.str)
  rwa [List.map_map] at this
theorem lstI {ow : Ow} (zs : List Int) : LstOf ow (.val (.lst (zs.map Sd.D.int))) (zs.map iv) := by
  have := LstOf.lst (ow := ow) (zs.map Sd.D.int)
  rwa [List.map_map] at this
theorem lstB {ow : Ow} (zs : List Bool) : LstOf ow (.val (.lst (zs.map Sd.D.bl))) (zs.map bv) := by
  have := LstOf.lst (ow := ow) (zs.map Sd.D.bl)
  rwa [List.map_map] at this
/-- y = [..], as data -/
theorem sd_setLcD {need : Ow} {n : Nat} {item : Nat → SV → Prop} {y : Str} {py spos : Pos} (j : Nat) (own : List (Str × Nat)) (A : Nat → List Sd.D → Prop) (hi : EvI C X ow en tg iter need n item) (hn : n ≤ sizeLine) (hneed : ∀ q ∈ need, q ∈ ow) (h0 : A 0 [])
    (hs : ∀ C', FC.Le C C' → ∀ i s ds, i < n → item i s → A i ds → LcTurn C' X ow en scope own tg elt ifs s (ds.map SV.val) (fun acc => ∃ ds, acc = ds.map SV.val ∧ A (i + 1) ds))
    (k : ∀ ds, A n ds → SD C X ow (en.set j (.val (.lst ds))) rest D) (hM : ∀ a ∈ C.M, a ∈ ow.map (·.1))
    (hN : X.N.Nodup) (ok : BlkOk X.N X.env.scope scope own) (hy : X.N[j]? = some y := by rfl) (hyl : X.env.scope.names.lookup y = some .local := by rfl)
    (hsw : swapsWith (.ListComp elt [⟨tg, iter, ifs, 0⟩] scope pos) (some (.Name y py)) spos.line X.env = pure true := by exact sw_true rfl rfl rfl (by decide +kernel)) (hc : X.calm = true := by rfl) (hfs : ∀ x, foldedSetIterable iter X.env x = pure x := by intro _; rfl) :
    SD C X ow en (.Assign [.Name y py] (.ListComp elt [⟨tg, iter, ifs, 0⟩] scope pos) spos :: rest) D :=
  sd_setLc j own (fun i acc => ∃ ds, acc = ds.map SV.val ∧ A i ds) hi hn hneed ⟨[], rfl, h0⟩ (fun C' le i s acc hi is ⟨ds, e, a⟩ => e ▸ hs C' le i s ds hi is a)
    (fun p acc ⟨ds, e, a⟩ => by
      subst e
      exact sd_freeze .here (.lst ds) hM FrW.same FrL.put (k ds a)) hN ok hy hyl hsw hc hfs
theorem EvN.is {A B : OC → Prop} (h : EvN C X ow en e A) (k : ∀ oc, A oc → B oc) : EvN C X ow en e B := ⟨fun B σ H S Q q => h.run B σ H S Q fun p oc B' H' pa n => q p oc B' H' (k oc pa) n⟩
/-- behind an if -/
theorem sd_back {D' : Ends} (e : D.nx = fun σ H => WS X rest D' σ H) (h : SD C X ow en rest D') : SD C X ow en [] D := sd_go h e
/-- y = [..], a cell -/
theorem sd_setD (j : Nat) (he : EvP C X ow en e (fun s => SD C X ow (en.set j s) rest D)) (hN : X.N.Nodup) (hi : X.N[j]? = some x := by rfl) (hx : Loc X.env.scope x := by first | exact Or.inl rfl | exact Or.inr rfl)
    (hs : swapsWith e (some (.Name x pos')) pos.line X.env = pure false := by rfl) (hf : X.fn x = true ∨ X.env.scope.names.lookup x = some .local := by first | exact .inl rfl | exact .inr rfl) : SD C X ow en (.Assign [.Name x pos'] e pos :: rest) D :=
  sdp_set j he (fun _ p => p) hN hi hx hs hf
/-- plain defs by their inputs -/
abbrev FX {α : Type} (args : α → List SV) (pre : α → Prop) (res : α → SV → Prop) : Rel := fun ow ss post => ow = [] ∧ ∃ x : α, ss = args x ∧ pre x ∧ ∀ s, res x s → post s []
section
variable {α : Type} {args : α → List SV} {pre : α → Prop} {res : α → SV → Prop} {k j : Nat} {Cc : Addr}
theorem ep_callX {A : List SV → Prop} (cal : C8.Cal X.prog X.w X.K X.mg X.base k x (Pr X.K (FX args pre res)) []) (hr : Room j X.A) (hk : k ≤ j) (ha : EvA C X ow en (e :: es) A)
    (h : ∀ ss, A ss → ∃ x, ss = args x ∧ pre x ∧ ∀ s, res x s → P s) (hg : Gl X x := by rfl)
    (hdb : (x == ("__debug__" : Str)) = false := by decide) (he : starEach (e :: es) X.env = (false, eval e X.env) :: starEach es X.env := by rfl) (hpl : (backTo pos (starEach es X.env)).any (·.1) = false := by rfl) :
    EvP C X ow en (.Call (.Name x p0) (e :: es) [] pos) P :=
  ep_call (dd := []) cal hr hk ha (fun _ => RpSL.nil) (fun ss q => by
    obtain ⟨z, e1, e2, e3⟩ := h ss q
    exact ⟨[], fun s ow' => ow' = [] ∧ res z s, List.nil_sublist _, ⟨rfl, z, by rw [List.append_nil]; exact e1, e2, fun s hs => ⟨rfl, hs⟩⟩, fun s ow' hs => ⟨hs.1, e3 s hs.2⟩⟩) hg hdb he hpl
theorem ep_propX {ks : List Str} {so : SV} (c : Prp X.prog X.w X.K X.mg X.base k Cc f (Pr X.K (FX args pre res))) (hr : Room j X.A) (hk : k + 1 ≤ j) (ho : EvD C X ow en o so) (hi : InsOf ow so Cc ks ss)
    (h : ∃ x, [so] = args x ∧ pre x ∧ ∀ s, res x s → P s) (hb : attributeBase o f X.env (eval o X.env) = eval o X.env := by rfl) : EvP C X ow en (.Attribute o f pos) P := by
  obtain ⟨z, e1, e2, e3⟩ := h
  exact ep_prop c hr hk ho hi ⟨[], fun s ow' => ow' = [] ∧ res z s, List.nil_sublist _, ⟨rfl, z, e1, e2, fun s hs => ⟨rfl, hs⟩⟩, fun s ow' hs => ⟨hs.1, e3 s hs.2⟩⟩ hb
theorem ep_methX {pl : Sem Bool} {ks : List Str} {so : SV} {A : List SV → Prop} (c : C8.Met X.prog X.w X.K X.mg X.base k Cc m (Pr X.K (FX args pre res)) []) (hr : Room j X.A) (hk : k ≤ j) (ho : EvD C X ow en o so) (hi : InsOf ow so Cc ks ss) (hm : m ∉ ks)
    (ha : EvA C X ow en (e :: es) A) (h : ∀ ts, A ts → ∃ x, so :: ts = args x ∧ pre x ∧ ∀ s, res x s → P s)
    (hst : starEach (e :: es) X.env = (false, eval e X.env) :: starEach es X.env := by rfl) (hpl : (backTo pos (starEach es X.env)).any (·.1) = false := by rfl)
    (ht : eval (.Call (.Attribute o m apos) (e :: es) [] pos) X.env = (do
      let ov ← eval o X.env
      standAt apos.atName
      let (f, first) ← holding [ov] (getMethod ov m pl)
      callWith pos f first (backTo pos (starEach (e :: es) X.env)) (backToKw pos (keywordEach [] X.env))) := by rfl) : EvP C X ow en (.Call (.Attribute o m apos) (e :: es) [] pos) P :=
  ep_meth (pl := pl) c hr hk ho hi hm ha (fun ts q => by
    obtain ⟨z, e1, e2, e3⟩ := h ts q
    exact ⟨[], fun s ow' => ow' = [] ∧ res z s, List.nil_sublist _, ⟨rfl, z, e1, e2, fun s hs => ⟨rfl, hs⟩⟩, fun s ow' hs => ⟨hs.1, e3 s hs.2⟩⟩) hst hpl ht
theorem ep_methX0 {pl : Sem Bool} {ks : List Str} {so : SV} (c : C8.Met X.prog X.w X.K X.mg X.base k Cc m (Pr X.K (FX args pre res)) []) (hr : Room j X.A) (hk : k ≤ j) (ho : EvD C X ow en o so) (hi : InsOf ow so Cc ks ss) (hm : m ∉ ks)
    (h : ∃ x, [so] = args x ∧ pre x ∧ ∀ s, res x s → P s)
    (ht : eval (.Call (.Attribute o m apos) [] [] pos) X.env = (do
      let ov ← eval o X.env
      standAt apos.atName
      let (f, first) ← holding [ov] (getMethod ov m pl)
      callWith pos f first (backTo pos (starEach [] X.env)) (backToKw pos (keywordEach [] X.env))) := by rfl) : EvP C X ow en (.Call (.Attribute o m apos) [] [] pos) P := by
  obtain ⟨z, e1, e2, e3⟩ := h
  exact ep_meth0 (pl := pl) c hr hk ho hi hm ⟨[], fun s ow' => ow' = [] ∧ res z s, List.nil_sublist _, ⟨rfl, z, e1, e2, fun s hs => ⟨rfl, hs⟩⟩, fun s ow' hs => ⟨hs.1, e3 s hs.2⟩⟩ ht
end
end
end Sd

/-! text W3 -/
set_option Elab.async false
set_option linter.all false
set_option maxRecDepth 100000
set_option maxHeartbeats 2000000
/-! W3: lines: checks, making, reading. -/
namespace Tx
open PySem PySem.Spec PyProof.Rows L2 Sd C8
structure Ln where
  sts : List St3
  lks : List Lk4
  out : Str
abbrev Ln.names (L : Ln) : List Str := L.sts.map (·.name)
abbrev dTs (K : Fg) (l : List St3) : Sd.D := .tup (l.map (dSt K))
abbrev dTl (K : Fg) (l : List Lk4) : Sd.D := .tup (l.map (dLk K))
abbrev Ln.sides (K : Fg) (L : Ln) : Sd.D := .tup [dTs K L.sts, dTl K L.lks, .str L.out]
abbrev dLn (K : Fg) (L : Ln) : Sd.D := .ins (He.ga K "Line") ["sides"] [L.sides K]
structure Ln.Ok (L : Ln) : Prop where
  nd : L.names.Nodup
  n1 : 1 ≤ L.sts.length ∧ L.sts.length ≤ 6
  n2 : L.lks.length ≤ 12
  ends : ∀ l ∈ L.lks, l.src ∈ L.names ∧ l.tgt ∈ L.names
  out : L.out ∈ L.names
theorem fresh_at {α β : Type} {f : α → β} : ∀ {l : List α} {i : Nat} {x y : α}, (l.map f).Nodup → l[i]? = some x → y ∈ l.take i → f y = f x → False
  | [], _, _, _, _, h, _, _ => by simp at h
  | a :: l, 0, _, _, _, _, h, _ => by simp at h
  | a :: l, i + 1, x, y, nd, h, hy, e => by
    rw [List.map_cons, List.nodup_cons] at nd
    rw [List.getElem?_cons_succ] at h
    rw [List.take_succ_cons] at hy
    rcases List.mem_cons.mp hy with q | hy
    · subst q
      exact nd.1 (List.mem_map.mpr ⟨x, List.mem_of_getElem? h, e.symm⟩)
    · exact fresh_at nd.2 h hy e
section
variable {P : Program} {w : World} {K : Fg} {mg : Str → Option Value} {base : Heap}
theorem ed_side {X : Cx} {C : FC} {ow : Ow} {en : En} {o : Expr} {pos : Pos} {Cn : Addr} {f : Str} {i k j : Nat} {ds : List Sd.D} {d : Sd.D} (c : Prp X.prog X.w X.K X.mg X.base k Cn f (Pr X.K (rSide Cn i))) (hr : Room j X.A) (hk : k + 1 ≤ j) (ho : EvD C X ow en o (.val (.ins Cn ["sides"] [.tup ds]))) (hd : ds[i]? = some d)
    (hb : attributeBase o f X.env (eval o X.env) = eval o X.env := by rfl) : EvD C X ow en (.Attribute o f pos) (.val d) :=
  ep_propF c hr hk ho (.val _ _ _) ⟨⟨ds, d, rfl, hd⟩, fun s h => h ds d rfl hd⟩ hb
theorem ok_check_stations (T : Txt K mg) : Cal P w K mg base 3 "check_stations" (Pr K (FR (fun ss => ∃ l : List St3, ss = [.val (dTs K l)] ∧ (l.map (·.name)).Nodup ∧ 1 ≤ l.length ∧ l.length ≤ 6) (fun _ s => s = nv))) [] := by
  obtain ⟨fd, F⟩ := T.f_check_stations
  refine cal_of F sc_check_stations (T.glo _) (bd_check_stations F) (by rintro ow ss post ⟨_, ⟨i, rfl, _⟩, _⟩; rfl) fun cdv A outer sh H E C D ow ss post hr hR hM Fn Fx => ?_
  obtain ⟨rfl, ⟨l, rfl, hnd, h1, h6⟩, hp⟩ := hR
  have nd := sc_check_stations.nd
  refine sd_no ((et_or2 (et_not (et_val (k := true) (ed_isi (ed_var 0) (isi_tup kb_tuple_tuple) (T.free _) (T.free _) bt_tuple))) fun _ => et_cmp (ep_callB (ea_cons (ed_var 0) ea_nil) (fun ss e => e ▸ cl_len (.tup _)) (T.free _) bb_len) ed_int cd_eqI).to (by simp; intro h; subst h; simp at h1)) ?_
  refine sd_setN 1 (A := (· = .lst [])) (en_lst ea_nil) (fun p oc e => ?_) nd
  subst e
  refine sd_for (fun i ow en => ∃ a b, ow = [(p, .lst (((l.take i).map (·.name)).map sv))] ∧ en = [.val (dTs K l), .ptr p, a, b]) PassesOwn.never rfl (ei_enumT (ed_var 0) (T.free _)) ⟨.un, .un, rfl, rfl⟩ (fun _ _ _ _ q hq => by cases hq) ?_ ?_
  · rintro C' le i s ow en hi ⟨a, b, rfl, rfl⟩ ⟨d, hd, rfl⟩
    rw [List.length_map] at hi
    have hs : l[i]? = some l[i] := List.getElem?_eq_getElem hi
    rw [List.getElem?_map, hs] at hd
    cases hd
    generalize hx : l[i] = x at hs
    refine ⟨_, _, tg_tup rfl (tgs_cons (tg_name 2 nd) (tgs_cons (tg_name 3 nd) tgs_nil)), ?_⟩
    have hin : x.name ∉ (l.take i).map (·.name) := fun hm => by
      obtain ⟨y, hy, e⟩ := List.mem_map.mp hm
      exact fresh_at hnd hs hy e
    refine sd_no ((et_or3 (et_cmp (ed_var 2) (ed_gInt (T.int "MOST_STATIONS" 6)) cd_ge) (fun _ => et_not (et_val (k := true) (ed_isC (ed_var 3) (.val _ _ _) (T.ins "Station") (T.free _) (T.glo "Station")))) fun _ _ => et_cmp (ed_side (ok_Station_name T) hr (by decide) (ed_var 3) rfl) (ed_var 1) (cd_inS (.own p _ (List.mem_singleton.mpr rfl)))).to (by rw [decide_eq_false hin]; simp; omega)) ?_
    refine sd_exprM (em_append (ed_var 1) (ed_side (ok_Station_name T) hr (by decide) (ed_var 3) rfl) (List.mem_singleton.mpr rfl) (by rw [sizeLine_eq]; simp; omega) fun s e => ⟨_, .here, ?_⟩)
    subst e
    refine sd_stop rfl ⟨_, _, ?_, rfl⟩
    rw [List.take_add_one, hs]
    simp
  · rintro ow en ⟨a, b, rfl, rfl⟩
    exact (sd_fin Fx (hp _ rfl)).drop (List.nil_sublist _)
theorem ok_check_links (T : Txt K mg) : Cal P w K mg base 3 "check_links" (Pr K (FR (fun ss => ∃ (l : List Lk4) (ns : List Str), ss = [.val (dTl K l), .val (.lst (ns.map Sd.D.str))] ∧ l.length ≤ 12 ∧ ∀ x ∈ l, x.src ∈ ns ∧ x.tgt ∈ ns) (fun _ s => s = nv))) [] := by
  obtain ⟨fd, F⟩ := T.f_check_links
  refine cal_of F sc_check_links (T.glo _) (bd_check_links F) (by rintro ow ss post ⟨_, ⟨i, _, rfl, _⟩, _⟩; rfl) fun cdv A outer sh H E C D ow ss post hr hR hM Fn Fx => ?_
  obtain ⟨rfl, ⟨l, ns, rfl, h1, h2⟩, hp⟩ := hR
  have nd := sc_check_links.nd
  refine sd_no (et_not (et_val (k := true) (ed_isi (ed_var 0) (isi_tup kb_tuple_tuple) (T.free _) (T.free _) bt_tuple))) ?_
  refine sd_for (fun i ow en => ∃ a b, ow = [] ∧ en = [.val (dTl K l), .val (.lst (ns.map Sd.D.str)), a, b]) PassesOwn.never rfl (ei_enumT (ed_var 0) (T.free _)) ⟨.un, .un, rfl, rfl⟩ (fun _ _ _ _ q hq => by cases hq) ?_ ?_
  · rintro C' le i s ow en hi ⟨a, b, rfl, rfl⟩ ⟨d, hd, rfl⟩
    rw [List.length_map] at hi
    have hs : l[i]? = some l[i] := List.getElem?_eq_getElem hi
    rw [List.getElem?_map, hs] at hd
    cases hd
    have hx2 := h2 l[i] (List.getElem_mem hi)
    generalize hx : l[i] = x at hs hx2
    refine ⟨_, _, tg_tup rfl (tgs_cons (tg_name 2 nd) (tgs_cons (tg_name 3 nd) tgs_nil)), ?_⟩
    refine sd_no ((et_or2 (et_cmp (ed_var 2) (ed_gInt (T.int "MOST_LINKS" 12)) cd_ge) (fun _ => et_not (et_val (k := true) (ed_isC (ed_var 3) (.val _ _ _) (T.ins "Link") (T.free _) (T.glo "Link"))))).to (by simp; omega)) ?_
    refine sd_no ((et_or2 (et_cmp (ed_side (ok_Link_source T) hr (by decide) (ed_var 3) rfl) (ed_var 1) (cd_notInS (seqS _))) (fun _ => et_cmp (ed_side (ok_Link_target T) hr (by decide) (ed_var 3) rfl) (ed_var 1) (cd_notInS (seqS _)))).to (by simp [hx2.1, hx2.2])) ?_
    exact sd_stop rfl ⟨_, _, rfl, rfl⟩
  · rintro ow en ⟨a, b, rfl, rfl⟩
    exact sd_fin Fx (hp _ rfl)
theorem ok_check_line (T : Txt K mg) : Cal P w K mg base 1 "check_line" (Pr K (FR (fun ss => ∃ L, ss = [.val (dLn K L)]) (fun _ s => s = nv))) [] := by
  obtain ⟨fd, F⟩ := T.f_check_line
  refine cal_of F sc_check_line (T.glo _) (bd_check_line F) (by rintro ow ss post ⟨_, ⟨i, rfl⟩, _⟩; rfl) fun cdv A outer sh H E C D ow ss post hr hR hM Fn Fx => ?_
  obtain ⟨rfl, ⟨z, rfl⟩, hp⟩ := hR
  exact sd_no (et_not (et_val (k := true) (ed_isC (ed_var 0) (.val _ _ _) (T.ins "Line") (T.free _) (T.glo "Line")))) (sd_fin Fx (hp _ rfl))
/-- [station.name for station in ..] -/
theorem getE_map {α β : Type} {f : α → β} {l : List α} {i : Nat} {d : β} (h : (l.map f)[i]? = some d) : ∃ x, l[i]? = some x ∧ d = f x := by
  rw [List.getElem?_map] at h
  obtain ⟨x, h1, h2⟩ := Option.map_eq_some_iff.mp h
  exact ⟨x, h1, h2.symm⟩
theorem take_succ_map {α β : Type} {f : α → β} {l : List α} {i : Nat} {x : α} (h : l[i]? = some x) : (l.take (i + 1)).map f = (l.take i).map f ++ [f x] := by
  rw [List.take_add_one, h]
  simp
theorem ok_Line (T : Txt K mg) : Mak P w K mg base 4 "Line" (He.ga K "Line") (Pr K fun ow ss post => ∃ (p dx : Addr) (L : Ln), ow = [(p, .ins (He.ga K "Line") dx [] [])] ∧ ss = [.ptr p, .val (dTs K L.sts), .val (dTl K L.lks), sv L.out] ∧ L.Ok ∧ post nv [(p, .ins (He.ga K "Line") dx ["sides"] [.val (L.sides K)])]) [] := by
  obtain ⟨fd, F⟩ := T.f_Line_init
  refine ⟨_, fd, p_Line_init, [], T.mkr _, fn_pr F sc_Line_init ?_ ?_, T.glo _, bd_Line_init F, .nil⟩
  · rintro ow ss post ⟨p, dx, s, _, rfl, _⟩
    rfl
  · intro cdv A outer sh H E C D ow ss post hr hR hM Fn Fx
    obtain ⟨p, dx, L, rfl, rfl, hL, hp⟩ := hR
    have nd := sc_Line_init.nd
    refine sd_expr (ep_callF (ok_check_stations T) hr (by decide) (ea_cons (ed_var 1) ea_nil) fun ss e => ⟨⟨_, e, hL.nd, hL.n1⟩, fun s e => e⟩) ?_
    refine sd_setLcD 4 [("station", 5)] (fun i ds => ds = ((L.sts.take i).map (·.name)).map Sd.D.str) (ei_tup (ed_var 1)) (by rw [sizeLine_eq, List.length_map]; have := hL.n1; omega) (fun q hq => by cases hq) rfl ?_ ?_ (by rw [hM]; simp) nd (blk (N := N_Line_init) (sc := fnScope s_Line_init) (by decide +kernel))
    · rintro C' le i s ds hi ⟨d, hd, rfl⟩ rfl
      obtain ⟨x, hx, rfl⟩ := getE_map hd
      refine ⟨[5], _, (· = true), by decide, fun _ _ _ _ _ => tg_name 5 nd, fun _ _ _ _ _ => ets_nil, fun h => (by cases h), fun _ => ⟨_, fun _ _ _ _ _ => ed_side (ok_Station_name T) hr (by decide) (ed_var 5) rfl, fun r e => ?_⟩⟩
      subst e
      exact ⟨((L.sts.take (i + 1)).map (·.name)).map Sd.D.str, by rw [take_succ_map hx]; simp, rfl⟩
    · rintro ds rfl
      rw [List.length_map, List.take_length]
      refine sd_expr (ep_callF (ok_check_links T) hr (by decide) (ea_cons (ed_var 2) (ea_cons (ed_var 4) ea_nil)) fun ss e => ⟨⟨_, _, e, hL.n2, hL.ends⟩, fun s e => e⟩) ?_
      refine sd_no ((et_or2 (et_not (et_val (k := true) (ed_isi (ed_var 3) (isi_str kb_str_str) (T.free _) (T.free _) bt_str))) (fun _ => et_cmp (ed_var 3) (ed_var 4) (cd_notInS (seqS _)))).to (by simp only [hL.out, decide_true]; rfl)) ?_
      refine sd_asg (EvP.em (P := (· = .val (L.sides K))) (ed_tup (ea_cons (ed_var 1) (ea_cons (ed_var 2) (ea_cons (ed_var 3) ea_nil)))) fun s e => ?_)
      subst e
      exact tgm_fld (ed_var 0) (T.cls _) (T.noat "Line" "sides") .here (sd_fin Fx hp)
/-! ### a line's sides -/
theorem ok_Line_names (T : Txt K mg) : Prp P w K mg base 3 (He.ga K "Line") "names" (Pr K (FX (fun L : Ln => [.val (dLn K L)]) (fun L => L.sts.length ≤ 6) (fun L s => s = .val (.tup (L.names.map Sd.D.str))))) := by
  obtain ⟨fd, F⟩ := T.f_Line_names
  refine prp_of T F sc_Line_names (bd_Line_names F) (by rintro ow ss post ⟨_, L, rfl, _⟩; rfl) fun cdv A outer sh H E C D ow ss post hr hR hM Fn Fx => ?_
  obtain ⟨rfl, L, rfl, h6, hp⟩ := hR
  have nd := sc_Line_names.nd
  refine sdp_ret Fn (P := (· = .val (.tup (L.names.map Sd.D.str)))) (ep_callTy (A := (· = [.val (.lst (L.names.map Sd.D.str))])) (eap_cons (ed_lc [("station", 1)] (fun i ds => ds = ((L.sts.take i).map (·.name)).map Sd.D.str) (ei_tup (ed_ixT (ep_fld (ed_var 0) (.val _ _ _) (T.cls _) (T.noat "Line" "sides") rfl) ed_int (.tup _) (atI_nat (j := 0) rfl))) (by rw [sizeLine_eq, List.length_map]; omega) (fun q hq => by cases hq) rfl ?_ nd (blk (N := N_Line_names) (sc := fnScope s_Line_names) (by decide +kernel))) ea_nil (fun s ss h1 h2 => by
        obtain ⟨ds, e1, e2⟩ := h1
        rw [e1, e2, h2, List.length_map, List.take_length])) (fun ss e => e ▸ cl_tuple (.lst _)) (T.free _) bt_tuple) fun s e => ⟨[], List.Sublist.refl _, hp _ e⟩
  · rintro C' le i s ds hi ⟨d, hd, rfl⟩ rfl
    obtain ⟨x, hx, rfl⟩ := getE_map hd
    refine ⟨[1], _, (· = true), by decide, fun _ _ _ _ _ => tg_name 1 nd, fun _ _ _ _ _ => ets_nil, fun h => (by cases h), fun _ => ⟨_, fun _ _ _ _ _ => ed_side (ok_Station_name T) hr (by decide) (ed_var 1) rfl, fun r e => ?_⟩⟩
    subst e
    exact ⟨((L.sts.take (i + 1)).map (·.name)).map Sd.D.str, by rw [take_succ_map hx]; simp, rfl⟩
theorem ok_Line_timed (T : Txt K mg) : Prp P w K mg base 3 (He.ga K "Line") "timed" (Pr K (FX (fun L : Ln => [.val (dLn K L)]) (fun L => L.sts.length ≤ 6) (fun L s => ∃ zs : List Str, s = .val (.tup (zs.map Sd.D.str)) ∧ zs.Perm ((L.sts.filter (·.timed)).map (·.name)) ∧ sortedS zs = true))) := by
  obtain ⟨fd, F⟩ := T.f_Line_timed
  refine prp_of T F sc_Line_timed (bd_Line_timed F) (by rintro ow ss post ⟨_, L, rfl, _⟩; rfl) fun cdv A outer sh H E C D ow ss post hr hR hM Fn Fx => ?_
  obtain ⟨rfl, L, rfl, h6, hp⟩ := hR
  have nd := sc_Line_timed.nd
  refine sdp_ret Fn (P := fun s => ∃ zs : List Str, s = .val (.tup (zs.map Sd.D.str)) ∧ zs.Perm ((L.sts.filter (·.timed)).map (·.name)) ∧ sortedS zs = true) (ep_callTy (A := (fun ss => ∃ zs : List Str, ss = [.val (.lst (zs.map Sd.D.str))] ∧ zs.Perm ((L.sts.filter (·.timed)).map (·.name)) ∧ sortedS zs = true))
    (eap_cons (ep_ofN (P := fun s => ∃ zs : List Str, s = .val (.lst (zs.map Sd.D.str)) ∧ zs.Perm ((L.sts.filter (·.timed)).map (·.name)) ∧ sortedS zs = true) (en_callB (A := (· = [.val (.lst (((L.sts.filter (·.timed)).map (·.name)).map Sd.D.str))])) (eap_cons
      (ed_lc [("station", 1)] (fun i ds => ds = (((L.sts.take i).filter (·.timed)).map (·.name)).map Sd.D.str) (ei_tup (ed_ixT (ep_fld (ed_var 0) (.val _ _ _) (T.cls _) (T.noat "Line" "sides") rfl) ed_int (.tup _) (atI_nat (j := 0) rfl))) (by rw [sizeLine_eq, List.length_map]; omega) (fun q hq => by cases hq) rfl ?_ nd (blk (N := N_Line_timed) (sc := fnScope s_Line_timed) (by decide +kernel)))
      ea_nil (fun s ss h1 h2 => by
        obtain ⟨ds, e1, e2⟩ := h1
        rw [e1, e2, h2, List.length_map, List.take_length])) (fun ss e => e ▸ cn_sortedS (lstS _) (by
          rw [List.length_map]
          have := List.length_filter_le (fun x : St3 => x.timed) L.sts
          omega)) (T.free _) bb_sorted) (fun oc ⟨zs, e, h1, h2⟩ => ⟨.lst (zs.map Sd.D.str), by
            subst e
            have := ShOf.lst (zs.map Sd.D.str)
            rwa [List.map_map] at this, zs, rfl, h1, h2⟩)) ea_nil fun s ss ⟨zs, e, h1, h2⟩ h3 => ⟨zs, by rw [e, h3], h1, h2⟩)
    (fun ss ⟨zs, e, h1, h2⟩ => e ▸ ⟨(cl_tuple (.lst _)).ex.imp fun r h => ⟨h.1, fun B σ H vs S rs Q q => h.2 B σ H vs S rs Q fun z s B' H' p n r => q z s B' H' ⟨zs, p, h1, h2⟩ n r⟩⟩) (T.free _) bt_tuple) fun s e => ⟨[], List.Sublist.refl _, hp _ e⟩
  rintro C' le i s ds hi ⟨d, hd, rfl⟩ rfl
  obtain ⟨x, hx, rfl⟩ := getE_map hd
  have hf : (L.sts.take (i + 1)).filter (·.timed) = (L.sts.take i).filter (·.timed) ++ if x.timed = true then [x] else [] := by
    rw [List.take_add_one, hx, List.filter_append]
    simp only [Option.toList, List.filter_cons, List.filter_nil]
  refine ⟨[1], _, (· = x.timed), by decide, fun _ _ _ _ _ => tg_name 1 nd, fun _ _ _ _ _ => ets_one (et_val (ed_side (ok_Station_timed T) hr (by decide) (ed_var 1) rfl)), fun h => ?_, fun h => ⟨_, fun _ _ _ _ _ => ed_side (ok_Station_name T) hr (by decide) (ed_var 1) rfl, fun r e => ?_⟩⟩
  · refine ⟨_, rfl, ?_⟩
    rw [hf, if_neg (by rw [← h]; decide), List.append_nil]
  · subst e
    refine ⟨(((L.sts.take (i + 1)).filter (·.timed)).map (·.name)).map Sd.D.str, ?_, rfl⟩
    rw [hf, if_pos h.symm]
    simp
theorem ok_Line_len (T : Txt K mg) : Met P w K mg base 1 (He.ga K "Line") "__len__" (Pr K (FX (fun L : Ln => [.val (dLn K L)]) (fun _ => True) (fun L s => s = iv L.sts.length))) [] := by
  obtain ⟨fd, F⟩ := T.f_Line_len
  refine ⟨_, fd, p_Line_len, [], T.cls _, T.meth "Line" "__len__", fn_pr F sc_Line_len (by rintro ow ss post ⟨_, L, rfl, _⟩; rfl) fun cdv A outer sh H E C D ow ss post hr hR hM Fn Fx => ?_, bd_Line_len F, .nil⟩
  obtain ⟨rfl, L, rfl, _, hp⟩ := hR
  refine sdp_ret Fn (P := (· = iv L.sts.length)) ((ep_callB (ea_cons (ed_ixT (ep_fld (ed_var 0) (.val _ _ _) (T.cls _) (T.noat "Line" "sides") rfl) ed_int (.tup _) (atI_nat (j := 0) rfl)) ea_nil) (fun ss e => e ▸ cl_len (.tup _)) (T.free _) bb_len).imp fun s e => by rw [e, List.length_map, List.length_map]) fun s e => ⟨[], List.Sublist.refl _, hp _ e⟩
end
end Tx

/-! text W4 -/
set_option Elab.async false
set_option linter.all false
set_option maxRecDepth 100000
set_option maxHeartbeats 2000000
/-! W4: sets of lags. -/
namespace Sd
open PySem PySem.Spec PyProof.Rows L2
section
variable {C : FC} {X : Cx} {ow : Ow} {en : En} {e tg : Expr}
theorem eqvAll_bl : ∀ bs cs : List Bool, PyData.eqvAll (bs.map PyData.bool) (cs.map PyData.bool) = decide (bs = cs)
  | [], [] => rfl
  | [], _ :: _ => by rw [List.map_nil, List.map_cons, PyData.eqvAll]; simp
  | _ :: _, [] => by rw [List.map_nil, List.map_cons, PyData.eqvAll]; simp
  | a :: bs, b :: cs => by
    rw [List.map_cons, List.map_cons, PyData.eqvAll, eqvAll_bl bs cs, PyData.eqv]
    cases a <;> cases b <;> simp
theorem shaped_bl (bs : List Bool) : SeqAt.shaped (.list (bs.map PyData.bool)) = true := by
  have h1 : ∀ l : List Bool, PyData.canLayAll0 (l.map PyData.bool) = true := fun l => by
    induction l with
    | nil => rfl
    | cons a l ih => rw [List.map_cons, PyData.canLayAll0, ih, PyData.canLay0]; rfl
  have h2 : ∀ l : List Bool, PyData.depthAll (l.map PyData.bool) = 0 := fun l => by
    induction l with
    | nil => rfl
    | cons a l ih => rw [List.map_cons, PyData.depthAll, ih, PyData.depth]; rfl
  unfold SeqAt.shaped
  rw [PyData.canLay0, h1, PyData.depth, h2]
  rfl
theorem dp_bls {K : Fg} {H : Hp} : ∀ bs : List Bool, DpAll K H (bs.map V.bl) (bs.map PyData.bool)
  | [] => .nil
  | b :: bs => .cons (.bl b) (dp_bls bs)
/-- lists of truth values are compared -/
theorem cd_eqLB {x y : SV} {bs cs : List Bool} (hu : X.A.units + 64 < cLine) (h1 : LstOf ow x (bs.map bv)) (h2 : LstOf ow y (cs.map bv)) : CmpD C X ow en .Eq x y (decide (bs = cs)) := ⟨_, op_eqD hu, fun B σ H v u S r1 r2 Q q => by
  obtain ⟨a, xs, e, hq, l⟩ := h1.at S r1
  obtain ⟨a2, ys, e2, hq2, l2⟩ := h2.at S r2
  have e3 := bls_at l
  have e4 := bls_at l2
  subst e e2 e3 e4
  refine ⟨_, _, .lst hq (dp_bls bs), .lst hq2 (dp_bls cs), shaped_bl bs, shaped_bl cs, q _ _ B H rfl (Nxt.refl S) (rs_bl.mpr ?_)⟩
  rw [PyData.eqv, eqvAll_bl]⟩
theorem ei_seq {s : SV} {ds : List Sd.D} (hs : DatSeq s ds) (h : EvD C X ow en e s) : EvI C X ow en tg e [] ds.length (fun i s => ∃ d, ds[i]? = some d ∧ s = .val d) := by
  cases hs with
  | lst ds => exact ei_lst h
  | tup ds => exact ei_tup h
end
end Sd
namespace Tx
open PySem PySem.Spec PyProof.Rows L2 Sd C8
section
variable {P : Program} {w : World} {K : Fg} {mg : Str → Option Value} {base : Heap}
/-- the flags of the numbers -/
def flagsL (ms : List Nat) (n : Nat) : List Bool := (List.range n).map fun k => decide (k ∈ ms)
theorem flagsL_len (ms : List Nat) (n : Nat) : (flagsL ms n).length = n := by simp [flagsL]
theorem flagsL_get (ms : List Nat) (n i : Nat) (h : i < n) : (flagsL ms n)[i]? = some (decide (i ∈ ms)) := by
  unfold flagsL
  rw [List.getElem?_map, List.getElem?_range h]
  rfl
theorem flagsL_snoc (ms : List Nat) (n m : Nat) (h : m < n) : (flagsL ms n).set m true = flagsL (ms ++ [m]) n := by
  refine List.ext_getElem? fun i => ?_
  by_cases hi : i < n
  · rw [flagsL_get _ _ _ hi]
    by_cases e : m = i
    · subst e
      rw [List.getElem?_set_self (by rw [flagsL_len]; exact h)]
      simp
    · rw [List.getElem?_set_ne e, flagsL_get _ _ _ hi]
      have e' : ¬ i = m := fun z => e z.symm
      simp [e']
  · rw [List.getElem?_eq_none (by simp [flagsL_len]; omega), List.getElem?_eq_none (by simp [flagsL_len]; omega)]
theorem flagsL_nil (n : Nat) : flagsL [] n = List.replicate n false := by
  refine List.ext_getElem? fun i => ?_
  by_cases hi : i < n
  · rw [flagsL_get _ _ _ hi, List.getElem?_replicate, if_pos hi]
    simp
  · rw [List.getElem?_eq_none (by simp [flagsL_len]; omega), List.getElem?_eq_none (by simp; omega)]
structure FlIn where
  sq : SV
  ms : List Nat
  start : Nat
  period : Nat
theorem ok_flags_of (T : Txt K mg) : Cal P w K mg base 1 "flags_of" (Pr K (FX (fun z : FlIn => [z.sq, .val (.tup []), iv z.start, iv z.period])
    (fun z => DatSeq z.sq (z.ms.map fun m => Sd.D.int (m : Nat)) ∧ z.start + z.period ≤ 100000 ∧ ∀ m ∈ z.ms, m < z.start + z.period) (fun z s => s = .val (.lst ((flagsL z.ms (z.start + z.period)).map Sd.D.bl))))) [] := by
  obtain ⟨fd, F⟩ := T.f_flags_of
  refine cal_of F sc_flags_of (T.glo _) (bd_flags_of F) (by rintro ow ss post ⟨_, L, rfl, _⟩; rfl) fun cdv A outer sh H E C D ow ss post hr hR hM Fn Fx => ?_
  obtain ⟨rfl, z, rfl, ⟨hsq, hb, hlt⟩, hp⟩ := hR
  obtain ⟨sq, ms, st, pe⟩ := z
  have nd := sc_flags_of.nd
  have hb : st + pe ≤ 100000 := hb
  refine sd_setN 4 (A := (· = .lst ((flagsL [] (st + pe)).map bv))) ⟨fun B σ H S Q q => (en_rep (ss := [bv false]) (en_lst (ea_cons ed_bl ea_nil)) (ed_add (ed_var 2) (ed_var 3)) (by omega) (by rw [sizeLine_eq]; simp; omega) fun p oc => (ed_add (ed_var 2) (ed_var 3))).run B σ H S Q fun p oc B' H' pa n => q p oc B' H' (by
    rw [pa, flagsL_nil]
    congr 1
    rw [List.map_replicate, show ((st : Int) + (pe : Int)).toNat = st + pe by omega]
    generalize st + pe = n
    induction n with
    | zero => rfl
    | succ n ih => rw [List.replicate_succ, List.replicate_succ, List.flatten_cons, ih]; rfl) n⟩ (fun p oc e => ?_) nd
  subst e
  refine sd_for (fun i ow en => ∃ a, ow = [(p, .lst ((flagsL (ms.take i) (st + pe)).map bv))] ∧ en = [sq, .val (.tup []), iv st, iv pe, .ptr p, a, .un]) PassesOwn.never rfl (ei_seq hsq (ed_var 0 (hs := by intro e; subst e; cases hsq))) ⟨.un, rfl, rfl⟩ (fun _ _ _ _ q hq => by cases hq) ?_ ?_
  · rintro C' le i s ow en hi ⟨a, rfl, rfl⟩ ⟨d, hd, rfl⟩
    obtain ⟨m, hm, rfl⟩ := getE_map hd
    have hml : m < st + pe := hlt m (List.mem_of_getElem? hm)
    refine ⟨_, _, tg_name 5 nd, sd_asg (EvP.em (P := (· = bv true)) ed_bl fun s e => ?_)⟩
    subst e
    refine tgm_lsub (n := m) (ed_var 4) (ed_var 5) (by
      unfold ixN
      rw [List.length_map, flagsL_len, if_pos (by omega), if_pos (by omega)]
      simp) .here (sd_stop rfl ⟨_, ?_, rfl⟩)
    rw [List.take_add_one, hm]
    simp only [Option.toList]
    rw [← flagsL_snoc _ _ _ hml]
    simp [List.map_set]
  · rintro ow en ⟨a, rfl, rfl⟩
    rw [List.length_map, List.take_length]
    refine sd_for (fun i ow en => i = 0 ∧ ow = [(p, .lst ((flagsL ms (st + pe)).map bv))] ∧ en = [sq, .val (.tup []), iv st, iv pe, .ptr p, a, .un]) PassesOwn.never rfl (ei_tup (ed_var 1)) ⟨rfl, rfl, rfl⟩ (fun _ _ _ _ q hq => by cases hq) ?_ ?_
    · rintro C' le i s ow en hi
      cases hi
    · rintro ow en ⟨_, rfl, rfl⟩
      refine sd_freeze (d := .lst ((flagsL ms (st + pe)).map Sd.D.bl)) (en' := [sq, .val (.tup []), iv st, iv pe, .val (.lst ((flagsL ms (st + pe)).map Sd.D.bl)), a, .un]) .here (by
        have := ShOf.lst ((flagsL ms (st + pe)).map Sd.D.bl)
        rwa [List.map_map] at this) (by rw [hM]; simp) FrW.nil (.cons (.inl rfl) (.cons (.inl rfl) (.cons (.inl rfl) (.cons (.inl rfl) (.cons (.inr ⟨rfl, rfl⟩) FrL.same))))) ?_
      exact sd_ret Fn (ed_var 4) (List.Sublist.refl _) (hp _ rfl)
structure LpIn where
  fl : List Bool
  start : Nat
  period : Nat
/-- from start on the flags come again behind sz -/
def Again (fl : List Bool) (start sz : Nat) : Prop := ∀ k, start ≤ k → k + sz < fl.length → fl[k]? = fl[k + sz]?
theorem ok_least_period (T : Txt K mg) : Cal P w K mg base 1 "least_period" (Pr K (FX (fun z : LpIn => [.val (.lst (z.fl.map Sd.D.bl)), iv z.start, iv z.period])
    (fun z => z.fl.length = z.start + z.period ∧ 1 ≤ z.period ∧ z.start + z.period ≤ 100000) (fun z s => ∃ sz : Nat, s = iv sz ∧ 1 ≤ sz ∧ sz ≤ z.period ∧ Again z.fl z.start sz))) [] := by
  obtain ⟨fd, F⟩ := T.f_least_period
  refine cal_of F sc_least_period (T.glo _) (bd_least_period F) (by rintro ow ss post ⟨_, L, rfl, _⟩; rfl) fun cdv A outer sh H E C D ow ss post hr hR hM Fn Fx => ?_
  obtain ⟨rfl, z, rfl, ⟨hl, hp1, hb⟩, hp⟩ := hR
  obtain ⟨fl, st, pe⟩ := z
  have hl : fl.length = st + pe := hl
  have hp1 : 1 ≤ pe := hp1
  have hb : st + pe ≤ 100000 := hb
  have nd := sc_least_period.nd
  refine sd_for (fun i ow en => ∃ a b, ow = [] ∧ en = [.val (.lst (fl.map Sd.D.bl)), iv st, iv pe, a, b, .un]) PassesOwn.never rfl (ei_range2 ed_int (ed_var 2) (by omega) (T.free _)) ⟨.un, .un, rfl, rfl⟩ (fun _ _ _ _ q hq => by cases hq) ?_ ?_
  · rintro C' le i s ow en hi ⟨a, b, rfl, rfl⟩ rfl
    have hsz : (1 : Int) + (i : Nat) = ((1 + i : Nat) : Int) := by omega
    rw [hsz]
    have hi : i < ((pe : Int) - 1).toNat := hi
    have hlt : 1 + i < pe := by omega
    generalize hq : 1 + i = sz at hlt
    have h1 : 1 ≤ sz := by omega
    refine ⟨_, _, tg_name 3 nd, sd_if (k := decide ((pe : Int) % (sz : Int) = 0)) (et_cmp (ed_mod (ed_var 2) (ed_var 3) (by omega)) ed_int cd_eqI) (fun _ => ?_) fun _ => sd_back rfl (sd_stop rfl ⟨_, _, rfl, rfl⟩)⟩
    refine sd_setLcD 4 [("k", 5)] (fun i ds => ds = ((List.range i).map fun k => fl.getD (st + (k + sz) % pe) false).map Sd.D.bl) (ei_range1 (A := fun _ => True) (ed_var 2) (by omega) (T.free _)) (by rw [sizeLine_eq]; omega) (fun q hq => by cases hq) rfl ?_ ?_ (by rw [le.m, hM]; simp) nd (blk (N := N_least_period) (sc := fnScope s_least_period) (by decide +kernel))
    · rintro C2 le2 i s ds hi rfl rfl
      have hi2 : i < pe := by omega
      have hm : (i + sz) % pe < pe := Nat.mod_lt _ (by omega)
      refine ⟨[5], _, (· = true), by decide, fun _ _ _ _ _ => tg_name 5 nd, fun _ _ _ _ _ => ets_nil, fun h => (by cases h), fun _ => ⟨(· = bv (fl.getD (st + (i + sz) % pe) false)), fun _ _ _ _ _ => ?_, fun r e => ?_⟩⟩
      · refine ed_ixL (ed_var 0) (ed_add (ed_var 1) (ed_mod (ed_add (ed_var 5) (ed_var 3)) (ed_var 2) (by omega))) (lstB _) ?_
        have e : (st : Int) + (0 + (i : Nat) + (sz : Nat)) % (pe : Nat) = ((st + (i + sz) % pe : Nat) : Int) := by
          rw [Int.zero_add]
          push_cast
          rfl
        rw [e]
        refine atI_nat ?_
        rw [List.getElem?_map, List.getElem?_eq_getElem (by omega), List.getD_eq_getElem?_getD, List.getElem?_eq_getElem (by omega)]
        rfl
      · subst e
        exact ⟨((List.range (i + 1)).map fun k => fl.getD (st + (k + sz) % pe) false).map Sd.D.bl, by rw [List.range_succ]; simp, rfl⟩
    · rintro ds rfl
      refine sd_if (k := decide (((List.range pe).map fun k => fl.getD (st + (k + sz) % pe) false) = (fl.drop st).take pe)) (et_cmp (ed_var 4) (ed_ofN (ds := ((fl.drop st).take pe).map Sd.D.bl) (en_callTy (ea_cons (ed_ofN (ds := ((fl.drop st).take pe).map Sd.D.bl) ?_) ea_nil) (fun ss e => e ▸ cn_list (.lst _)) (T.free _) bt_list)) (cd_eqLB hr.units (lstB _) (lstB _))) (fun he => ?_) fun _ => sd_back rfl (sd_back rfl (sd_stop rfl ⟨_, _, rfl, rfl⟩))
      · refine (en_slL (ed_var 0) (eo_some (ed_var 1)) (eo_some (ed_add (ed_var 1) (ed_var 2))) (lstB _)).is fun oc e => ?_
        rw [e, show (st : Int) + (pe : Int) = ((st + pe : Nat) : Int) by omega, cutS_mid _ _ _ (by rw [List.length_map]; omega) (by rw [List.length_map]; omega), Nat.add_sub_cancel_left]
        simp only [← List.map_drop, ← List.map_take, List.map_map]
        rfl
      · have he := of_decide_eq_true he
        refine sd_ret (Fn.le le) (ed_var 3) (List.Sublist.refl _) (hp _ ⟨sz, rfl, h1, by show sz ≤ pe; omega, fun k h2 h3 => ?_⟩)
        have h2 : st ≤ k := h2
        have h3 : k + sz < fl.length := h3
        have e := congrArg (fun l : List Bool => l[k - st]?) he
        rw [List.getElem?_map, List.getElem?_range (by omega), List.getElem?_take, if_pos (by omega), List.getElem?_drop, show st + (k - st) = k by omega] at e
        simp only [Option.map_some] at e
        rw [← e, Nat.mod_eq_of_lt (by omega), show st + (k - st + sz) = k + sz by omega, List.getD_eq_getElem?_getD, List.getElem?_eq_getElem (by omega)]
        rfl
  · rintro ow en ⟨a, b, rfl, rfl⟩
    refine sd_ret Fn (ed_var 2) (List.Sublist.refl _) (hp _ ⟨pe, rfl, hp1, Nat.le_refl _, fun k h1 h2 => ?_⟩)
    have h1 : st ≤ k := h1
    have h2 : k + pe < fl.length := h2
    omega
/-- a form -/
abbrev dForm (fl : List Bool) (st sz : Nat) : Sd.D := .tup [.int st, .int sz, .tup ((fl.take (st + sz)).map Sd.D.bl)]
/-- what is left of the flags -/
structure Formed (fl : List Bool) (st sz : Nat) : Prop where
  one : 1 ≤ sz
  len : st + sz ≤ fl.length
  again : Again fl st sz
theorem ok_least_form (T : Txt K mg) : Cal P w K mg base 2 "least_form" (Pr K (FX (fun z : LpIn => [.val (.lst (z.fl.map Sd.D.bl)), iv z.start, iv z.period])
    (fun z => z.fl.length = z.start + z.period ∧ 1 ≤ z.period ∧ z.start + z.period ≤ 100000) (fun z s => ∃ st sz : Nat, s = .val (dForm z.fl st sz) ∧ Formed z.fl st sz))) [] := by
  obtain ⟨fd, F⟩ := T.f_least_form
  refine cal_of F sc_least_form (T.glo _) (bd_least_form F) (by rintro ow ss post ⟨_, L, rfl, _⟩; rfl) fun cdv A outer sh H E C D ow ss post hr hR hM Fn Fx => ?_
  obtain ⟨rfl, z, rfl, hz, hp⟩ := hR
  obtain ⟨hl, hp1, hb⟩ := hz
  obtain ⟨fl, st, pe⟩ := z
  have hl : fl.length = st + pe := hl
  have hp1 : 1 ≤ pe := hp1
  have hb : st + pe ≤ 100000 := hb
  have nd := sc_least_form.nd
  refine sd_setD 3 (ep_callX (ok_least_period T) hr (by decide) (ea_cons (ed_var 0) (ea_cons (ed_var 1) (ea_cons (ed_var 2) ea_nil))) fun ss e => ⟨⟨fl, st, pe⟩, e, ⟨hl, hp1, hb⟩, ?_⟩) nd
  rintro s ⟨sz, rfl, h1, h2, h3⟩
  have h2 : sz ≤ pe := h2
  have h3 : Again fl st sz := h3
  refine sd_while (fun m ow en => ow = [] ∧ en = [.val (.lst (fl.map Sd.D.bl)), iv (m : Nat), iv pe, iv sz] ∧ m ≤ st ∧ Again fl m sz) st PassesOwn.never ⟨rfl, rfl, Nat.le_refl _, h3⟩ ?_
  rintro m ow en ⟨rfl, rfl, hm, ha⟩
  have hat : ∀ k : Nat, k < fl.length → atI (fl.map bv) (k : Int) = some (bv (fl.getD k false)) := fun k hk => atI_nat (by
    rw [List.getElem?_map, List.getElem?_eq_getElem hk, List.getD_eq_getElem?_getD, List.getElem?_eq_getElem hk]
    rfl)
  refine ⟨decide (0 < (m : Int)) && decide (fl.getD (m - 1) false = fl.getD (m - 1 + sz) false), et_and2 (et_cmp (ed_var 1) ed_int cd_gt) (fun h0 => ?_), fun hk => ?_, fun hk => ?_⟩
  · have h0 := of_decide_eq_true h0
    have e1 : (m : Int) - 1 = ((m - 1 : Nat) : Int) := by omega
    have e2 : (m : Int) - 1 + (sz : Int) = ((m - 1 + sz : Nat) : Int) := by omega
    refine et_cmp (ed_ixL (ed_var 0) ((ed_sub (ed_var 1) ed_int).is (by rw [e1])) (lstB _) (hat _ (by omega))) (ed_ixL (ed_var 0) ((ed_add (ed_sub (ed_var 1) ed_int) (ed_var 3)).is (by rw [e2])) (lstB _) (hat _ (by omega))) cd_eqB
  · simp only [Bool.and_eq_true, decide_eq_true_eq] at hk
    obtain ⟨h0, he⟩ := hk
    have e1 : (m : Int) - 1 = ((m - 1 : Nat) : Int) := by omega
    refine sd_set 1 ((ed_sub (ed_var 1) ed_int).is (by rw [e1])) (sd_stop rfl ⟨m - 1, by omega, rfl, rfl, by omega, fun k g1 g2 => ?_⟩) nd
    by_cases hk : k = m - 1
    · subst hk
      rw [List.getElem?_eq_getElem (by omega), List.getElem?_eq_getElem (by omega)]
      rw [List.getD_eq_getElem?_getD, List.getD_eq_getElem?_getD, List.getElem?_eq_getElem (by omega), List.getElem?_eq_getElem (by omega)] at he
      exact congrArg some he
    · exact ha k (by omega) g2
  · refine sdp_ret Fn (P := (· = .val (dForm fl m sz))) (ed_tup (ea_cons (ed_var 1) (ea_cons (ed_var 3) (ea_cons (s := .val (.tup ((fl.take (m + sz)).map Sd.D.bl))) (ep_callTy (ea_cons (ed_ofN (ds := (fl.take (m + sz)).map Sd.D.bl) ((en_slL (ed_var 0) eo_none (eo_some (ed_add (ed_var 1) (ed_var 3))) (lstB _)).is fun oc e => ?_)) ea_nil) (fun ss e => e ▸ cl_tuple (.lst _)) (T.free _) bt_tuple) ea_nil)))) fun s e => ⟨[], List.Sublist.refl _, hp _ ⟨m, sz, e, h1, by show m + sz ≤ fl.length; omega, ha⟩⟩
    rw [e, show (m : Int) + (sz : Int) = ((m + sz : Nat) : Int) by omega, cutS_to _ _ (by rw [List.length_map]; omega)]
    simp only [← List.map_take, List.map_map]
    rfl
end
end Tx

/-! text W5 -/
set_option Elab.async false
set_option linter.all false
set_option maxRecDepth 100000
set_option maxHeartbeats 2000000
/-! W5: lag objects. -/
namespace Sd
open PySem PySem.Spec PyProof.Rows L2
section
variable {C : FC} {X : Cx} {ow : Ow} {en : En} {e tg : Expr} {pos : Pos}
theorem plain_bls : ∀ bs : List Bool, PyData.plainAll (bs.map PyData.bool) = true
  | [] => rfl
  | b :: bs => by rw [List.map_cons, PyData.plainAll, plain_bls bs, PyData.plain]; rfl
theorem any_bls (bs : List Bool) : (bs.map PyData.bool).any PyData.truthy = bs.any id := by
  rw [List.any_map]
  rfl
theorem cr_anyT (hc : X.calm = true) : CallR X (.builtin "any") (fun vs H Q => ∃ (a : Addr) (bs : List Bool), vs = [V.ref a] ∧ SqT X.K H a (bs.map V.bl) ∧ Q (.bl (bs.any id)) H) := by
  intro pins s σ H vs us Q I r h
  obtain ⟨a, bs, rfl, hs, q⟩ := h
  obtain ⟨its, rv, hl, _⟩ := I.tuple hs
  rw [Vals.ref1 r]
  obtain ⟨as, hr⟩ := Dp.readsAll I (bs.map PyData.bool) _ its (dp_bls bs) rv
  refine PySem.W.any_tuple_data (I.ok.hd hc) hl (by simpa using hr) (plain_bls bs) (fun x hx => ?_) fun h' tk hk => ⟨.bl _, H, I.kept hk, rfl, by rw [any_bls]; exact q⟩
  obtain ⟨b, _, rfl⟩ := List.mem_map.mp hx
  trivial
theorem cl_anyT {s : SV} {bs : List Bool} (h : TupOf ow s (bs.map bv)) (hc : X.calm = true) : ClD C X ow en (.builtin "any") [s] (· = bv (bs.any id)) := ⟨_, cr_anyT hc, fun B σ H vs S rs Q q => by
  obtain ⟨v, e, r⟩ := sl1 rs
  obtain ⟨a, xs, e1, hq, l⟩ := h.at S r
  have e2 := bls_at l
  subst e e1 e2
  exact ⟨a, bs, rfl, hq, q _ _ B H rfl (Nxt.refl S) (rs_bl.mpr rfl)⟩⟩
theorem ed_neg {i : Int} (h : EvD C X ow en e (iv i)) : EvD C X ow en (.UnaryOp .USub e pos) (iv (-i)) :=
  ⟨fun B σ H S Q q => ⟨_, pe_un un_neg pe_we, h.run B σ H S _ fun v s B' H' p n r => ⟨i, rs_int.mp (p ▸ r), q _ _ B' H' rfl n (rs_int.mpr rfl)⟩⟩⟩
theorem tupB {ow : Ow} (zs : List Bool) : TupOf ow (.val (.tup (zs.map Sd.D.bl))) (zs.map bv) := by
  have := TupOf.tup (ow := ow) (zs.map Sd.D.bl)
  rwa [List.map_map] at this
end
end Sd
namespace Tx
open PySem PySem.Spec PyProof.Rows L2 Sd C8
section
variable {P : Program} {w : World} {K : Fg} {mg : Str → Option Value} {base : Heap}
theorem ok_check_numbers (T : Txt K mg) : Cal P w K mg base 1 "check_numbers" (Pr K (FX (fun _ : Unit => [.val (.tup [])]) (fun _ => True) (fun _ s => s = nv))) [] := by
  obtain ⟨fd, F⟩ := T.f_check_numbers
  refine cal_of F sc_check_numbers (T.glo _) (bd_check_numbers F) (by rintro ow ss post ⟨_, i, rfl, _⟩; rfl) fun cdv A outer sh H E C D ow ss post hr hR hM Fn Fx => ?_
  obtain ⟨rfl, _, rfl, _, hp⟩ := hR
  refine sd_no (et_not (et_val (k := true) (ed_isi (ed_var 0) (isi_tup kb_tuple_tuple) (T.free _) (T.free _) bt_tuple))) ?_
  refine sd_for (fun i ow en => ow = []) PassesOwn.never rfl (ei_enumT (ed_var 0) (T.free _)) rfl (fun _ _ _ _ q hq => by cases hq) ?_ ?_
  · rintro C' le i s ow en hi
    cases hi
  · rintro ow en rfl
    exact sd_fin Fx (hp _ rfl)
abbrev dLags (K : Fg) (fl : List Bool) (st sz : Nat) : Sd.D := .ins (He.ga K "FormedLags") ["form"] [dForm fl st sz]
theorem ok_FormedLags (T : Txt K mg) : Mak P w K mg base 1 "FormedLags" (He.ga K "FormedLags") (Pr K fun ow ss post => ∃ (p dx : Addr) (d : Sd.D), ow = [(p, .ins (He.ga K "FormedLags") dx [] [])] ∧ ss = [.ptr p, .val d] ∧ post nv [(p, .ins (He.ga K "FormedLags") dx ["form"] [.val d])]) [] := by
  obtain ⟨fd, F⟩ := T.f_FormedLags_init
  refine ⟨_, fd, p_FormedLags_init, [], T.mkr _, fn_pr F sc_FormedLags_init ?_ ?_, T.glo _, bd_FormedLags_init F, .nil⟩
  · rintro ow ss post ⟨p, dx, s, _, rfl, _⟩
    rfl
  · intro cdv A outer sh H E C D ow ss post hr hR hM Fn Fx
    obtain ⟨p, dx, d, rfl, rfl, hp⟩ := hR
    refine sd_asg (EvP.em (P := (· = .val d)) (ed_var 1) fun s e => ?_)
    subst e
    exact tgm_fld (ed_var 0) (T.cls _) (T.noat "FormedLags" "form") .here (sd_fin Fx hp)
theorem ok_lags_with (T : Txt K mg) : Cal P w K mg base 3 "lags_with" (Pr K (FX (fun d : Sd.D => [.val d]) (fun _ => True) (fun d s => s = .val (.ins (He.ga K "FormedLags") ["form"] [d])))) [] := by
  obtain ⟨fd, F⟩ := T.f_lags_with
  refine cal_of F sc_lags_with (T.glo _) (bd_lags_with F) (by rintro ow ss post ⟨_, i, rfl, _⟩; rfl) fun cdv A outer sh H E C D ow ss post hr hR hM Fn Fx => ?_
  obtain ⟨rfl, d, rfl, _, hp⟩ := hR
  refine sdp_ret Fn (P := (· = .val (.ins (He.ga K "FormedLags") ["form"] [d]))) (ep_ofN (en_make (dd := []) (A2 := fun oc => ∃ dx, oc = .ins (He.ga K "FormedLags") dx ["form"] [.val d]) (ok_FormedLags T) hr (by decide) (ea_cons (ed_var 0) ea_nil) (fun _ => RpSL.nil) fun ss e p dx => ⟨fun s ow' => s = nv ∧ ow' = [(p, .ins (He.ga K "FormedLags") dx ["form"] [.val d])], ⟨p, dx, d, rfl, by rw [e]; rfl, rfl, rfl⟩, fun s ow' h => ⟨h.1, _, h.2, dx, rfl⟩⟩) ?_) fun s e => ⟨[], List.Sublist.refl _, hp _ e⟩
  rintro oc ⟨dx, rfl⟩
  exact ⟨_, .ins _ _ _ [d], rfl⟩
theorem ok_lags_of (T : Txt K mg) : Cal P w K mg base 4 "lags_of" (Pr K (FX (fun z : List Nat × Nat × Nat => [.val (.lst (z.1.map fun m => Sd.D.int (m : Nat))), iv z.2.1, iv z.2.2]) (fun z => 1 ≤ z.2.2 ∧ z.2.1 + z.2.2 ≤ 100000 ∧ ∀ m ∈ z.1, m < z.2.1 + z.2.2)
    (fun z s => ∃ st sz : Nat, s = .val (dLags K (flagsL z.1 (z.2.1 + z.2.2)) st sz) ∧ Formed (flagsL z.1 (z.2.1 + z.2.2)) st sz))) [] := by
  obtain ⟨fd, F⟩ := T.f_lags_of
  refine cal_of F sc_lags_of (T.glo _) (bd_lags_of F) (by rintro ow ss post ⟨_, i, rfl, _⟩; rfl) fun cdv A outer sh H E C D ow ss post hr hR hM Fn Fx => ?_
  obtain ⟨rfl, ⟨ms, st, pe⟩, rfl, hz, hp⟩ := hR
  obtain ⟨h1, h2, h3⟩ := hz
  refine sdp_ret Fn (P := fun s => ∃ a b : Nat, s = .val (dLags K (flagsL ms (st + pe)) a b) ∧ Formed (flagsL ms (st + pe)) a b) (ep_callX (A := fun ss => ∃ a b : Nat, ss = [.val (dForm (flagsL ms (st + pe)) a b)] ∧ Formed (flagsL ms (st + pe)) a b) (ok_lags_with T) hr (by decide) (eap_cons (ep_callX (ok_least_form T) hr (by decide) (ea_cons (s := .val (.lst ((flagsL ms (st + pe)).map Sd.D.bl))) (ep_callX (ok_flags_of T) hr (by decide) (ea_cons (ed_var 0) (ea_cons (ed_tup (ds := []) ea_nil) (ea_cons (ed_var 1) (ea_cons (ed_var 2) ea_nil)))) fun ss e => ⟨⟨_, ms, st, pe⟩, e, ⟨.lst _, h2, h3⟩, fun s e => e⟩) (ea_cons (ed_var 1) (ea_cons (ed_var 2) ea_nil)))
    fun ss e => ⟨⟨_, st, pe⟩, e, ⟨flagsL_len _ _, h1, h2⟩, fun s e => e⟩) ea_nil fun s ss h e => ?_) fun ss h => ?_) fun s e => ⟨[], List.Sublist.refl _, hp _ e⟩
  · obtain ⟨a, b, rfl, hf⟩ := h
    exact ⟨a, b, by rw [e]; rfl, hf⟩
  · obtain ⟨a, b, rfl, hf⟩ := h
    exact ⟨_, rfl, trivial, fun s e => ⟨a, b, e, hf⟩⟩
/-- the places of the true flags -/
def trues (fl : List Bool) : List Nat := (List.range fl.length).filter fun k => fl.getD k false
theorem trues_take (fl : List Bool) (i : Nat) (b : Bool) (h : fl[i]? = some b) : trues (fl.take (i + 1)) = trues (fl.take i) ++ if b = true then [i] else [] := by
  have hi : i < fl.length := (List.getElem?_eq_some_iff.mp h).1
  have e1 : (fl.take (i + 1)).length = i + 1 := by rw [List.length_take]; omega
  have e2 : (fl.take i).length = i := by rw [List.length_take]; omega
  unfold trues
  rw [e1, e2, List.range_succ, List.filter_append]
  congr 1
  · refine List.filter_congr fun k hk => ?_
    have hk := List.mem_range.mp hk
    rw [List.getD_eq_getElem?_getD, List.getD_eq_getElem?_getD, List.getElem?_take, List.getElem?_take, if_pos (by omega), if_pos hk]
  · have e3 : (fl.take (i + 1)).getD i false = b := by
      rw [List.getD_eq_getElem?_getD, List.getElem?_take, if_pos (by omega), h]
      rfl
    rw [List.filter_cons, e3]
    cases b <;> simp
theorem ok_members (T : Txt K mg) : Prp P w K mg base 1 (He.ga K "FormedLags") "members" (Pr K (FX (fun z : List Bool × Int × Int => [.val (.ins (He.ga K "FormedLags") ["form"] [.tup [.int z.2.1, .int z.2.2, .tup (z.1.map Sd.D.bl)]])]) (fun z => z.1.length ≤ 100000)
    (fun z s => s = .val (.tup ((trues z.1).map fun k => Sd.D.int (k : Nat)))))) := by
  obtain ⟨fd, F⟩ := T.f_Lags_members
  refine prp_of T F sc_Lags_members (bd_Lags_members F) (by rintro ow ss post ⟨_, L, rfl, _⟩; rfl) fun cdv A outer sh H E C D ow ss post hr hR hM Fn Fx => ?_
  obtain ⟨rfl, ⟨fl, i1, i2⟩, rfl, h6, hp⟩ := hR
  have h6 : fl.length ≤ 100000 := h6
  have nd := sc_Lags_members.nd
  refine sdp_ret Fn (P := (· = .val (.tup ((trues fl).map fun k => Sd.D.int (k : Nat))))) (ep_callTy (A := (· = [.val (.lst ((trues fl).map fun k => Sd.D.int (k : Nat)))])) (eap_cons (ed_lc [("k", 1), ("flag", 2)] (fun i ds => ds = (trues (fl.take i)).map fun k => Sd.D.int (k : Nat)) (ei_enumT (ed_ixT (ep_fld (ed_var 0) (.val _ _ _) (T.cls _) (T.noat "FormedLags" "form") rfl) ed_int (.tup _) (atI_nat (j := 2) rfl)) (T.free _)) (by rw [sizeLine_eq, List.length_map]; omega) (fun q hq => by cases hq) rfl ?_ nd (blk (N := N_Lags_members) (sc := fnScope s_Lags_members) (by decide +kernel))) ea_nil (fun s ss h1 h2 => by
        obtain ⟨ds, e1, e2⟩ := h1
        rw [e1, e2, h2, List.length_map, List.take_length])) (fun ss e => e ▸ cl_tuple (.lst _)) (T.free _) bt_tuple) fun s e => ⟨[], List.Sublist.refl _, hp _ e⟩
  rintro C' le i s ds hi ⟨d, hd, rfl⟩ rfl
  obtain ⟨b, hb, rfl⟩ := getE_map hd
  have ht := trues_take fl i b hb
  refine ⟨[1, 2], _, (· = b), by decide, fun _ _ _ _ _ => tg_tup rfl (tgs_cons (tg_name 1 nd) (tgs_cons (tg_name 2 nd) tgs_nil)), fun _ _ _ _ _ => ets_one (et_val (ed_var 2)), fun h => ?_, fun h => ⟨(· = iv (i : Nat)), fun _ _ _ _ _ => ed_var 1, fun r e => ?_⟩⟩
  · refine ⟨_, rfl, ?_⟩
    rw [ht, ← h, if_neg (by decide), List.append_nil]
  · subst e
    refine ⟨(trues (fl.take (i + 1))).map fun k => Sd.D.int (k : Nat), ?_, rfl⟩
    rw [ht, ← h, if_pos rfl]
    simp
theorem trues_nil {fl : List Bool} (h : fl.any id = false) : trues fl = [] := by
  unfold trues
  refine List.filter_eq_nil_iff.mpr fun k hk => ?_
  have hk := List.mem_range.mp hk
  rw [List.getD_eq_getElem?_getD, List.getElem?_eq_getElem hk]
  have := List.any_eq_false.mp h fl[k] (List.getElem_mem hk)
  simpa using this
theorem trues_ne {fl : List Bool} (h : fl.any id = true) : ∃ k, (trues fl)[0]? = some k := by
  obtain ⟨b, hb, e⟩ := List.any_eq_true.mp h
  obtain ⟨k, hk, e2⟩ := List.mem_iff_getElem.mp hb
  have hm : k ∈ trues fl := by
    unfold trues
    refine List.mem_filter.mpr ⟨List.mem_range.mpr hk, ?_⟩
    rw [List.getD_eq_getElem?_getD, List.getElem?_eq_getElem hk, e2]
    exact e
  cases q : trues fl with
  | nil => rw [q] at hm; cases hm
  | cons a r => exact ⟨a, rfl⟩
theorem ok_first (T : Txt K mg) : Prp P w K mg base 3 (He.ga K "FormedLags") "first" (Pr K (FX (fun z : List Bool × Int × Int => [.val (.ins (He.ga K "FormedLags") ["form"] [.tup [.int z.2.1, .int z.2.2, .tup (z.1.map Sd.D.bl)]])]) (fun z => z.1.length ≤ 100000)
    (fun z s => (z.1.any id = false ∧ s = nv) ∨ ∃ k : Nat, (trues z.1)[0]? = some k ∧ s = iv k))) := by
  obtain ⟨fd, F⟩ := T.f_Lags_first
  refine prp_of T F sc_Lags_first (bd_Lags_first F) (by rintro ow ss post ⟨_, L, rfl, _⟩; rfl) fun cdv A outer sh H E C D ow ss post hr hR hM Fn Fx => ?_
  obtain ⟨rfl, ⟨fl, i1, i2⟩, rfl, h6, hp⟩ := hR
  have h6 : fl.length ≤ 100000 := h6
  refine sdp_ret Fn (P := fun s => (fl.any id = false ∧ s = nv) ∨ ∃ k : Nat, (trues fl)[0]? = some k ∧ s = iv k) (ep_if (k := fl.any id) (et_val (ep_callB (ea_cons (ed_ixT (ep_fld (ed_var 0) (.val _ _ _) (T.cls _) (T.noat "FormedLags" "form") rfl) ed_int (.tup _) (atI_nat (j := 2) rfl)) ea_nil) (fun ss e => e ▸ cl_anyT (tupB _) rfl) (T.free _) bb_any)) (fun h => ?_) fun h => ed_non.p (.inl ⟨h, rfl⟩)) fun s e => ⟨[], List.Sublist.refl _, hp _ e⟩
  obtain ⟨k, hk⟩ := trues_ne h
  refine EvD.p (ed_ixT (ep_propX (ok_members T) hr (by decide) (ed_var 0) (.val _ _ _) ⟨(fl, i1, i2), rfl, h6, fun s e => e⟩) ed_int (.tup _) (atI_nat (j := 0) ?_)) (.inr ⟨k, hk, rfl⟩)
  rw [List.map_map, List.getElem?_map, hk]
  rfl
end
end Tx

/-! text W6 -/
set_option Elab.async false
set_option linter.all false
set_option maxRecDepth 100000
set_option maxHeartbeats 2000000
/-! W6: Lags(); rings. -/
namespace Tx
open PySem PySem.Spec PyProof.Rows L2 Sd C8
section
variable {P : Program} {w : World} {K : Fg} {mg : Str → Option Value} {base : Heap}
def lagsD (K : Fg) : List V := [.ref (He.dflAt ("Lags", some "__init__") 0 K), .ref (He.dflAt ("Lags", some "__init__") 1 K), .int 1]
theorem lagsD_rp (T : Txt K mg) (B : Hp) : RpSL K B [.val (.tup []), .val (.tup []), iv 1] (lagsD K) := by
  refine RpSL.cons ?_ (RpSL.cons ?_ (RpSL.cons (rs_int.mpr rfl) RpSL.nil))
  · simp only [RpS, Rp]
    exact ⟨_, [], rfl, T.empty0 B, RpL.nil⟩
  · simp only [RpS, Rp]
    exact ⟨_, [], rfl, T.empty1 B, RpL.nil⟩
theorem ok_Lags (T : Txt K mg) : Mak P w K mg base 3 "Lags" (He.ga K "Lags") (Pr K fun ow ss post => ∃ (p dx : Addr), ow = [(p, .ins (He.ga K "Lags") dx [] [])] ∧ ss = [.ptr p, .val (.tup []), .val (.tup []), iv 1] ∧ ∀ d, post nv [(p, .ins (He.ga K "Lags") dx ["form"] [.val d])]) (lagsD K) := by
  obtain ⟨fd, F⟩ := T.f_Lags_init
  obtain ⟨ds, hd, b⟩ := F.binds1 (ps := p_Lags_init) 1 0 (List.cons_ne_nil _ _) rfl (fun U kV doc pm an cdv ct us its h1 h2 => match us, its, h1, h2 with | [_], [_, _, _], _, _ => ⟨_, rfl, rfl⟩)
  refine ⟨_, fd, p_Lags_init, ds, T.mkr _, fn_pr F sc_Lags_init ?_ ?_, T.glo _, b, hd⟩
  · rintro ow ss post ⟨p, dx, _, rfl, _⟩
    rfl
  · intro cdv A outer sh H E C D ow ss post hr hR hM Fn Fx
    obtain ⟨p, dx, rfl, rfl, hp⟩ := hR
    have nd := sc_Lags_init.nd
    refine sd_expr (ep_callX (P := fun _ => True) (ok_check_numbers T) hr (by decide) (ea_cons (ed_var 1) ea_nil) fun ss e => ⟨(), e, trivial, fun s e => trivial⟩) ?_
    refine sd_expr (ep_callX (P := fun _ => True) (ok_check_numbers T) hr (by decide) (ea_cons (ed_var 2) ea_nil) fun ss e => ⟨(), e, trivial, fun s e => trivial⟩) ?_
    refine sd_no (EvTP.to (k := (false || false)) (et_or2 (et_not (et_val (k := true) (ep_callF (ok_is_integer T) hr (by decide) (ea_cons (ed_var 3) ea_nil) fun ss e => ⟨⟨_, e⟩, fun s e => e⟩))) fun _ =>
          (et_not (et_chain ed_int (ed_var 3) (fun _ => ed_gInt (T.int "MOST_PERIOD" 60)) cd_le fun _ => cd_le)).to (by decide)) rfl) ?_
    refine sd_set 4 (s := iv 0) ((ed_add (i := -1) (ep_callB (A := (· = [.val (.lst [.int (-1)])])) (ea_cons (ed_ofN (ds := [.int (-1)]) (en_lst (ea_cons (ed_neg ed_int) (ea_star (ed_var 1) (.tup []) (ea_star (ed_var 2) (.tup []) ea_nil))))) ea_nil) (fun ss e => e ▸ ⟨(cl_max (ns := [-1]) (lstI [-1]) (by decide) rfl).ex.imp fun r h => ⟨h.1, fun B σ H vs S rs Q q => h.2 B σ H vs S rs Q fun z s B' H' p n r => q z s B' H' (by
        obtain ⟨m, e, hm, _⟩ := p
        rw [e, List.mem_singleton.mp hm]) n r⟩⟩) (T.free _) bb_max) ed_int).is rfl) ?_ nd
    refine sd_asg (EvP.em (P := fun s => ∃ d, s = .val d) (ep_callX (ok_least_form T) hr (by decide) (ea_cons (s := .val (.lst ((flagsL [] (0 + 1)).map Sd.D.bl))) (ep_callX (ok_flags_of T) hr (by decide) (ea_cons (ed_var 1) (ea_cons (ed_var 2) (ea_cons (ed_var 4) (ea_cons (ed_var 3) ea_nil)))) fun ss e => ⟨⟨_, [], 0, 1⟩, e, ⟨.tup _, by decide, fun m hm => by cases hm⟩, fun s e => e⟩) (ea_cons (ed_var 4) (ea_cons (ed_var 3) ea_nil)))
      fun ss e => ⟨⟨flagsL [] (0 + 1), 0, 1⟩, e, ⟨rfl, by decide, by decide⟩, fun s ⟨_, _, e, _⟩ => ⟨_, e⟩⟩) fun s e => ?_)
    obtain ⟨d, rfl⟩ := e
    exact tgm_fld (ed_var 0) (T.cls _) (T.noat "Lags" "form") .here (sd_fin Fx (hp _))
end
end Tx

/-! text Sd11 -/
set_option Elab.async false
set_option linter.all false
set_option maxRecDepth 100000
set_option maxHeartbeats 2000000
/-! Sd11: dicts. -/
namespace Sd
open PySem PySem.Spec PyProof.Rows L2
section
variable {κ α : Type} [DecidableEq κ]
def ksPut (ks : List κ) (k : κ) : List κ := if k ∈ ks then ks else ks ++ [k]
def ssPut (ks : List κ) (ss : List α) (k : κ) (s : α) : List α := if k ∈ ks then (ks.zip ss).map (fun q => if q.1 = k then s else q.2) else ss ++ [s]
def valS (ks : List κ) (ss : List α) (k : κ) : Option α := ((ks.zip ss).find? fun q => decide (q.1 = k)).map (·.2)
theorem any_zip {ks : List κ} {ss : List α} {k : κ} (h : ks.length = ss.length) : ((ks.zip ss).any fun q => decide (q.1 = k)) = decide (k ∈ ks) := by
  induction ks generalizing ss with
  | nil => rfl
  | cons a ks ih =>
    cases ss with
    | nil => simp at h
    | cons b ss =>
      rw [List.zip_cons_cons, List.any_cons, ih (by simpa using h)]
      by_cases e : a = k
      · simp [e]
      · have e' : ¬ k = a := fun z => e z.symm
        simp [e, e']
theorem putK_zip {ks : List κ} {xs : List V} {k : κ} {v : V} (h : ks.length = xs.length) : putK (ks.zip xs) k v = (ksPut ks k).zip (ssPut ks xs k v) ∧ (ksPut ks k).length = (ssPut ks xs k v).length := by
  unfold putK ksPut ssPut
  rw [any_zip h]
  by_cases e : k ∈ ks
  · rw [if_pos (by simpa using e), if_pos e, if_pos e]
    refine ⟨?_, by simp [h]⟩
    clear e
    induction ks generalizing xs with
    | nil => rfl
    | cons a ks ih =>
      cases xs with
      | nil => simp at h
      | cons b xs =>
        rw [List.zip_cons_cons, List.map_cons, List.map_cons, List.zip_cons_cons, ih (by simpa using h)]
        by_cases e : a = k <;> simp [e]
  · rw [if_neg (by simpa using e), if_neg e, if_neg e]
    exact ⟨by rw [List.zip_append h]; rfl, by simp [h]⟩
theorem ssPut_rp {K : Fg} {B : Hp} {k : κ} {s : SV} {v : V} (r : RpS K B s v) {ks : List κ} {ss : List SV} {xs : List V} (h : RpSL K B ss xs) : RpSL K B (ssPut ks ss k s) (ssPut ks xs k v) := by
  unfold ssPut
  by_cases e : k ∈ ks
  · rw [if_pos e, if_pos e]
    clear e
    induction ks generalizing ss xs with
    | nil => exact RpSL.nil
    | cons a ks ih =>
      cases ss with
      | nil => rw [show xs = [] from h]; exact RpSL.nil
      | cons b ss =>
        obtain ⟨y, ys, e1, r1, r2⟩ := h
        subst e1
        rw [List.zip_cons_cons, List.zip_cons_cons, List.map_cons, List.map_cons]
        refine RpSL.cons ?_ (ih r2)
        by_cases e : a = k
        · rw [if_pos e, if_pos e]; exact r
        · rw [if_neg e, if_neg e]; exact r1
  · rw [if_neg e, if_neg e]
    exact h.append (RpSL.cons r RpSL.nil)
theorem valS_cons {a : κ} {ks : List κ} {b : α} {ss : List α} {k : κ} : valS (a :: ks) (b :: ss) k = if a = k then some b else valS ks ss k := by
  unfold valS
  rw [List.zip_cons_cons, List.find?_cons]
  by_cases e : a = k
  · rw [if_pos e]; simp [e]
  · rw [if_neg e]; simp [e]
theorem valS_none {ks : List κ} {ss : List α} {k : κ} (h : k ∉ ks) : valS ks ss k = none := by
  induction ks generalizing ss with
  | nil => rfl
  | cons a ks ih =>
    cases ss with
    | nil => rfl
    | cons b ss =>
      rw [valS_cons, if_neg (fun (e : a = k) => h (by rw [e]; exact List.mem_cons_self)), ih fun e => h (List.mem_cons_of_mem _ e)]
theorem valS_some {ks : List κ} {ss : List α} {k : κ} (h : k ∈ ks) (hl : ks.length = ss.length) : ∃ s, valS ks ss k = some s := by
  induction ks generalizing ss with
  | nil => cases h
  | cons a ks ih =>
    cases ss with
    | nil => simp at hl
    | cons b ss =>
      rw [valS_cons]
      by_cases e : a = k
      · exact ⟨b, if_pos e⟩
      · rw [if_neg e]
        exact ih ((List.mem_cons.mp h).resolve_left fun z => e z.symm) (by simpa using hl)
theorem valS_rp {K : Fg} {B : Hp} {k : κ} : ∀ {ks : List κ} {ss : List SV} {xs : List V}, RpSL K B ss xs → match valS ks ss k with
    | some s => ∃ v, valV (ks.zip xs) k = some v ∧ RpS K B s v
    | none => valV (ks.zip xs) k = none
  | [], _, _, _ => rfl
  | a :: ks, [], xs, h => by
    rw [show xs = [] from h]
    rfl
  | a :: ks, b :: ss, _, ⟨y, ys, e1, r1, r2⟩ => by
    subst e1
    rw [valS_cons, List.zip_cons_cons]
    by_cases e : a = k
    · rw [if_pos e]
      exact ⟨y, valV_pos e, r1⟩
    · rw [if_neg e, valV_neg e]
      exact valS_rp r2
theorem map_out {k : κ} {s : α} : ∀ {ks : List κ} {ss : List α}, k ∉ ks → ks.length = ss.length → (ks.zip ss).map (fun q => if q.1 = k then s else q.2) = ss
  | [], [], _, _ => rfl
  | [], _ :: _, _, h => by simp at h
  | _ :: _, [], _, h => by simp at h
  | c :: ks, d :: ss, hk, h => by
    rw [List.zip_cons_cons, List.map_cons, map_out (fun z => hk (List.mem_cons_of_mem _ z)) (by simpa using h)]
    have : ¬ c = k := fun z => hk (by rw [z]; exact List.mem_cons_self)
    simp [this]
/-- a look behind a store -/
theorem valS_put {ks : List κ} {ss : List α} {k j : κ} {s : α} (hl : ks.length = ss.length) : valS (ksPut ks k) (ssPut ks ss k s) j = if j = k then some s else valS ks ss j := by
  unfold ksPut ssPut
  by_cases e : k ∈ ks
  · rw [if_pos e, if_pos e]
    induction ks generalizing ss with
    | nil => cases e
    | cons a ks ih =>
      cases ss with
      | nil => simp at hl
      | cons b ss =>
        have hl' : ks.length = ss.length := by simpa using hl
        rw [List.zip_cons_cons, List.map_cons, valS_cons, valS_cons]
        by_cases ha : a = j
        · rw [if_pos ha, if_pos ha]
          by_cases hj : j = k
          · rw [if_pos hj]
            simp [ha, hj]
          · rw [if_neg hj]
            simp [ha, hj]
        · rw [if_neg ha, if_neg ha]
          by_cases hk : k ∈ ks
          · exact ih hl' hk
          · have hak : a = k := ((List.mem_cons.mp e).resolve_right hk).symm
            have hjk : ¬ j = k := fun z => ha (hak.trans z.symm)
            rw [if_neg hjk]
            have := map_out (s := s) hk hl'
            rw [this]
  · rw [if_neg e, if_neg e]
    induction ks generalizing ss with
    | nil => cases ss with
      | nil =>
        show valS [k] [s] j = _
        rw [valS_cons]
        by_cases h : j = k
        · rw [if_pos h, if_pos h.symm]
        · rw [if_neg h, if_neg fun z => h z.symm]
      | cons _ _ => simp at hl
    | cons a ks ih =>
      cases ss with
      | nil => simp at hl
      | cons b ss =>
        rw [List.cons_append, List.cons_append, valS_cons, valS_cons]
        by_cases ha : a = j
        · rw [if_pos ha, if_pos ha]
          have : ¬ j = k := fun z => e (by rw [← z, ← ha]; exact List.mem_cons_self)
          rw [if_neg this]
        · rw [if_neg ha, if_neg ha]
          exact ih (by simpa using hl) fun z => e (List.mem_cons_of_mem _ z)
theorem put_len {ks : List κ} {ss : List α} {k : κ} {s : α} (h : ks.length = ss.length) : (ksPut ks k).length = (ssPut ks ss k s).length := by
  unfold ksPut ssPut
  by_cases e : k ∈ ks
  · rw [if_pos e, if_pos e]; simp [h]
  · rw [if_neg e, if_neg e]; simp [h]
theorem ksPut_new {ks : List κ} {k : κ} (h : k ∉ ks) : ksPut ks k = ks ++ [k] := if_neg h
theorem ssPut_new {ks : List κ} {ss : List α} {k : κ} {s : α} (h : k ∉ ks) : ssPut ks ss k s = ss ++ [s] := if_neg h
end
/-- a dict, keys ints and texts; keys tuples of them -/
inductive DKOf (ow : Ow) : SV → List Key → List SV → Prop where
  | val (ks : List Key) (ds : List D) : DKOf ow (.val (.dK ks ds)) ks (ds.map SV.val)
  | own (p : Addr) (ks : List Key) (ss : List SV) (h : (p, .dK ks ss) ∈ ow) : DKOf ow (.ptr p) ks ss
inductive DTOf (ow : Ow) : SV → List (List Key) → List SV → Prop where
  | val (ks : List (List Key)) (ds : List D) : DTOf ow (.val (.dT ks ds)) ks (ds.map SV.val)
  | own (p : Addr) (ks : List (List Key)) (ss : List SV) (h : (p, .dT ks ss) ∈ ow) : DTOf ow (.ptr p) ks ss
section
variable {C : FC} {X : Cx} {ow ow' ow1 owA : Ow} {en en' : En} {a b c e o tg iter elt kx vx : Expr} {es tgs : List Expr} {ifs : List Expr} {pos pos' p0 p2 apos : Pos} {P P' Pa Pb Pc : SV → Prop} {x y m f : Str} {rest body : List Stmt} {D : Ends} {st : Stmt} {s t : SV} {ss : List SV} {i : Int} {Q' : SV → Ow → Prop} {scope : Scope} {Kk : Ow → En → Prop}
theorem DKOf.at {K : Fg} {B H : Hp} {σ : L2.St} {ks : List Key} {v : V} (h : DKOf ow s ks ss) (S : Sta C K B ow en σ H) (r : RpS K B s v) : ∃ a xs, v = .ref a ∧ Rd H a (.dK (ks.zip xs)) ∧ RpSL K B ss xs := by
  cases h with
  | val ks ds =>
    simp only [RpS, Rp] at r
    obtain ⟨a, xs, e, q, _, l⟩ := r
    exact ⟨a, xs, e, S.sub.rd q, RpSL.vals.mpr l⟩
  | own p ks ss h =>
    obtain ⟨_, _, xs, q, _, l⟩ := S.own _ h
    exact ⟨p, xs, r, .inl q, l⟩
theorem DTOf.at {K : Fg} {B H : Hp} {σ : L2.St} {ks : List (List Key)} {v : V} (h : DTOf ow s ks ss) (S : Sta C K B ow en σ H) (r : RpS K B s v) : ∃ a xs, v = .ref a ∧ Rd H a (.dT (ks.zip xs)) ∧ RpSL K B ss xs := by
  cases h with
  | val ks ds =>
    simp only [RpS, Rp] at r
    obtain ⟨a, xs, e, q, _, l⟩ := r
    exact ⟨a, xs, e, S.sub.rd q, RpSL.vals.mpr l⟩
  | own p ks ss h =>
    obtain ⟨_, _, xs, q, _, l⟩ := S.own _ h
    exact ⟨p, xs, r, .inl q, l⟩
/-- what a dict says at a key -/
inductive DkAt (ow : Ow) (s t : SV) : Option SV → Prop where
  | k {ks : List Key} {ss : List SV} {k : Key} {r : Option SV} (h : DKOf ow s ks ss) (e : t = kS k) (hr : valS ks ss k = r) : DkAt ow s t r
  | t {ks : List (List Key)} {ss : List SV} {k : List Key} {r : Option SV} (h : DTOf ow s ks ss) (e : t = .val (.key k)) (hr : valS ks ss k = r) : DkAt ow s t r
def GotAt (K : Fg) (B H : Hp) (a : Addr) (u : V) : Option SV → Prop
  | some z => ∃ w, DGet H a u (some w) ∧ RpS K B z w
  | none => DGet H a u none
theorem DkAt.get {K : Fg} {B H : Hp} {σ : L2.St} {v u : V} {r : Option SV} (h : DkAt ow s t r) (S : Sta C K B ow en σ H) (r1 : RpS K B s v) (r2 : RpS K B t u) : ∃ a, v = .ref a ∧ GotAt K B H a u r := by
  cases h with
  | @k ks ss k _ h e hr =>
    obtain ⟨a, xs, e1, hq, l⟩ := h.at S r1
    subst e hr
    have eu := rs_key.mp r2
    have q := valS_rp (k := k) (ks := ks) l
    refine ⟨a, e1, ?_⟩
    cases hz : valS ks ss k with
    | some z =>
      rw [hz] at q
      obtain ⟨w, hw, rw'⟩ := q
      exact ⟨w, .inl ⟨_, _, hq, eu, hw.symm⟩, rw'⟩
    | none =>
      rw [hz] at q
      exact .inl ⟨_, _, hq, eu, q.symm⟩
  | @t ks ss k _ h e hr =>
    obtain ⟨a, xs, e1, hq, l⟩ := h.at S r1
    subst e hr
    simp only [RpS, Rp] at r2
    obtain ⟨bb, eb, hb⟩ := r2
    have hb := S.sub _ _ hb
    have q := valS_rp (k := k) (ks := ks) l
    refine ⟨a, e1, ?_⟩
    cases hz : valS ks ss k with
    | some z =>
      rw [hz] at q
      obtain ⟨w, hw, rw'⟩ := q
      exact ⟨w, .inr ⟨_, _, bb, hq, eb, hb, hw.symm⟩, rw'⟩
    | none =>
      rw [hz] at q
      exact .inr ⟨_, _, bb, hq, eb, hb, q.symm⟩
/-- d[k] -/
theorem ep_dget (hu : X.A.units + 1 < cLine) (ha : EvP C X ow en a Pa) (hb : EvP C X ow en b Pb) (h : ∀ x y, Pa x → Pb y → ∃ z, DkAt ow x y (some z) ∧ P z) (hs : NoSl b := by intro _ _; rfl) : EvP C X ow en (.Subscript a b pos) P :=
  ⟨fun B σ H S Q q => ⟨_, pe_dget hu pe_we pe_we hs, ev_bin ha hb S fun v u x y B' H' px py n r1 r2 => by
    obtain ⟨z, hz, pz⟩ := h x y px py
    obtain ⟨a, e1, w, hw, rw'⟩ := hz.get n.sta r1 r2
    exact ⟨a, w, e1, hw, q w z B' H' pz n rw'⟩⟩⟩
theorem ed_dget (hu : X.A.units + 1 < cLine) {z : SV} (ha : EvD C X ow en a s) (hb : EvD C X ow en b t) (h : DkAt ow s t (some z)) (hs : NoSl b := by intro _ _; rfl) : EvD C X ow en (.Subscript a b pos) z :=
  ep_dget hu ha hb (fun _ _ e1 e2 => ⟨z, e1 ▸ e2 ▸ h, rfl⟩) hs
/-- k not in d, k in d -/
theorem et_dnotin (hu : X.A.units + 1 < cLine) {r : Option SV} (hb : EvD C X ow en b t) (ha : EvD C X ow en a s) (h : DkAt ow s t r) (hm : behindInMarks .NotIn a = false := by first | exact nomark _ | rfl) : EvT C X ow en (.Compare b [.NotIn] [a] pos) (!r.isSome) :=
  ⟨fun B σ H S Q q => ⟨_, pt_cmp (pc_dnotin hu pe_we pe_we) hm, ev_bin hb ha S fun v u x y B' H' px py n r1 r2 => by
    subst px py
    obtain ⟨a, e1, hg⟩ := h.get n.sta r2 r1
    cases r with
    | some z =>
      obtain ⟨w, hw, _⟩ := hg
      exact ⟨a, _, e1, hw, _, rfl, q _ B' H' rfl n⟩
    | none => exact ⟨a, _, e1, hg, _, rfl, q _ B' H' rfl n⟩⟩⟩
theorem et_din (hu : X.A.units + 1 < cLine) {r : Option SV} (hb : EvD C X ow en b t) (ha : EvD C X ow en a s) (h : DkAt ow s t r) (hm : behindInMarks .In a = false := by first | exact nomark _ | rfl) : EvT C X ow en (.Compare b [.In] [a] pos) r.isSome :=
  ⟨fun B σ H S Q q => ⟨_, pt_cmp (pc_din hu pe_we pe_we) hm, ev_bin hb ha S fun v u x y B' H' px py n r1 r2 => by
    subst px py
    obtain ⟨a, e1, hg⟩ := h.get n.sta r2 r1
    cases r with
    | some z =>
      obtain ⟨w, hw, _⟩ := hg
      exact ⟨a, _, e1, hw, _, rfl, q _ B' H' rfl n⟩
    | none => exact ⟨a, _, e1, hg, _, rfl, q _ B' H' rfl n⟩⟩⟩
/-- {} -/
theorem en_dK : EvN C X ow en (.Dict [] [] pos) (· = .dK [] []) := ⟨fun B σ H S Q q => ⟨_, pe_dnewK, fun p hp => q p _ _ _ rfl (NxN.hold S hp ⟨[], upd_same, rfl, RpSL.nil⟩)⟩⟩
theorem en_dT : EvN C X ow en (.Dict [] [] pos) (· = .dT [] []) := ⟨fun B σ H S Q q => ⟨_, pe_dnewT, fun p hp => q p _ _ _ rfl (NxN.hold S hp ⟨[], upd_same, rfl, RpSL.nil⟩)⟩⟩
/-- d[k] = v, of one's own -/
theorem set_dict (hu : X.A.units + 1 < cLine) : PSet X (fun o i v H Q => ∃ a H', o = .ref a ∧ DPut H a i v H' ∧ Q H') := by
  intro pins s σ H o i v ov iv u Q I ro ri rv h
  obtain ⟨a, H', e, g, q⟩ := h
  subst e
  obtain rfl : ov = Value.ref a := ro
  exact d_setItem hu I g ri rv fun s' I' => ⟨H', I', q⟩
theorem tgm_dK (hu : X.A.units + 1 < cLine) {p : Addr} {ks : List Key} {k : Key} (ho : EvD C X ow en o (.ptr p)) (hi : EvD C X ow en b (kS k)) (hl : ks.length < sizeLine) (hput : Put p (.dK ks ss) (.dK (ksPut ks k) (ssPut ks ss k s)) ow ow') (h : Kk ow' en)
    (ha : ∀ v, assign (.Subscript o b pos) X.env v = (do
      let ov ← holding [v] (eval o X.env)
      let iv ← holding [v, ov] (eval b X.env)
      standAt pos
      holding [v, ov, iv] (setItem ov iv v)
      release [v, ov, iv] []) := by intro _; rfl) : TgM C X ow en (.Subscript o b pos) s Kk :=
  ⟨fun B σ H v S r Q q => ⟨_, pg_sub pe_we pe_we (set_dict hu) ha, ho.run B σ H S _ fun w t B' H' e n1 rv => hi.run B' σ H' n1.sta _ fun w2 t2 B2 H2 e2 n2 rv2 => by
    subst e e2
    obtain ⟨_, _, xs, hx, l0, l⟩ := n2.sta.own _ hput.mem
    obtain ⟨z1, z2⟩ := putK_zip (k := k) (v := v) l0
    refine ⟨p, _, rs_ptr.mp rv, .inl ⟨_, k, hx, rs_key.mp rv2, by rw [List.length_zip]; omega, rfl⟩, ?_⟩
    exact q _ _ _ _ _ h (n2.sta.write hput ⟨ssPut ks xs k v, by rw [upd_same, z1], z2, ssPut_rp ((r.mono n1.exB).mono n2.exB) l⟩) (n1.exB.trans n2.exB)⟩⟩
theorem tgm_dT (hu : X.A.units + 1 < cLine) {p : Addr} {ks : List (List Key)} {k : List Key} (ho : EvD C X ow en o (.ptr p)) (hi : EvD C X ow en b (.val (.key k))) (hl : ks.length < sizeLine) (hput : Put p (.dT ks ss) (.dT (ksPut ks k) (ssPut ks ss k s)) ow ow') (h : Kk ow' en)
    (ha : ∀ v, assign (.Subscript o b pos) X.env v = (do
      let ov ← holding [v] (eval o X.env)
      let iv ← holding [v, ov] (eval b X.env)
      standAt pos
      holding [v, ov, iv] (setItem ov iv v)
      release [v, ov, iv] []) := by intro _; rfl) : TgM C X ow en (.Subscript o b pos) s Kk :=
  ⟨fun B σ H v S r Q q => ⟨_, pg_sub pe_we pe_we (set_dict hu) ha, ho.run B σ H S _ fun w t B' H' e n1 rv => hi.run B' σ H' n1.sta _ fun w2 t2 B2 H2 e2 n2 rv2 => by
    subst e e2
    obtain ⟨_, _, xs, hx, l0, l⟩ := n2.sta.own _ hput.mem
    obtain ⟨z1, z2⟩ := putK_zip (k := k) (v := v) l0
    simp only [RpS, Rp] at rv2
    obtain ⟨bb, eb, hb⟩ := rv2
    refine ⟨p, _, rs_ptr.mp rv, .inr ⟨_, k, bb, hx, eb, n2.sta.sub _ _ hb, by rw [List.length_zip]; omega, rfl⟩, ?_⟩
    exact q _ _ _ _ _ h (n2.sta.write hput ⟨ssPut ks xs k v, by rw [upd_same, z1], z2, ssPut_rp ((r.mono n1.exB).mono n2.exB) l⟩) (n1.exB.trans n2.exB)⟩⟩
/-- a tuple of a key's parts -/
theorem ed_keyT {ks : List Key} {x1} (h : EvA C X ow en es (· = ks.map kS)) (hl : ks.length ≤ sizeLine := by first | decide | (simp; decide)) : EvD C X ow en (.Tuple es x1 pos) (.val (.key ks)) :=
  ⟨fun B σ H S Q q => ⟨_, pe_tup pa_wa, h.run B σ H S _ fun vs ss B' H' ps n rs => by
    subst ps
    have e := rs_keys.mp rs
    subst e
    refine ⟨by rw [List.length_map]; exact hl, fun p hp => ?_⟩
    have g := n.sta.share (o := .tup (ks.map kV)) hp
    refine q _ _ _ _ rfl (n.trans (Nxt.grow n.sta g)) ?_
    simp only [RpS, Rp]
    exact ⟨p, rfl, upd_same⟩⟩⟩
theorem cl_tupleK {ks : List Key} (h : LstOf ow s (ks.map kS)) : ClD C X ow en (.type "tuple") [s] (· = .val (.key ks)) := ⟨_, call_tuple_of, fun B σ H vs S rs Q q => by
  obtain ⟨v, e, r⟩ := sl1 rs
  obtain ⟨a, xs, e1, hq, l⟩ := h.at S r
  have e2 := rs_keys.mp l
  subst e e1 e2
  refine ⟨a, _, rfl, .inl ⟨hq, fun p hp => ?_⟩⟩
  have g := S.share (o := .tup (ks.map kV)) hp
  refine q _ _ _ _ rfl (Nxt.grow S g) ?_
  simp only [RpS, Rp]
  exact ⟨p, rfl, upd_same⟩⟩
end
end Sd

/-! text Dc2 -/
set_option Elab.async false
set_option linter.all false
set_option maxRecDepth 100000
set_option maxHeartbeats 2000000
/-! Dc2: a dict comprehension of two clauses whose keys are tuples (the list's two-clause loop of the hand layer, turned to dicts). -/
namespace L2
open PySem PySem.Spec PyProof.Rows
theorem dcTurn_out (kx vx t0 i0 t1 i1 : Expr) (ifs0 ifs1 : List Expr) (scope : Scope) (pos : Pos) (it : Value) (Dd : Addr) (env : Env) :
    compTurn (.DictComp kx vx [⟨t0, i0, ifs0, 0⟩, ⟨t1, i1, ifs1, 0⟩] scope pos) 0 it (.ref Dd) env = (do
      standAt i0.pos
      match ← pyNext it with
      | none => pure (.done .next)
      | some v =>
        letOwnedTupleGo t0 it v
        assign t0 env v
        let mut ok := true
        for c in ifs0 do
          if ok then ok ← isTrue c env (eval c env)
        if ok then
          let x ← eval i1 env
          standAt i1.pos
          let x ← foldedSetIterable i1 env x
          let _ ← runOwn (.compStart (.DictComp kx vx [⟨t0, i0, ifs0, 0⟩, ⟨t1, i1, ifs1, 0⟩] scope pos) 1 (← holding [x] (pyIter x)) (.ref Dd) env) env
        again (.compLoop (.DictComp kx vx [⟨t0, i0, ifs0, 0⟩, ⟨t1, i1, ifs1, 0⟩] scope pos) 0 it (.ref Dd) env)) := by rfl
theorem dcTurn_in (kx vx t0 i0 t1 i1 : Expr) (ifs0 ifs1 : List Expr) (scope : Scope) (pos : Pos) (it : Value) (Dd : Addr) (env : Env) :
    compTurn (.DictComp kx vx [⟨t0, i0, ifs0, 0⟩, ⟨t1, i1, ifs1, 0⟩] scope pos) 1 it (.ref Dd) env = (do
      standAt i1.pos
      match ← pyNext it with
      | none => pure (.done .next)
      | some v =>
        letOwnedTupleGo t1 it v
        assign t1 env v
        let mut ok := true
        for c in ifs1 do
          if ok then ok ← isTrue c env (eval c env)
        if ok then
          (do
            let kv ← eval kx env
            let vv ← holding [kv] (eval vx env)
            standAt { kx.pos with endLine := vx.pos.endLine, endCol := vx.pos.endCol }
            holding [kv, vv] (dictSet Dd kv vv))
        again (.compLoop (.DictComp kx vx [⟨t0, i0, ifs0, 0⟩, ⟨t1, i1, ifs1, 0⟩] scope pos) 1 it (.ref Dd) env)) := by rfl


section
variable {prog : Program} {w : World} {A : Around} {R : Result → Shared → Prop} {s : Shared} {kx vx t0 i0 t1 i1 : Expr} {ifs0 ifs1 : List Expr} {scope : Scope} {pos : Pos} {it : Value} {Dd : Addr} {env : Env}
/-- the loop of the first clause -/
theorem dcLoop_out (hs : ∀ x, foldedSetIterable i1 env x = pure x) (I : Nat → Shared → Prop)
    (trn : ∀ n s, I n s → wpAny (model prog w) A (pyNext it) (fun r u₁ => match r with
      | none => R (.ok .next) u₁
      | some v => wpAny (model prog w) A (letOwnedTupleGo t0 it v) (fun _ u₁' => wpAny (model prog w) A (assign t0 env v) (fun _ u₂ =>
          wpAny (model prog w) A (forIn ifs0 true fun c r => if r = true then do let ok ← isTrue c env (eval c env); pure (ForInStep.yield ok) else pure (ForInStep.yield r)) (fun ok u₃ =>
            if ok = true then wpAny (model prog w) A (eval i1 env) (fun x u₄ => wpAny (model prog w) A (pyIter x) (fun it1 u₅ =>
              codeAny (model prog w) A (.compStart (.DictComp kx vx [⟨t0, i0, ifs0, 0⟩, ⟨t1, i1, ifs1, 0⟩] scope pos) 1 it1 (.ref Dd) env) (fun r s' => match r with
                | .ok _ => ∃ m, m < n ∧ I m s'
                | .error _ => False) u₅) (notedBy (model prog w) A env fun e s' => R (.error e) s') u₄) (notedBy (model prog w) A env fun e s' => R (.error e) s') u₃
            else ∃ m, m < n ∧ I m u₃) (notedBy (model prog w) A env fun e s' => R (.error e) s') u₂) (notedBy (model prog w) A env fun e s' => R (.error e) s') u₁') (notedBy (model prog w) A env fun e s' => R (.error e) s') u₁) (notedBy (model prog w) A env fun e s' => R (.error e) s') s)
    (n : Nat) (h : I n s) :
    codeAny (model prog w) A (.compLoop (.DictComp kx vx [⟨t0, i0, ifs0, 0⟩, ⟨t1, i1, ifs1, 0⟩] scope pos) 0 it (.ref Dd) env) R s := by
  refine codeAny_loop rfl I (fun n s hI => ?_) n h
  show wpAny _ A ((compTurn (.DictComp kx vx [⟨t0, i0, ifs0, 0⟩, ⟨t1, i1, ifs1, 0⟩] scope pos) 0 it (.ref Dd) env).onRaise (fun x => do noteFrame x env; theTreesLotGoes x)) _ _ s
  refine wpAny_noted ?_
  rw [dcTurn_out]
  refine wpAny_bind (wpAny_standAt (wpAny_bind (wpAny_mono (trn n s hI) (fun r u₁ g₁ => ?_) fun _ _ h' => h')))
  cases r with
  | none => exact wpAny_pure g₁
  | some v =>
    refine wpAny_bind (wpAny_mono g₁ (fun _ u₁' g₁' => ?_) fun _ _ h' => h')
    refine wpAny_bind (wpAny_mono g₁' (fun _ u₂ g₂ => wpAny_bind (wpAny_mono g₂ (fun ok u₃ g₃ => ?_) fun _ _ h' => h')) fun _ _ h' => h')
    cases ok with
    | false => exact wpAny_pure ⟨rfl, g₃⟩
    | true =>
      refine wpAny_bind (wpAny_mono g₃ (fun x u₄ g₄ => ?_) fun _ _ h' => h')
      refine wpAny_bind (wpAny_standAt (wpAny_bind (wpAny_of_eq (hs x) (wpAny_bind (wpAny_holding (wpAny_mono g₄ (fun it1 u₅ g₅ => ?_) fun _ _ h' => h'))))))
      refine wpAny_bind (wpAny_runOwn ?_)
      rw [Around.mark_none]
      refine codeAny_mono g₅ fun r s' hr => ?_
      cases r with
      | ok f =>
        first
          | exact wpAny_pure ⟨rfl, hr⟩
          | exact wpAny_bind (wpAny_pure (wpAny_pure ⟨rfl, hr⟩))
      | error e => exact hr.elim
/-- the loop of the second -/
theorem dcLoop_in (I : Nat → Shared → Prop)
    (trn : ∀ n s, I n s → wpAny (model prog w) A (pyNext it) (fun r u₁ => match r with
      | none => R (.ok .next) u₁
      | some v => wpAny (model prog w) A (letOwnedTupleGo t1 it v) (fun _ u₁' => wpAny (model prog w) A (assign t1 env v) (fun _ u₂ =>
          wpAny (model prog w) A (forIn ifs1 true fun c r => if r = true then do let ok ← isTrue c env (eval c env); pure (ForInStep.yield ok) else pure (ForInStep.yield r)) (fun ok u₃ =>
            if ok = true then wpAny (model prog w) A (eval kx env) (fun kv u₄ => wpAny (model prog w) A (eval vx env) (fun vv u₅ =>
              wpAny (model prog w) A (dictSet Dd kv vv) (fun _ u₆ => ∃ m, m < n ∧ I m u₆) (notedBy (model prog w) A env fun e s' => R (.error e) s') u₅) (notedBy (model prog w) A env fun e s' => R (.error e) s') u₄) (notedBy (model prog w) A env fun e s' => R (.error e) s') u₃
            else ∃ m, m < n ∧ I m u₃) (notedBy (model prog w) A env fun e s' => R (.error e) s') u₂) (notedBy (model prog w) A env fun e s' => R (.error e) s') u₁') (notedBy (model prog w) A env fun e s' => R (.error e) s') u₁) (notedBy (model prog w) A env fun e s' => R (.error e) s') s)
    (n : Nat) (h : I n s) :
    codeAny (model prog w) A (.compLoop (.DictComp kx vx [⟨t0, i0, ifs0, 0⟩, ⟨t1, i1, ifs1, 0⟩] scope pos) 1 it (.ref Dd) env) R s := by
  refine codeAny_loop rfl I (fun n s hI => ?_) n h
  show wpAny _ A ((compTurn (.DictComp kx vx [⟨t0, i0, ifs0, 0⟩, ⟨t1, i1, ifs1, 0⟩] scope pos) 1 it (.ref Dd) env).onRaise (fun x => do noteFrame x env; theTreesLotGoes x)) _ _ s
  refine wpAny_noted ?_
  rw [dcTurn_in]
  refine wpAny_bind (wpAny_standAt (wpAny_bind (wpAny_mono (trn n s hI) (fun r u₁ g₁ => ?_) fun _ _ h' => h')))
  cases r with
  | none => exact wpAny_pure g₁
  | some v =>
    refine wpAny_bind (wpAny_mono g₁ (fun _ u₁' g₁' => ?_) fun _ _ h' => h')
    refine wpAny_bind (wpAny_mono g₁' (fun _ u₂ g₂ => wpAny_bind (wpAny_mono g₂ (fun ok u₃ g₃ => ?_) fun _ _ h' => h')) fun _ _ h' => h')
    cases ok with
    | false => exact wpAny_pure ⟨rfl, g₃⟩
    | true =>
      exact wpAny_bind (wpAny_bind (wpAny_mono g₃ (fun kv u₄ g₄ => wpAny_bind (wpAny_holding (wpAny_mono g₄ (fun vv u₅ g₅ => wpAny_bind (wpAny_standAt (wpAny_holding (wpAny_mono g₅ (fun _ u₆ g₆ => wpAny_pure ⟨rfl, g₆⟩) fun _ _ h' => h')))) fun _ _ h' => h'))) fun _ _ h' => h'))
/-- the second clause's start -/
theorem dcStart1 (h0 : codeAny (model prog w) A (.compLoop (.DictComp kx vx [⟨t0, i0, ifs0, 0⟩, ⟨t1, i1, ifs1, 0⟩] scope pos) 1 it (.ref Dd) env) R s)
    (h : wpAny (model prog w) A (pyIter it) (fun it' s' => codeAny (model prog w) A (.compLoop (.DictComp kx vx [⟨t0, i0, ifs0, 0⟩, ⟨t1, i1, ifs1, 0⟩] scope pos) 1 it' (.ref Dd) env) R s')
      (notedBy (model prog w) A env fun x s' => R (.error x) s') s) :
    codeAny (model prog w) A (.compStart (.DictComp kx vx [⟨t0, i0, ifs0, 0⟩, ⟨t1, i1, ifs1, 0⟩] scope pos) 1 it (.ref Dd) env) R s := by
  refine codeAny_of_tree ?_
  show wpAny _ _ ((compStart (.DictComp kx vx [⟨t0, i0, ifs0, 0⟩, ⟨t1, i1, ifs1, 0⟩] scope pos) 1 it (.ref Dd) env).onRaise (fun x => do noteFrame x env; standAt theWindowsPlace)) _ _ s
  refine wpAny_notedAt ?_
  unfold compStart
  show wpAny _ _ (ask >>= _) _ _ s
  refine wpAny_bind (wpAny_askSetting (wpAny_ite ?_))
  split
  · first
      | exact wpAny_bind (wpAny_pure (wpAny_pure (And.intro rfl h0)))
      | exact wpAny_pure (And.intro rfl h0)
  · first
      | exact wpAny_bind (wpAny_rule (wpAny_bind (wpAny_standAt (wpAny_bind (wpAny_mono h (fun it' s' h' => wpAny_pure (And.intro rfl h')) fun _ _ x => x)))))
      | (refine wpAny_bind (wpAny_rule ?_); show wpAny _ _ (standAt i1.pos >>= _) _ _ s; exact wpAny_bind (wpAny_standAt (wpAny_bind (wpAny_mono h (fun it' s' h' => wpAny_pure (And.intro rfl h')) fun _ _ x => x))))
end


section
variable {X : Cx}
/-- d[k] = v by a comprehension, k a tuple -/
theorem d_dictSetT {pns : List (Addr × Obj)} {σ : St} {H : Hp} {s : Shared} {E : Value → Shared → Prop} {D b : Addr} {kvs : List (List Key × V)} {k : List Key} {v : V} {u r : Value} {Q : Unit → Shared → Prop} (hu : X.A.units < cLine) (J : Inv X pns σ H s) (hD : H D = some (.dT kvs)) (hz : kvs.length < sizeLine) (hb : H b = some (.tup (k.map kV)))
    (ry : RelV (.ref b) u) (rv : RelV v r) (h : ∀ s', Inv X pns σ (upd H D (.dT (putK kvs k v))) s' → Q () s') : wpAny (model X.prog X.w) X.A (dictSet D u r) Q E s := by
  cases (show u = Value.ref b from ry)
  obtain ⟨z, hd, xs, rel, dd⟩ := dt_of J.hok hD
  have hsz : xs.length ≤ sizeLine := by rw [← Paired.length rel]; exact z
  have hlen : (putK kvs k v).length ≤ sizeLine := by have := length_putK kvs k v; omega
  refine wpAny_dictSet_heap (hsz := hsz) hu (key_of J.hok hb) dd fun h' dd' hs => h _ ?_
  obtain ⟨q, es, ep, hq, g2, g3, g4, _, g5⟩ := dd'
  refine d_write J (by rw [hD]; exact True.intro) hs ⟨q, hq⟩ ⟨hlen, hd, _, (rel.put k hb rv).keeps fun c ys ec => ?_, q, es, ep, hq, g2, g3, g4, g5⟩
  rw [upd_ne (ne_of ec hD (fun z => nomatch z))]
  exact ec
/-- {k: v for tg in iter if .. for tg1 in iter1 if ..}, keys tuples: D the new dict -/
def tDc2 (wi : TI) (g : TG) (tt : TT) (wi1 : TI) (g1 : TG) (tt1 : TT) (tk te : TE) (vs vs1 : List Nat) : TE := fun σ H Q => wi σ H fun J G1 => ∀ D, G1 D = none → ∃ W : Nat → Nat → Hp → Prop, (∃ m, W 0 m (upd G1 D (.dT []))) ∧ ∀ i m H, W i m H →
  (J.stop i H ∧ Q (.ref D) H) ∨ (J.go i H ∧ ∃ Nx : Hp → Prop, (∀ H', Nx H' → ∃ m', m' < m ∧ W (i + 1) m' H') ∧ ∀ x H', J.yld i H x H' → g x (wipe σ vs) H' fun σ2 G2 => wipe σ2 vs = wipe σ vs ∧ tt σ2 G2 fun b G3 =>
    if b = true then wi1 σ2 G3 fun J1 G4 => ∃ W1 : Nat → Nat → Hp → Prop, (∃ m, W1 0 m G4) ∧ ∀ j k H, W1 j k H →
      (J1.stop j H ∧ Nx H) ∨ (J1.go j H ∧ ∃ Nx1 : Hp → Prop, (∀ H', Nx1 H' → ∃ k', k' < k ∧ W1 (j + 1) k' H') ∧ ∀ x H', J1.yld j H x H' → g1 x (wipe σ2 vs1) H' fun σ3 G5 => wipe σ3 vs1 = wipe σ2 vs1 ∧ tt1 σ3 G5 fun b G6 =>
        if b = true then tk σ3 G6 fun yk G7 => te σ3 G7 fun yv G8 => ∃ kvs k bk, yk = .ref bk ∧ G8 bk = some (.tup (k.map kV)) ∧ G8 D = some (.dT kvs) ∧ kvs.length < sizeLine ∧ Nx1 (upd G8 D (.dT (putK kvs k yv))) else Nx1 G6)
    else Nx G3)
theorem dc2_core {pns : List (Addr × Obj)} {s : Shared} {σ : St} {H : Hp} {Q : VK} {kx vx tg iter tg1 iter1 : Expr} {ifs ifs1 : List Expr} {scope : Scope} {own : List (Str × Nat)} {vs1 : List Nat} {pos pos' : Pos} {wi wi1 : TI} {g g1 : TG} {tt tt1 : TT} {tk te : TE} {use : Option (Value → Sem Unit)} {Qf : Value → Shared → Prop}
    (hu : X.A.units < cLine) (hc : X.calm = true) (hN : X.N.Nodup) (I : Inv X pns σ H s) (hi : PI X tg iter wi) (ok : BlkOk X.N X.env.scope scope own) (hv : ∀ i ∈ vs1, i ∈ own.map (·.2))
    (hg : ∀ (s : Shared) (H : Hp) (C : Addr) (cl : List (Str × Addr)) (fp : List Addr), PG (X.blk s H scope (compEnvC scope cl C X.env) fp) tg g) (ht : ∀ (s : Shared) (H : Hp) (C : Addr) (cl : List (Str × Addr)) (fp : List Addr), PTs (X.blk s H scope (compEnvC scope cl C X.env) fp) ifs tt)
    (hk : ∀ (s : Shared) (H : Hp) (C : Addr) (cl : List (Str × Addr)) (fp : List Addr), PE (X.blk s H scope (compEnvC scope cl C X.env) fp) kx tk) (he : ∀ (s : Shared) (H : Hp) (C : Addr) (cl : List (Str × Addr)) (fp : List Addr), PE (X.blk s H scope (compEnvC scope cl C X.env) fp) vx te) (hs : ∀ x, foldedSetIterable iter X.env x = pure x)
    (hi1 : ∀ (s : Shared) (H : Hp) (C : Addr) (cl : List (Str × Addr)) (fp : List Addr), PI (X.blk s H scope (compEnvC scope cl C X.env) fp) tg1 iter1 wi1)
    (hg1 : ∀ (s : Shared) (H : Hp) (C : Addr) (cl : List (Str × Addr)) (fp : List Addr), PG (X.blk s H scope (compEnvC scope cl C X.env) fp) tg1 g1)
    (ht1 : ∀ (s : Shared) (H : Hp) (C : Addr) (cl : List (Str × Addr)) (fp : List Addr), PTs (X.blk s H scope (compEnvC scope cl C X.env) fp) ifs1 tt1)
    (hs1 : ∀ env x, foldedSetIterable iter1 env x = pure x)
    (h : tDc2 wi g tt wi1 g1 tt1 tk te (own.map (·.2)) vs1 σ H Q)
    (hEnd : ∀ D C s' m H', Inv X pns σ H' s' → Q (.ref D) H' → s'.heap.Ns C m → FpOk X pns H' C → compPost (model X.prog X.w) X.A X.xe use Qf (.ref D) C (.ok .next) s') :
    wpAny (model X.prog X.w) X.A (comprehension (.DictComp kx vx [⟨tg, iter, ifs, 0⟩, ⟨tg1, iter1, ifs1, 0⟩] scope pos) scope X.env pos' newDict false (eval iter X.env) use) Qf X.xe s := by
  have hfr : ∀ y ∈ scope.names, y.2 = .free → ∃ c, X.env.cells.lookup y.1 = some c := fun y hy e => by
    rcases ok.free y hy e with k | k
    · exact I.ok.has _ (.inl k)
    · exact I.ok.has _ (.inr k)
  refine wpAny_comprehension_free (use := use) rfl hs (closure_ok hfr) ok.kind (fun y hy e => by rw [ok.uniq y hy, e])
    (thn (hi.run pns s σ H _ I h) fun xv z1 hx => thn hx fun itq z2 h2 => ?_)
  obtain ⟨it, fp, tn, J, G2, e, V2, T, τ2, φ2, q⟩ := h2
  subst e
  refine wpAny_newObj_type (newEnv_comp ?_)
  generalize hD : z2.heap.objs.size = D
  have hDn : G2 D = none := V2.hok.fresh (Nat.le_of_eq hD)
  obtain ⟨W, ⟨m0, ω0⟩, trn⟩ := q D hDn
  -- the new list
  generalize hs3 : ({ z2 with heap := z2.heap.push { cls := .type "dict", data := .dict #[] } } : Shared) = z3
  have V3 : Inv X pns σ (upd G2 D (.dT [])) z3 := by
    rw [← hs3]
    refine V2.laid (t' := z2.toks) (fun b o e => Heap.get?_push_of_some _ e) (Nat.le_of_eq hD) ?_
    rw [← hD]
    exact dt_empty z2.heap V2.big
  have h3 : z3.heap = z2.heap.push { cls := .type "dict", data := .dict #[] } := by rw [← hs3]
  have sz : ∀ b ∈ fp, b < z2.heap.objs.size := fun b hb => by
    obtain ⟨o, e, _⟩ := T.obj _ _ τ2 b hb
    exact Heap.lt_size e
  have φ3 : ∀ b ∈ fp, FpOk X pns (upd G2 D (.dT [])) b ∧ b < z3.heap.objs.size := fun b hb => by
    have hlt := sz b hb
    refine ⟨⟨?_, (φ2 b hb).2⟩, by rw [h3, Heap.size_push]; exact Nat.lt_succ_of_lt hlt⟩
    rw [upd_ne (by rw [← hD]; exact Nat.ne_of_lt hlt)]
    exact (φ2 b hb).1
  have τ3 : tn 0 z3.heap := T.keep _ _ _ τ2 fun b _ o e => by rw [h3]; exact Heap.get?_push_of_some _ e
  have V4 := block_start V3 ok hN φ3
  have pg := hg z3 (upd G2 D (.dT [])) z3.heap.objs.size (cellsFrom (z3.heap.objs.size + 1) scope.names (cloFrom X.env.cells scope.names [])) fp
  have pt := ht z3 (upd G2 D (.dT [])) z3.heap.objs.size (cellsFrom (z3.heap.objs.size + 1) scope.names (cloFrom X.env.cells scope.names [])) fp
  have pk := hk z3 (upd G2 D (.dT [])) z3.heap.objs.size (cellsFrom (z3.heap.objs.size + 1) scope.names (cloFrom X.env.cells scope.names [])) fp
  have pe := he z3 (upd G2 D (.dT [])) z3.heap.objs.size (cellsFrom (z3.heap.objs.size + 1) scope.names (cloFrom X.env.cells scope.names [])) fp
  have pi1 := hi1 z3 (upd G2 D (.dT [])) z3.heap.objs.size (cellsFrom (z3.heap.objs.size + 1) scope.names (cloFrom X.env.cells scope.names [])) fp
  have pg1 := hg1 z3 (upd G2 D (.dT [])) z3.heap.objs.size (cellsFrom (z3.heap.objs.size + 1) scope.names (cloFrom X.env.cells scope.names [])) fp
  have pt1 := ht1 z3 (upd G2 D (.dT [])) z3.heap.objs.size (cellsFrom (z3.heap.objs.size + 1) scope.names (cloFrom X.env.cells scope.names [])) fp
  show codeAny _ _ (.compStart (.DictComp kx vx [⟨tg, iter, ifs, 0⟩, ⟨tg1, iter1, ifs1, 0⟩] scope pos) 0 (.ref it) (.ref D) (compEnvC scope (cellsFrom (z3.heap.objs.size + 1) scope.names (cloFrom X.env.cells scope.names [])) z3.heap.objs.size X.env)) (compPost (model X.prog X.w) X.A X.xe use Qf (.ref D) z3.heap.objs.size) { z3 with heap := pushCells (z3.heap.push { cls := .type "dict", data := .dict #[] }) scope.names }
  have nof : ∀ b ∈ fp, (upd G2 D (.dT [])) b = none := fun b hb => (φ3 b hb).1.1
  generalize hcc : compEnvC scope (cellsFrom (z3.heap.objs.size + 1) scope.names (cloFrom X.env.cells scope.names [])) z3.heap.objs.size X.env = ce at V4 pg pt pk pe pi1 pg1 pt1 ⊢
  have cLo : ce.locals = z3.heap.objs.size := by subst hcc; rfl
  generalize hH3 : upd G2 D (.dT []) = G3 at V3 V4 pg pt pk pe pi1 pg1 pt1 ω0 nof φ3
  generalize hs4 : ({ z3 with heap := pushCells (z3.heap.push { cls := .type "dict", data := .dict #[] }) scope.names } : Shared) = z4 at V4 ⊢
  have τ4 : tn 0 z4.heap := T.keep _ _ _ τ3 fun b _ o e => by rw [← hs4]; exact pushCells_keeps _ _ _ _ (Heap.get?_push_of_some _ e)
  have statA : ∀ {σ' : St} {H' : Hp} {s' : Shared}, Inv (X.blk z3 G3 scope ce fp) [] σ' H' s' → (∀ b ∈ fp, H' b = none) → ∀ b ∈ fp, FpOk (X.blk z3 G3 scope ce fp) [] H' b := fun {σ' H' s'} I' hn b hb =>
    ⟨hn b hb, (I'.ok.exf b hb).1, I'.ok.exfs b hb, .inl hb, fun x c e => (I'.ok.exf b hb).2 x c e, fun p hp => absurd (show p ∈ ([] : List (Addr × Obj)) ++ [] from hp) (by simp)⟩
  have loop : codeAny (model X.prog X.w) X.A (.compLoop (.DictComp kx vx [⟨tg, iter, ifs, 0⟩, ⟨tg1, iter1, ifs1, 0⟩] scope pos) 0 (.ref it) (.ref D) ce) (compPost (model X.prog X.w) X.A X.xe use Qf (.ref D) z3.heap.objs.size) z4 := by
    refine dcLoop_out (hs1 ce) (fun n s' => ∃ i H', Inv (X.blk z3 G3 scope ce fp) [] (wipe σ (own.map (·.2))) H' s' ∧ tn i s'.heap ∧ (∀ b ∈ fp, H' b = none) ∧ W i n H') ?_ m0 ⟨0, G3, V4, τ4, nof, ω0⟩
    rintro n z5 ⟨i, G5, V5, τ5, ν5, ω5⟩
    rcases trn i n G5 ω5 with ⟨stop, qq⟩ | ⟨go, Nx, hNxA, stp⟩
    · have td := T.done (X.blk z3 G3 scope ce fp) rfl rfl rfl hc i [] z5 _ G5 (fun _ _ => False) V5 (statA V5 ν5) τ5 stop
      refine thnF td fun r z6 ⟨hr, V6⟩ => ?_
      subst hr
      -- back in the def's context
      have V7 : Inv X pns σ G5 z6 := V3.call' (ch := fp) V6.os V6.base V6.hok V6.bare fun b hb => ⟨(φ3 b hb).1.2.2.2.1, (φ3 b hb).1.2.1, (φ3 b hb).1.2.2.2.2.1, (φ3 b hb).1.2.2.2.2.2⟩
      have nC : G5 z3.heap.objs.size = none := by
        have z : G5 ce.locals = none := V6.free
        rw [cLo] at z
        exact z
      obtain ⟨m, hn, _⟩ := V6.loc
      have hn : z6.heap.Ns ce.locals m := hn
      rw [cLo] at hn
      exact hEnd D z3.heap.objs.size z6 m G5 V7 qq hn (V3.fpOk (Nat.le_refl _) nC)
    · have ti := T.item (X.blk z3 G3 scope ce fp) rfl rfl rfl hc i [] z5 _ G5 (fun _ _ => False) V5 (statA V5 ν5) τ5 go
      refine thnF ti fun r z6 ⟨u, hr, h6⟩ => ?_
      subst hr
      refine thnF h6 fun _ z7 ⟨x, G7, V7, ρ7, υ7, τ7, ν7⟩ => ?_
      have V7' := V7.pinned (statA V7 ν7) (T.obj _ _ τ7)
      refine thnF (pg.run _ z7 _ G7 x u _ V7' ρ7 (stp x G7 υ7)) fun _ z8 ⟨σ8, G8, V8, hw8, θ8⟩ => ?_
      refine thnF (pt.run _ z8 σ8 G8 _ V8 θ8) fun b z9 ⟨G9, V9, θ9⟩ => ?_
      -- the trn's end, from any slots that know what the block knew at its start
      have endA : ∀ {σ9 : St} {s' : Shared} {H' : Hp}, Inv (X.blk z3 G3 scope ce fp) ([] ++ pinsAt fp z7.heap) σ9 H' s' → (wipe σ (own.map (·.2))).length = σ9.length → (∀ (j : Nat) v, (wipe σ (own.map (·.2)))[j]? = some (some v) → σ9[j]? = some (some v)) → Nx H' →
          ∃ m, m < n ∧ ∃ i H', Inv (X.blk z3 G3 scope ce fp) [] (wipe σ (own.map (·.2))) H' s' ∧ tn i s'.heap ∧ (∀ b ∈ fp, H' b = none) ∧ W i m H' := fun {σ9 s' H'} I' hl hk nx => by
        obtain ⟨m', hm, w'⟩ := hNxA H' nx
        have pinn : ∀ b ∈ fp, ∀ o, z7.heap.get? b = some o → s'.heap.get? b = some o ∧ H' b = none := fun b hb o e =>
          let z := I'.pin (b, o) (List.mem_append_right _ (List.mem_append_right _ (mem_pinsAt hb e)))
          ⟨z.1, z.2.1⟩
        refine ⟨m', hm, i + 1, H', (I'.unpinned (pins := [])).weak hl hk, T.keep _ _ _ τ7 fun b hb o e => (pinn b hb o e).1, fun b hb => ?_, w'⟩
        obtain ⟨o, e, _⟩ := T.obj _ _ τ7 b hb
        exact (pinn b hb o e).2
      have len8 : (wipe σ (own.map (·.2))).length = σ8.length := by rw [← hw8, wipe_length]
      have say8 : ∀ (j : Nat) v, (wipe σ (own.map (·.2)))[j]? = some (some v) → σ8[j]? = some (some v) := fun j v e => by
        rw [← hw8] at e
        exact (wipe_some e).1
      have say9 : ∀ (j : Nat) v, (wipe σ (own.map (·.2)))[j]? = some (some v) → (wipe σ8 vs1)[j]? = some (some v) := fun j v e => by
        rw [← hw8] at e
        obtain ⟨e1, e2⟩ := wipe_some e
        rw [wipe_out fun z => e2 (hv j z)]
        exact e1
      cases b with
      | false =>
        simp only [Bool.false_eq_true, if_false] at θ9 ⊢
        exact endA V9 len8 say8 θ9
      | true =>
        simp only [if_true] at θ9 ⊢
        refine thnF (pi1.run _ z9 σ8 G9 _ V9 θ9) fun xv z10 hx => thnF hx fun itq z11 h11 => ?_
        obtain ⟨it1, fp1, tn1, J1, G11, e1, V11, T1, τ11, φ11, W1, ⟨m1, ω1⟩, trnB⟩ := h11
        subst e1
        -- the inner loop
        have statB : ∀ {H' : Hp}, (∀ b ∈ fp1, H' b = none) → ∀ b ∈ fp1, FpOk (X.blk z3 G3 scope ce fp) ([] ++ pinsAt fp z7.heap) H' b := fun hn b hb => ⟨hn b hb, (φ11 b hb).2⟩
        have loopB : codeAny (model X.prog X.w) X.A (.compLoop (.DictComp kx vx [⟨tg, iter, ifs, 0⟩, ⟨tg1, iter1, ifs1, 0⟩] scope pos) 1 (.ref it1) (.ref D) ce)
            (fun r s' => match r with
              | .ok _ => ∃ m, m < n ∧ ∃ i H', Inv (X.blk z3 G3 scope ce fp) [] (wipe σ (own.map (·.2))) H' s' ∧ tn i s'.heap ∧ (∀ b ∈ fp, H' b = none) ∧ W i m H'
              | .error _ => False) z11 := by
          refine dcLoop_in (fun k s' => ∃ j H', Inv (X.blk z3 G3 scope ce fp) ([] ++ pinsAt fp z7.heap) (wipe σ8 vs1) H' s' ∧ tn1 j s'.heap ∧ (∀ b ∈ fp1, H' b = none) ∧ W1 j k H') ?_ m1 ⟨0, G11, V11.weak (wipe_length _ _) (fun j v e => (wipe_some e).1), τ11, fun b hb => (φ11 b hb).1, ω1⟩
          rintro k z12 ⟨j, G12, V12, τ12, ν12, ω12⟩
          rcases trnB j k G12 ω12 with ⟨stop1, nx1⟩ | ⟨go1, Nx1, hNxB, stpB⟩
          · refine thnF (T1.done (X.blk z3 G3 scope ce fp) rfl rfl rfl hc j _ z12 (wipe σ8 vs1) G12 (fun _ _ => False) V12 (statB ν12) τ12 stop1) fun r z13 ⟨hr, V13⟩ => ?_
            subst hr
            exact endA V13 (len8.trans (wipe_length σ8 vs1).symm) say9 nx1
          · refine thnF (T1.item (X.blk z3 G3 scope ce fp) rfl rfl rfl hc j _ z12 (wipe σ8 vs1) G12 (fun _ _ => False) V12 (statB ν12) τ12 go1) fun r z13 ⟨u1, hr, h13⟩ => ?_
            subst hr
            refine thnF h13 fun _ z14 ⟨x1, G14, V14, ρ14, υ14, τ14, ν14⟩ => ?_
            have V14' := V14.pinned (statB ν14) (T1.obj _ _ τ14)
            refine thnF (pg1.run _ z14 (wipe σ8 vs1) G14 x1 u1 _ V14' ρ14 (stpB x1 G14 υ14)) fun _ z15 ⟨σ15, G15, V15, hw15, θ15⟩ => ?_
            refine thnF (pt1.run _ z15 σ15 G15 _ V15 θ15) fun b1 z16 ⟨G16, V16, θ16⟩ => ?_
            have endB : ∀ {s' : Shared} {H' : Hp}, Inv (X.blk z3 G3 scope ce fp) (([] ++ pinsAt fp z7.heap) ++ pinsAt fp1 z14.heap) σ15 H' s' → Nx1 H' → ∃ m, m < k ∧ ∃ j H', Inv (X.blk z3 G3 scope ce fp) ([] ++ pinsAt fp z7.heap) (wipe σ8 vs1) H' s' ∧ tn1 j s'.heap ∧ (∀ b ∈ fp1, H' b = none) ∧ W1 j m H' := fun {s' H'} I' nx => by
              obtain ⟨m', hm, w'⟩ := hNxB H' nx
              have pinn : ∀ b ∈ fp1, ∀ o, z14.heap.get? b = some o → s'.heap.get? b = some o ∧ H' b = none := fun b hb o e =>
                let z := I'.pin (b, o) (List.mem_append_right _ (List.mem_append_right _ (mem_pinsAt hb e)))
                ⟨z.1, z.2.1⟩
              refine ⟨m', hm, j + 1, H', I'.unpinned.weak (by rw [← hw15, wipe_length]) (fun j v e => by rw [← hw15] at e; exact (wipe_some e).1), T1.keep _ _ _ τ14 fun b hb o e => (pinn b hb o e).1, fun b hb => ?_, w'⟩
              obtain ⟨o, e, _⟩ := T1.obj _ _ τ14 b hb
              exact (pinn b hb o e).2
            cases b1 with
            | false =>
              simp only [Bool.false_eq_true, if_false] at θ16 ⊢
              exact endB V16 θ16
            | true =>
              simp only [if_true] at θ16 ⊢
              refine thnF (pk.run _ z16 σ15 G16 _ V16 θ16) fun zk z19 ⟨yk, G19, V19, ρ19, θ19⟩ => ?_
              refine thnF (pe.run _ z19 σ15 G19 _ V19 θ19) fun zv z17 ⟨yv, G17, V17, ρ17, kvs, k9, bk, ek, hbk, hD17, hz17, nx⟩ => ?_
              subst ek
              exact d_dictSetT (X := X.blk z3 G3 scope ce fp) hu V17 hD17 hz17 hbk ρ19 ρ17 fun z18 V18 => endB V18 nx
        exact dcStart1 loopB (T1.self X.A 0 _ _ _ τ11 loopB)
  exact codeAny_compStart_dict loop (T.self X.A 0 _ _ _ τ4 loop)
theorem pe_dc2 {kx vx tg iter tg1 iter1 : Expr} {ifs ifs1 : List Expr} {scope : Scope} {own : List (Str × Nat)} {vs1 : List Nat} {pos : Pos} {wi wi1 : TI} {g g1 : TG} {tt tt1 : TT} {tk te : TE} (hu : X.A.units < cLine) (hc : X.calm = true) (hN : X.N.Nodup) (hi : PI X tg iter wi) (ok : BlkOk X.N X.env.scope scope own) (hv : ∀ i ∈ vs1, i ∈ own.map (·.2))
    (hg : ∀ (s : Shared) (H : Hp) (C : Addr) (cl : List (Str × Addr)) (fp : List Addr), PG (X.blk s H scope (compEnvC scope cl C X.env) fp) tg g) (ht : ∀ (s : Shared) (H : Hp) (C : Addr) (cl : List (Str × Addr)) (fp : List Addr), PTs (X.blk s H scope (compEnvC scope cl C X.env) fp) ifs tt)
    (hi1 : ∀ (s : Shared) (H : Hp) (C : Addr) (cl : List (Str × Addr)) (fp : List Addr), PI (X.blk s H scope (compEnvC scope cl C X.env) fp) tg1 iter1 wi1)
    (hg1 : ∀ (s : Shared) (H : Hp) (C : Addr) (cl : List (Str × Addr)) (fp : List Addr), PG (X.blk s H scope (compEnvC scope cl C X.env) fp) tg1 g1) (ht1 : ∀ (s : Shared) (H : Hp) (C : Addr) (cl : List (Str × Addr)) (fp : List Addr), PTs (X.blk s H scope (compEnvC scope cl C X.env) fp) ifs1 tt1)
    (hk : ∀ (s : Shared) (H : Hp) (C : Addr) (cl : List (Str × Addr)) (fp : List Addr), PE (X.blk s H scope (compEnvC scope cl C X.env) fp) kx tk) (he : ∀ (s : Shared) (H : Hp) (C : Addr) (cl : List (Str × Addr)) (fp : List Addr), PE (X.blk s H scope (compEnvC scope cl C X.env) fp) vx te) (hs : ∀ x, foldedSetIterable iter X.env x = pure x := by intro _; rfl) (hs1 : ∀ env x, foldedSetIterable iter1 env x = pure x := by intro _ _; rfl) :
    PE X (.DictComp kx vx [⟨tg, iter, ifs, 0⟩, ⟨tg1, iter1, ifs1, 0⟩] scope pos) (tDc2 wi g tt wi1 g1 tt1 tk te (own.map (·.2)) vs1) := by
  refine ⟨fun pns s σ H Q I h => ?_⟩
  rw [arm_eval_DictComp]
  refine dc2_core hu hc hN I hi ok hv hg ht hk he hs hi1 hg1 ht1 hs1 h fun D C s' m H' I' q hn f => ⟨m, hn, fun h'' sb => ?_⟩
  obtain ⟨φ0, φ1, φ2, φ3, φ4, φ5⟩ := f
  exact ⟨.ref D, H', I'.turned (t' := s'.toks) (fun b o hb e => (sb.2 b hb).trans e) φ0 φ1 φ3 φ4 φ5, rfl, q⟩
end
end L2

/-! text Sd12 -/
set_option Elab.async false
set_option linter.all false
set_option maxRecDepth 100000
set_option maxHeartbeats 2000000
/-! Sd12: dict comprehensions by data. -/
namespace Sd
open PySem PySem.Spec PyProof.Rows L2
section
variable {C : FC} {X : Cx} {ow : Ow} {en : En} {kx vx tg iter tg1 iter1 : Expr} {scope : Scope} {own : List (Str × Nat)} {pos : Pos} {need need1 : Ow} {n n1 : Nat} {item item1 : Nat → SV → Prop}
theorem zip_snoc {κ : Type} {ks : List κ} {xs : List V} {k : κ} {v : V} (h : ks.length = xs.length) : ks.zip xs ++ [(k, v)] = (ks ++ [k]).zip (xs ++ [v]) := by
  rw [List.zip_append h]
  rfl
theorem valV_out {κ : Type} [DecidableEq κ] {ks : List κ} {xs : List V} {k : κ} (h : k ∉ ks) : valV (ks.zip xs) k = none := by
  induction ks generalizing xs with
  | nil => rfl
  | cons a ks ih =>
    cases xs with
    | nil => rfl
    | cons b xs =>
      rw [List.zip_cons_cons, valV_neg (fun (e : a = k) => h (by rw [e]; exact List.mem_cons_self))]
      exact ih fun e => h (List.mem_cons_of_mem _ e)
/-- one turn of {k: v for ..}: a new key -/
structure DcTurn (C : FC) (X : Cx) (ow : Ow) (en : En) (scope : Scope) (own : List (Str × Nat)) (tg kx vx : Expr) (s : SV) (ks : List Key) (acc : List SV) (A' : List Key → List SV → Prop) : Prop where
  ex : ∃ (js : List Nat) (en' : En) (k : Key) (P : SV → Prop), (∀ i ∈ js, i ∈ own.map (·.2)) ∧ (∀ s0 H Ca cl fp, TgD C (X.blk s0 H scope (compEnvC scope cl Ca X.env) fp) ow tg js s (wipeE en (own.map (·.2))) en') ∧
    (∀ s0 H Ca cl fp, EvD C (X.blk s0 H scope (compEnvC scope cl Ca X.env) fp) ow en' kx (kS k)) ∧ k ∉ ks ∧ (∀ s0 H Ca cl fp, EvP C (X.blk s0 H scope (compEnvC scope cl Ca X.env) fp) ow en' vx P) ∧ ∀ r, P r → A' (ks ++ [k]) (acc ++ [r])
/-- {k: v for tg in iter} -/
theorem en_dc (own : List (Str × Nat)) (A : Nat → List Key → List SV → Prop) (hi : EvI C X ow en tg iter need n item) (hn : n ≤ sizeLine) (hneed : ∀ q ∈ need, q ∈ ow) (h0 : A 0 [] [])
    (hs : ∀ C', FC.Le C C' → ∀ i s ks acc, i < n → item i s → A i ks acc → DcTurn C' X ow en scope own tg kx vx s ks acc (A (i + 1)))
    (hN : X.N.Nodup) (ok : BlkOk X.N X.env.scope scope own) (hc : X.calm = true := by rfl) (hfs : ∀ x, foldedSetIterable iter X.env x = pure x := by intro _; rfl) :
    EvN C X ow en (.DictComp kx vx [⟨tg, iter, [], 0⟩] scope pos) (fun oc => ∃ ks acc, oc = .dK ks acc ∧ A n ks acc) :=
  ⟨fun B σ H S Q q => ⟨_, pe_dc (g := fun v σ H Q => ∀ s0 H0 Ca cl fp, WG (X.blk s0 H0 scope (compEnvC scope cl Ca X.env) fp) tg v σ H Q) (tt := fun σ H Q => Q true H) (tk := fun σ H Q => ∀ s0 H0 Ca cl fp, WE (X.blk s0 H0 scope (compEnvC scope cl Ca X.env) fp) kx σ H Q) (tv := fun σ H Q => ∀ s0 H0 Ca cl fp, WE (X.blk s0 H0 scope (compEnvC scope cl Ca X.env) fp) vx σ H Q) hc hN pi_wi ok
      (fun s0 H0 Ca cl fp => ⟨fun pins s σ H v u Q I r h => by
        obtain ⟨t, ht, z⟩ := h s0 H0 Ca cl fp
        exact ht.run pins s σ H v u Q I r z⟩) (fun s0 H0 Ca cl fp => pts_nil) (fun s0 H0 Ca cl fp => ⟨fun pins s σ H Q I h => by
        obtain ⟨t, ht, z⟩ := h s0 H0 Ca cl fp
        exact ht.run pins s σ H Q I z⟩) (fun s0 H0 Ca cl fp => ⟨fun pins s σ H Q I h => by
        obtain ⟨t, ht, z⟩ := h s0 H0 Ca cl fp
        exact ht.run pins s σ H Q I z⟩) hfs, hi.run B σ H S _ fun J gs B1 H1 e1 rg wj => by
    intro p hp
    have N0 : NxN (C.sees gs) X.K ow en σ B1 H1 p (.dK [] []) B1 (upd H1 p (.dK [])) := NxN.hold (e1.sta.sees rg) hp ⟨[], upd_same, rfl, rfl⟩
    refine ⟨fun i m H' => m = n - i ∧ i ≤ n ∧ ∃ ks acc B', A i ks acc ∧ acc.length ≤ i ∧ NxN (C.sees gs) X.K ow en σ B1 H1 p (.dK ks acc) B' H', ⟨n, by simp, Nat.zero_le _, [], [], B1, h0, Nat.le_refl _, N0⟩, ?_⟩
    rintro i m H' ⟨rfl, hi, ks, acc, B', ha, hl, N⟩
    obtain ⟨go, stop⟩ := wj B' H' N.sta.seen N.sta.sub fun q hq => (N.sta.own _ (List.mem_cons_of_mem _ (hneed q hq))).2.2
    by_cases hlt : i < n
    · obtain ⟨g1, g2⟩ := go i hlt
      refine .inr ⟨g1, fun H'' => ∃ ks acc B', A (i + 1) ks acc ∧ acc.length ≤ i + 1 ∧ NxN (C.sees gs) X.K ow en σ B1 H1 p (.dK ks acc) B' H'', fun H'' z => ⟨n - (i + 1), by omega, rfl, hlt, z⟩, fun x H2 y => ?_⟩
      obtain ⟨s, B2, is, g, r⟩ := g2 x H2 y
      obtain ⟨js, en', k, P, hjs, hT, hK, hk, hE, hP⟩ := (hs (C.sees gs) .sees i s ks acc hlt is ha).ex
      have S2 : Sta (C.sees gs) X.K B2 ((p, .dK ks acc) :: ow) en σ H2 := N.sta.grow g
      have Sw := S2.wipe (own.map (·.2))
      intro s0 H0 Ca cl fp
      refine (hT s0 H0 Ca cl fp).more.run B2 _ H2 x Sw r _ fun σ3 b3 S3 => ⟨by rw [b3.wipe hjs, lc_read.wipe_wipe], ?_⟩
      show (if true = true then _ else _)
      rw [if_pos rfl]
      intro s0 H0 Ca cl fp
      refine (hK s0 H0 Ca cl fp).more.run B2 σ3 H2 S3 _ fun vk sk B4 H4 ek n4 rk => ?_
      subst ek
      intro s0 H0 Ca cl fp
      refine (hE s0 H0 Ca cl fp).more.run B4 σ3 H4 n4.sta _ fun v r5 B5 H5 p5 n5 r5' => ?_
      obtain ⟨_, _, xs, hx, l0, lx⟩ := n5.sta.own _ List.mem_cons_self
      have hx : H5 p = some (.dK (ks.zip xs)) := hx
      have l0 : ks.length = xs.length := l0
      have hxl : xs.length < sizeLine := by rw [← lx.length]; omega
      have e9 : putK (ks.zip xs) k v = (ks ++ [k]).zip (xs ++ [v]) := by rw [putK_new v (valV_out hk), zip_snoc l0]
      have S6 : Sta (C.sees gs) X.K B5 ((p, .dK (ks ++ [k]) (acc ++ [r5])) :: ow) en' σ3 (upd H5 p (.dK (putK (ks.zip xs) k v))) := n5.sta.write .here ⟨xs ++ [v], by rw [upd_same, e9], by simp [l0], lx.append (RpSL.cons r5' RpSL.nil)⟩
      refine ⟨_, k, rs_key.mp rk, hx, by rw [List.length_zip]; omega, _, _, B5, hP r5 p5, by rw [List.length_append, List.length_singleton]; omega, ?_⟩
      refine ⟨((N.exB.trans g.exB).trans n4.exB).trans n5.exB, fun a o h1 h2 => ?_, fun a h => ?_, N.new, S2.slots (C2 := C.sees gs) S6 (n4.exB.trans n5.exB)⟩
      · have ne : a ≠ p := ne_of_none h2 N.new
        rw [upd_ne ne]
        exact n5.fr a o (by simp [h1, ne]) (n4.fr a o (by simp [h1, ne]) (g.exH _ _ (N.fr a o h1 h2)))
      · rcases n5.nw a h with h | h
        · rcases n4.nw a h with h | h
          · rcases g.new a h with h | h
            · exact N.nw a h
            · exact .inr (lc_read.free1 N h)
          · exact .inr (lc_read.free1 N (lc_read.free2 g h))
        · exact .inr (lc_read.free1 N (lc_read.free2 g (n4.free h)))
    · have e : i = n := by omega
      subst e
      exact .inl ⟨stop, q p _ B' H' ⟨ks, acc, rfl, ha⟩ (e1.trN ⟨N.exB, N.fr, N.nw, N.new, N.sta.unsees⟩)⟩⟩⟩
/-- {k: v for tg in iter for tg1 in iter1}, keys tuples, each new -/
structure Dc2In (C : FC) (X : Cx) (ow : Ow) (en1 : En) (scope : Scope) (vs1 : List Nat) (tg1 kx vx : Expr) (s : SV) (ks : List (List Key)) (acc : List SV) (A' : List (List Key) → List SV → Prop) : Prop where
  ex : ∃ (js : List Nat) (en' : En) (k : List Key) (P : SV → Prop), (∀ i ∈ js, i ∈ vs1) ∧ (∀ s0 H Ca cl fp, TgD C (X.blk s0 H scope (compEnvC scope cl Ca X.env) fp) ow tg1 js s (wipeE en1 vs1) en') ∧
    (∀ s0 H Ca cl fp, EvD C (X.blk s0 H scope (compEnvC scope cl Ca X.env) fp) ow en' kx (.val (.key k))) ∧ k ∉ ks ∧ (∀ s0 H Ca cl fp, EvP C (X.blk s0 H scope (compEnvC scope cl Ca X.env) fp) ow en' vx P) ∧ ∀ r, P r → A' (ks ++ [k]) (acc ++ [r])
structure Dc2Out (C : FC) (X : Cx) (ow : Ow) (en : En) (scope : Scope) (own : List (Str × Nat)) (vs1 : List Nat) (tg tg1 iter1 kx vx : Expr) (need1 : Ow) (n1 : Nat) (item1 : Nat → SV → Prop) (s : SV) (A : Nat → List (List Key) → List SV → Prop) : Prop where
  ex : ∃ (js : List Nat) (en1 : En), (∀ i ∈ js, i ∈ own.map (·.2)) ∧ (∀ s0 H Ca cl fp, TgD C (X.blk s0 H scope (compEnvC scope cl Ca X.env) fp) ow tg js s (wipeE en (own.map (·.2))) en1) ∧
    (∀ s0 H Ca cl fp, EvI C (X.blk s0 H scope (compEnvC scope cl Ca X.env) fp) ow en1 tg1 iter1 need1 n1 item1) ∧ ∀ C', FC.Le C C' → ∀ j s ks acc, j < n1 → item1 j s → A j ks acc → Dc2In C' X ow en1 scope vs1 tg1 kx vx s ks acc (A (j + 1))
theorem EvI.more {e tg : Expr} {p : Addr} {oc : OC} (h : EvI C X ow en tg e need n item) : EvI C X ((p, oc) :: ow) en tg e need n item :=
  ⟨fun B σ H S R q => h.run B σ H (S.drop (List.sublist_cons_self _ _)) R fun J gs B' H' nx rg wj => q J gs B' H' (nx.more S) rg wj⟩
theorem en_dc2 (own : List (Str × Nat)) (vs1 : List Nat) (A : Nat → Nat → List (List Key) → List SV → Prop) (hi : EvI C X ow en tg iter need n item) (hn : n * n1 ≤ sizeLine) (hneed : ∀ q ∈ need, q ∈ ow) (hneed1 : ∀ q ∈ need1, q ∈ ow) (h0 : A 0 0 [] [])
    (hs : ∀ C', FC.Le C C' → ∀ i s, i < n → item i s → Dc2Out C' X ow en scope own vs1 tg tg1 iter1 kx vx need1 n1 item1 s (A i)) (hj : ∀ i ks acc, i < n → A i n1 ks acc → A (i + 1) 0 ks acc)
    (hN : X.N.Nodup) (ok : BlkOk X.N X.env.scope scope own) (hv : ∀ i ∈ vs1, i ∈ own.map (·.2)) (hu : X.A.units < cLine) (hc : X.calm = true := by rfl) (hfs : ∀ x, foldedSetIterable iter X.env x = pure x := by intro _; rfl) (hfs1 : ∀ env x, foldedSetIterable iter1 env x = pure x := by intro _ _; rfl) :
    EvN C X ow en (.DictComp kx vx [⟨tg, iter, [], 0⟩, ⟨tg1, iter1, [], 0⟩] scope pos) (fun oc => ∃ ks acc, oc = .dT ks acc ∧ A n 0 ks acc) :=
  ⟨fun B σ H S Q q => ⟨_, pe_dc2 (g := fun v σ H Q => ∀ s0 H0 Ca cl fp, WG (X.blk s0 H0 scope (compEnvC scope cl Ca X.env) fp) tg v σ H Q) (tt := fun σ H Q => Q true H) (g1 := fun v σ H Q => ∀ s0 H0 Ca cl fp, WG (X.blk s0 H0 scope (compEnvC scope cl Ca X.env) fp) tg1 v σ H Q) (tt1 := fun σ H Q => Q true H)
      (wi1 := fun σ H R => ∀ s0 H0 Ca cl fp, WI (X.blk s0 H0 scope (compEnvC scope cl Ca X.env) fp) tg1 iter1 σ H R) (tk := fun σ H Q => ∀ s0 H0 Ca cl fp, WE (X.blk s0 H0 scope (compEnvC scope cl Ca X.env) fp) kx σ H Q) (te := fun σ H Q => ∀ s0 H0 Ca cl fp, WE (X.blk s0 H0 scope (compEnvC scope cl Ca X.env) fp) vx σ H Q) hu hc hN pi_wi ok hv
      (fun s0 H0 Ca cl fp => ⟨fun pins s σ H v u Q I r h => by
        obtain ⟨t, ht, z⟩ := h s0 H0 Ca cl fp
        exact ht.run pins s σ H v u Q I r z⟩) (fun s0 H0 Ca cl fp => pts_nil) (fun s0 H0 Ca cl fp => ⟨fun pins s σ H R I h => by
        obtain ⟨t, ht, z⟩ := h s0 H0 Ca cl fp
        exact ht.run pins s σ H R I z⟩) (fun s0 H0 Ca cl fp => ⟨fun pins s σ H v u Q I r h => by
        obtain ⟨t, ht, z⟩ := h s0 H0 Ca cl fp
        exact ht.run pins s σ H v u Q I r z⟩) (fun s0 H0 Ca cl fp => pts_nil) (fun s0 H0 Ca cl fp => ⟨fun pins s σ H Q I h => by
        obtain ⟨t, ht, z⟩ := h s0 H0 Ca cl fp
        exact ht.run pins s σ H Q I z⟩) (fun s0 H0 Ca cl fp => ⟨fun pins s σ H Q I h => by
        obtain ⟨t, ht, z⟩ := h s0 H0 Ca cl fp
        exact ht.run pins s σ H Q I z⟩) hfs hfs1, hi.run B σ H S _ fun J gs B1 H1 e1 rg wj => by
    intro p hp
    have N0 : NxN (C.sees gs) X.K ow en σ B1 H1 p (.dT [] []) B1 (upd H1 p (.dT [])) := NxN.hold (e1.sta.sees rg) hp ⟨[], upd_same, rfl, rfl⟩
    refine ⟨fun i m H' => m = n - i ∧ i ≤ n ∧ ∃ ks acc B', A i 0 ks acc ∧ acc.length ≤ i * n1 ∧ NxN (C.sees gs) X.K ow en σ B1 H1 p (.dT ks acc) B' H', ⟨n, by simp, Nat.zero_le _, [], [], B1, h0, Nat.zero_le _, N0⟩, ?_⟩
    rintro i m H' ⟨rfl, hi, ks, acc, B', ha, hl, N⟩
    obtain ⟨go, stop⟩ := wj B' H' N.sta.seen N.sta.sub fun q hq => (N.sta.own _ (List.mem_cons_of_mem _ (hneed q hq))).2.2
    by_cases hlt : i < n
    · obtain ⟨g1, g2⟩ := go i hlt
      refine .inr ⟨g1, fun H'' => ∃ ks acc B', A (i + 1) 0 ks acc ∧ acc.length ≤ (i + 1) * n1 ∧ NxN (C.sees gs) X.K ow en σ B1 H1 p (.dT ks acc) B' H'', fun H'' z => ⟨n - (i + 1), by omega, rfl, hlt, z⟩, fun x H2 y => ?_⟩
      obtain ⟨s, B2, is, g, r⟩ := g2 x H2 y
      obtain ⟨js, en1, hjs, hT, hI, hin⟩ := (hs (C.sees gs) .sees i s hlt is).ex
      have S2 : Sta (C.sees gs) X.K B2 ((p, .dT ks acc) :: ow) en σ H2 := N.sta.grow g
      have N2 : NxN (C.sees gs) X.K ow en σ B1 H1 p (.dT ks acc) B2 H2 := ⟨N.exB.trans g.exB, fun a o h1 h2 => g.exH _ _ (N.fr a o h1 h2), fun a h => (g.new a h).elim (N.nw a) fun z => .inr (lc_read.free1 N z), N.new, S2⟩
      have Sw := S2.wipe (own.map (·.2))
      intro s0 H0 Ca cl fp
      refine (hT s0 H0 Ca cl fp).more.run B2 _ H2 x Sw r _ fun σ3 b3 S3 => ⟨by rw [b3.wipe hjs, lc_read.wipe_wipe], ?_⟩
      show (if true = true then _ else _)
      rw [if_pos rfl]
      intro s0 H0 Ca cl fp
      refine (hI s0 H0 Ca cl fp).more.run B2 σ3 H2 S3 _ fun J1 gs1 B3 H3 n3 rg1 wj1 => ?_
      have N3 : NxN ((C.sees gs).sees gs1) X.K ow en σ B1 H1 p (.dT ks acc) B3 H3 := ⟨N2.exB.trans n3.exB, fun a o h1 h2 => n3.fr a o (by
          have ne : a ≠ p := ne_of_none h2 N.new
          simp [h1, ne]) (N2.fr a o h1 h2), fun a h => (n3.nw a h).elim (N2.nw a) fun z => .inr (lc_read.free1 N2 z), N.new, (S2.slots (C2 := C.sees gs) n3.sta n3.exB).sees rg1⟩
      have S3' : Sta ((C.sees gs).sees gs1) X.K B3 ((p, .dT ks acc) :: ow) en1 σ3 H3 := n3.sta.sees rg1
      refine ⟨fun j k H' => k = n1 - j ∧ j ≤ n1 ∧ ∃ ks acc B', A i j ks acc ∧ acc.length ≤ i * n1 + j ∧ NxN ((C.sees gs).sees gs1) X.K ow en σ B1 H1 p (.dT ks acc) B' H' ∧ Sta ((C.sees gs).sees gs1) X.K B' ((p, .dT ks acc) :: ow) en1 σ3 H', ⟨n1, by simp, Nat.zero_le _, ks, acc, B3, ha, hl, N3, S3'⟩, ?_⟩
      rintro j k H4 ⟨rfl, hj1, ks, acc, B4, ha, hl, N4, S4⟩
      obtain ⟨go1, stop1⟩ := wj1 B4 H4 S4.seen S4.sub fun q hq => (S4.own _ (List.mem_cons_of_mem _ (hneed1 q hq))).2.2
      by_cases hlt1 : j < n1
      · obtain ⟨y1, y2⟩ := go1 j hlt1
        refine .inr ⟨y1, fun H'' => ∃ ks acc B', A i (j + 1) ks acc ∧ acc.length ≤ i * n1 + (j + 1) ∧ NxN ((C.sees gs).sees gs1) X.K ow en σ B1 H1 p (.dT ks acc) B' H'' ∧ Sta ((C.sees gs).sees gs1) X.K B' ((p, .dT ks acc) :: ow) en1 σ3 H'', fun H'' z => ⟨n1 - (j + 1), by omega, rfl, hlt1, z⟩, fun x1 H5 yy => ?_⟩
        obtain ⟨s1, B5, is1, g5, r5⟩ := y2 x1 H5 yy
        obtain ⟨js1, en2, kk, P, hjs1, hT1, hK, hk, hE, hP⟩ := (hin ((C.sees gs).sees gs1) .sees j s1 ks acc hlt1 is1 ha).ex
        have S5 : Sta ((C.sees gs).sees gs1) X.K B5 ((p, .dT ks acc) :: ow) en1 σ3 H5 := S4.grow g5
        have Sw5 := S5.wipe vs1
        intro s0 H0 Ca cl fp
        refine (hT1 s0 H0 Ca cl fp).more.run B5 _ H5 x1 Sw5 r5 _ fun σ6 b6 S6 => ⟨by rw [b6.wipe hjs1, lc_read.wipe_wipe], ?_⟩
        show (if true = true then _ else _)
        rw [if_pos rfl]
        intro s0 H0 Ca cl fp
        refine (hK s0 H0 Ca cl fp).more.run B5 σ6 H5 S6 _ fun vk sk B7 H7 ek n7 rk => ?_
        subst ek
        intro s0 H0 Ca cl fp
        refine (hE s0 H0 Ca cl fp).more.run B7 σ6 H7 n7.sta _ fun v r8 B8 H8 p8 n8 r8' => ?_
        obtain ⟨_, _, xs, hx, l0, lx⟩ := n8.sta.own _ List.mem_cons_self
        have hx : H8 p = some (.dT (ks.zip xs)) := hx
        have l0 : ks.length = xs.length := l0
        have hlen : i * n1 + n1 ≤ n * n1 := by
          have := Nat.mul_le_mul_right n1 (show i + 1 ≤ n from hlt)
          rw [Nat.succ_mul] at this
          exact this
        have hxl : xs.length < sizeLine := by rw [← lx.length]; omega
        have rk2 := rk.mono n8.exB
        simp only [RpS, Rp] at rk2
        obtain ⟨bk, ebk, hbk⟩ := rk2
        have e9 : putK (ks.zip xs) kk v = (ks ++ [kk]).zip (xs ++ [v]) := by rw [putK_new v (valV_out hk), zip_snoc l0]
        have S9 : ∀ en3 σ9, Sta ((C.sees gs).sees gs1) X.K B8 ((p, .dT ks acc) :: ow) en3 σ9 H8 → Sta ((C.sees gs).sees gs1) X.K B8 ((p, .dT (ks ++ [kk]) (acc ++ [r8])) :: ow) en3 σ9 (upd H8 p (.dT (putK (ks.zip xs) kk v))) := fun en3 σ9 S => S.write .here ⟨xs ++ [v], by rw [upd_same, e9], by simp [l0], lx.append (RpSL.cons r8' RpSL.nil)⟩
        refine ⟨_, kk, bk, ebk, n8.sta.sub _ _ hbk, hx, by rw [List.length_zip]; omega, _, _, B8, hP r8 p8, by rw [List.length_append, List.length_singleton]; omega, ?_, S9 _ _ (S5.slots (C2 := (C.sees gs).sees gs1) n8.sta (n7.exB.trans n8.exB))⟩
        refine ⟨((N4.exB.trans g5.exB).trans n7.exB).trans n8.exB, fun a o h1 h2 => ?_, fun a h => ?_, N.new, S9 _ _ ((N4.sta.grow g5).slots (C2 := (C.sees gs).sees gs1) n8.sta (n7.exB.trans n8.exB))⟩
        · have ne : a ≠ p := ne_of_none h2 N.new
          rw [upd_ne ne]
          exact n8.fr a o (by simp [h1, ne]) (n7.fr a o (by simp [h1, ne]) (g5.exH _ _ (N4.fr a o h1 h2)))
        · rcases n8.nw a h with h | h
          · rcases n7.nw a h with h | h
            · rcases g5.new a h with h | h
              · exact N4.nw a h
              · exact .inr (lc_read.free1 N4 h)
            · exact .inr (lc_read.free1 N4 (lc_read.free2 g5 h))
          · exact .inr (lc_read.free1 N4 (lc_read.free2 g5 (n7.free h)))
      · have e : j = n1 := by omega
        subst e
        refine .inl ⟨stop1, ks, acc, B4, hj i ks acc hlt ha, by rw [Nat.succ_mul]; exact hl, ⟨N4.exB, N4.fr, N4.nw, N4.new, N4.sta.unsees⟩⟩
    · have e : i = n := by omega
      subst e
      exact .inl ⟨stop, q p _ B' H' ⟨ks, acc, rfl, ha⟩ (e1.trN ⟨N.exB, N.fr, N.nw, N.new, N.sta.unsees⟩)⟩⟩⟩
theorem EvA.is {es : List Expr} {ss ss' : List SV} (h : EvA C X ow en es (· = ss)) (e : ss = ss') : EvA C X ow en es (· = ss') := e ▸ h
end
end Sd

/-! text W7 -/
set_option Elab.async false
set_option linter.all false
set_option maxRecDepth 100000
set_option maxHeartbeats 2000000
/-! W7: the rings of a line. -/
namespace Tx
open PySem PySem.Spec PyProof.Rows L2 Sd C8
theorem valS_idx {names : List Str} {x : Str} (h : x ∈ names) : ∀ k : Nat, valS (names.map (Sum.inr : Str → Key)) ((List.range' k names.length).map fun j => iv (j : Nat)) (Sum.inr x) = some (iv ((k + names.idxOf x : Nat) : Int)) := by
  induction names with
  | nil => cases h
  | cons a l ih =>
    intro k
    rw [List.map_cons, List.length_cons, List.range'_succ, List.map_cons, valS_cons]
    by_cases e : a = x
    · subst e
      simp
    · have e' : ¬ (Sum.inr a : Key) = Sum.inr x := fun z => e (by injection z)
      rw [if_neg e', ih ((List.mem_cons.mp h).resolve_left fun z => e z.symm) (k + 1), List.idxOf_cons]
      have e2 : (a == x) = false := beq_eq_false_iff_ne.mpr e
      rw [e2]
      congr 2
      simp only [cond_false]
      omega
def Ln.ends (L : Ln) : List (Nat × Nat) := L.lks.map fun l => (L.names.idxOf l.src, L.names.idxOf l.tgt)
abbrev dPair (e : Nat × Nat) : Sd.D := .tup [.int (e.1 : Nat), .int (e.2 : Nat)]
theorem nodup_len {α : Type} [DecidableEq α] : ∀ {l m : List α}, l.Nodup → (∀ x ∈ l, x ∈ m) → l.length ≤ m.length
  | [], _, _, _ => Nat.zero_le _
  | a :: l, m, nd, h => by
    rw [List.nodup_cons] at nd
    have hm : a ∈ m := h a List.mem_cons_self
    have := nodup_len (l := l) (m := m.erase a) nd.2 fun x hx => (List.mem_erase_of_ne fun (e : x = a) => nd.1 (e ▸ hx)).mpr (h x (List.mem_cons_of_mem _ hx))
    rw [List.length_erase_of_mem hm] at this
    have : 0 < m.length := List.length_pos_of_mem hm
    rw [List.length_cons]
    omega
/-- a way along the links, by their numbers -/
inductive Way (es : List (Nat × Nat)) (a : Nat) : List Nat → Nat → Prop where
  | nil : Way es a [] a
  | snoc {r : List Nat} {i b c : Nat} (h : Way es a r b) (e : es[i]? = some (b, c)) : Way es a (r ++ [i]) c
/-- a ring: a way back to where it began -/
def Ring (es : List (Nat × Nat)) (r : List Nat) : Prop := ∃ a, r ≠ [] ∧ r.length ≤ 4 ∧ Way es a r a
/-- what waits -/
structure Wt where
  ring : List Nat
  pre : List Nat
  cur : Nat
structure Wt.Ok (es : List (Nat × Nat)) (b : Nat) (t : Wt) : Prop where
  way : Way es b t.ring t.cur
  rl : t.ring.length = t.pre.length
  nd : (t.pre ++ [t.cur]).Nodup
  lt : ∀ x ∈ t.pre ++ [t.cur], x < 4
abbrev dNs (l : List Nat) : Sd.D := .tup (l.map fun (i : Nat) => Sd.D.int (i : Nat))
abbrev Wt.d (t : Wt) : Sd.D := .tup [dNs t.ring, dNs (t.pre ++ [t.cur])]
def Wt.wt (t : Wt) : Nat := 8 ^ (3 - t.pre.length)
def wts (l : List Wt) : Nat := (l.map Wt.wt).sum
theorem wts_snoc (l : List Wt) (t : Wt) : wts (l ++ [t]) = wts l + t.wt := by simp [wts]
theorem nodup4 {l : List Nat} (nd : l.Nodup) (h : ∀ x ∈ l, x < 4) : l.length ≤ 4 := by
  have := nodup_len nd (m := List.range 4) fun x hx => List.mem_range.mpr (h x hx)
  simpa using this
theorem natMem {x : Nat} {l : List Nat} : (x : Int) ∈ l.map (fun (i : Nat) => (i : Int)) ↔ x ∈ l := by
  rw [List.mem_map]
  exact ⟨fun ⟨a, h, e⟩ => Int.ofNat_inj.mp e ▸ h, fun h => ⟨x, h, rfl⟩⟩
theorem seqTN {ow : Ow} (l : List Nat) : SeqOf ow (.val (dNs l)) ((l.map fun (i : Nat) => (i : Int)).map iv) := by
  have := SeqOf.tup (ow := ow) (l.map fun (i : Nat) => Sd.D.int (i : Nat))
  rwa [List.map_map, show (SV.val ∘ fun (i : Nat) => Sd.D.int (i : Nat)) = (iv ∘ fun (i : Nat) => (i : Int)) from rfl, ← List.map_map] at this
section
variable {P : Program} {w : World} {K : Fg} {mg : Str → Option Value} {base : Heap}
theorem ok_ends_of (T : Txt K mg) : Cal P w K mg base 5 "ends_of" (Pr K (FX (fun L : Ln => [.val (dLn K L)]) (fun L => L.Ok) (fun L s => s = .val (.lst (L.ends.map dPair))))) [] := by
  obtain ⟨fd, F⟩ := T.f_ends_of
  refine cal_of F sc_ends_of (T.glo _) (bd_ends_of F) (by rintro ow ss post ⟨_, L, rfl, _⟩; rfl) fun cdv A outer sh H E C D ow ss post hr hR hM Fn Fx => ?_
  obtain ⟨rfl, L, rfl, hL, hp⟩ := hR
  have nd := sc_ends_of.nd
  have hn6 : L.names.length ≤ 6 := by rw [List.length_map]; exact hL.n1.2
  refine sd_setN 1 (en_dc [("index", 2), ("name", 3)] (fun i ks acc => ks = (L.names.take i).map (Sum.inr : Str → Key) ∧ acc = (List.range i).map fun k => iv (k : Nat)) (ei_enumT (ep_propX (ok_Line_names T) hr (by decide) (ed_var 0) (.val _ _ _) ⟨L, rfl, hL.n1.2, fun s e => e⟩) (T.free _)) (by rw [sizeLine_eq, List.length_map]; omega) (fun q hq => by cases hq) ⟨rfl, rfl⟩ ?_ nd (blk (N := N_ends_of) (sc := fnScope s_ends_of) (by decide +kernel))) (fun p oc e => ?_) nd
  · rintro C' le i s ks acc hi ⟨d, hd, rfl⟩ ⟨rfl, rfl⟩
    obtain ⟨x, hx, rfl⟩ := getE_map hd
    have hne : (Sum.inr x : Key) ∉ (L.names.take i).map (Sum.inr : Str → Key) := fun hm => by
      obtain ⟨y, hy, e⟩ := List.mem_map.mp hm
      have e : y = x := by injection e
      subst e
      exact fresh_at (f := id) (by rw [List.map_id]; exact hL.nd) hx hy rfl
    refine ⟨[2, 3], _, Sum.inr x, (· = iv (i : Nat)), by decide, fun _ _ _ _ _ => tg_tup rfl (tgs_cons (tg_name 2 nd) (tgs_cons (tg_name 3 nd) tgs_nil)), fun _ _ _ _ _ => ed_var 3, hne, fun _ _ _ _ _ => ed_var 2, fun r e => ⟨?_, ?_⟩⟩
    · rw [take_succ_map hx]
    · rw [e, List.range_succ, List.map_append]
      rfl
  · obtain ⟨ks, acc, rfl, rfl, rfl⟩ := e
    rw [List.length_map, List.take_length]
    refine sdp_ret Fn (P := (· = .val (.lst (L.ends.map dPair)))) ((ed_lc [("link", 4)] (fun i ds => ds = ((L.lks.take i).map fun l => (L.names.idxOf l.src, L.names.idxOf l.tgt)).map dPair) (ei_tup (ed_side (ok_Line_links T) hr (by decide) (ed_var 0) rfl)) (by rw [sizeLine_eq, List.length_map]; have := hL.n2; omega) (fun q hq => by cases hq) rfl ?_ nd (blk (N := N_ends_of) (sc := fnScope s_ends_of) (by decide +kernel))).imp fun s h => ?_) fun s e => ⟨[], List.nil_sublist _, hp _ e⟩
    · rintro C' le i s ds hi ⟨d, hd, rfl⟩ rfl
      obtain ⟨x, hx, rfl⟩ := getE_map hd
      have hm := hL.ends x (List.mem_of_getElem? hx)
      have rd : ∀ y ∈ L.names, DkAt [(p, .dK (L.names.map (Sum.inr : Str → Key)) ((List.range L.names.length).map fun k => iv (k : Nat)))] (.ptr p) (sv y) (some (iv ((L.names.idxOf y : Nat) : Int))) := fun y hy => .k (k := Sum.inr y) (.own p _ _ (List.mem_singleton.mpr rfl)) rfl (by
        rw [List.range_eq_range']
        have := valS_idx hy 0
        simpa using this)
      refine ⟨[4], _, (· = true), by decide, fun _ _ _ _ _ => tg_name 4 nd, fun _ _ _ _ _ => ets_nil, fun h => (by cases h), fun _ => ⟨(· = .val (dPair (L.names.idxOf x.src, L.names.idxOf x.tgt))), fun _ _ _ _ _ => ed_tup (ea_cons (ed_dget (hu_of hr) (ed_var 1) (ed_side (ok_Link_source T) hr (by decide) (ed_var 4) rfl) (rd _ hm.1)) (ea_cons (ed_dget (hu_of hr) (ed_var 1) (ed_side (ok_Link_target T) hr (by decide) (ed_var 4) rfl) (rd _ hm.2)) ea_nil)), fun r e => ?_⟩⟩
      subst e
      exact ⟨((L.lks.take (i + 1)).map fun l => (L.names.idxOf l.src, L.names.idxOf l.tgt)).map dPair, by rw [take_succ_map hx]; simp, rfl⟩
    · obtain ⟨ds, e1, e2⟩ := h
      rw [e1, e2, List.length_map, List.take_length]
      rfl
theorem ok_rings_from (T : Txt K mg) : Cal P w K mg base 1 "rings_from" (Pr K (fun ow ss post => ow = [] ∧ ∃ (es : List (Nat × Nat)) (b : Nat), ss = [.val (.lst (es.map dPair)), iv b] ∧ es.length ≤ 7 ∧ b < 4 ∧ (∀ e ∈ es, e.1 < 4 ∧ e.2 < 4) ∧
    ∀ (p : Addr) (fs : List (List Nat)), (∀ r ∈ fs, Ring es r) → fs.length ≤ 3584 → post (.ptr p) [(p, .lst ((fs.map dNs).map SV.val))])) [] := by
  obtain ⟨fd, F⟩ := T.f_rings_from
  refine cal_of F sc_rings_from (T.glo _) (bd_rings_from F) (by rintro ow ss post ⟨_, es, b, rfl, _⟩; rfl) fun cdv A outer sh H E C D ow ss post hr hR hM Fn Fx => ?_
  obtain ⟨rfl, es, b, rfl, he7, hb4, hlt, hp⟩ := hR
  have nd := sc_rings_from.nd
  refine sd_par 2 3 (eaw_new (A := (· = .lst [])) (en_lst ea_nil) fun pf _ e => e ▸ eaw_new (A := (· = .lst [.val (Wt.d ⟨[], [], b⟩)])) (en_lst (ea_cons (ed_tup (ds := [dNs [], dNs [b]]) (ea_cons (ed_tup (ds := []) ea_nil) (ea_cons (ed_tup (ds := [.int b]) (ea_cons (ed_var 1) ea_nil)) ea_nil))) ea_nil)) fun pw _ e => e ▸ eaw_nil ⟨_, _, rfl, ?_⟩) rfl nd (by decide)
  have hE : ∀ (en : En), en = en := fun _ => rfl
  refine sd_while (fun m ow en => ∃ (fs : List (List Nat)) (ws : List Wt) (x4 x5 x6 x7 x8 : SV), ow = [(pw, .lst ((ws.map Wt.d).map SV.val)), (pf, .lst ((fs.map dNs).map SV.val))] ∧ en = [.val (.lst (es.map dPair)), iv b, .ptr pf, .ptr pw, x4, x5, x6, x7, x8] ∧ (∀ r ∈ fs, Ring es r) ∧ (∀ t ∈ ws, t.Ok es b) ∧ m = wts ws ∧ fs.length + 7 * m ≤ 3584) 512 PassesOwn.never
    ⟨[], [⟨[], [], b⟩], .un, .un, .un, .un, .un, rfl, rfl, (fun r h => by cases h), (fun t h => ?_), rfl, by decide⟩ ?_
  · rw [List.mem_singleton.mp h]
    exact ⟨.nil, rfl, by simp, fun x hx => by simp at hx; omega⟩
  · rintro m ow en ⟨fs, ws, x4, x5, x6, x7, x8, rfl, rfl, hfs, hws, rfl, hbd⟩
    refine ⟨!((ws.map Wt.d).map SV.val).isEmpty, et_lst (ed_var 3) (.own pw _ List.mem_cons_self), fun hk => ?_, fun hk => ?_⟩
    · rcases List.eq_nil_or_concat ws with rfl | ⟨ws, t, rfl⟩
      · cases hk
      rw [List.concat_eq_append] at hws hbd ⊢
      have ht := hws t (by simp)
      rw [wts_snoc] at hbd ⊢
      obtain ⟨ring, pre, cur⟩ := t
      have hlen : pre.length + 1 ≤ 4 := by have := nodup4 ht.nd ht.lt; simpa using this
      refine sd_asg (em_pop (s := .val (Wt.d ⟨ring, pre, cur⟩)) (ss := (ws.map Wt.d).map SV.val) (ed_var 3) (by
        have : ((ws ++ [(⟨ring, pre, cur⟩ : Wt)]).map Wt.d).map SV.val = (ws.map Wt.d).map SV.val ++ [.val (Wt.d ⟨ring, pre, cur⟩)] := by simp
        rw [this]
        exact .here) (tgm_tup (.tup _) (tgsm_cons (tgm_name 4 (tgsm_cons (tgm_name 5 (tgsm_nil ?_) nd)) nd)) rfl))
      have hwf := ht.way
      have hrl0 : ring.length = pre.length := ht.rl
      refine sd_for (fun i ow en => ∃ (f2 : List (List Nat)) (w2 : List Wt) (x6 x7 x8 : SV), ow = [(pw, .lst ((w2.map Wt.d).map SV.val)), (pf, .lst ((f2.map dNs).map SV.val))] ∧ en = [.val (.lst (es.map dPair)), iv b, .ptr pf, .ptr pw, .val (dNs ring), .val (dNs (pre ++ [cur])), x6, x7, x8] ∧ (∀ r ∈ f2, Ring es r) ∧ (∀ t ∈ w2, t.Ok es b) ∧
        f2.length ≤ fs.length + i ∧ (if pre.length = 3 then wts w2 = wts ws else wts w2 ≤ wts ws + i * 8 ^ (2 - pre.length)) ∧ w2.length ≤ ws.length + i) PassesOwn.never rfl (ei_enumL (ed_var 0) (T.free _)) ⟨fs, ws, x6, x7, x8, rfl, rfl, hfs, fun t h => hws t (by simp [h]), by simp, by split <;> simp, by simp⟩ (fun _ _ _ _ q hq => by cases hq) ?_ ?_
      · rintro C' le i s ow en hi ⟨f2, w2, x6, x7, x8, rfl, rfl, hf2, hw2, hl1, hl2, hl3⟩ ⟨d, hd, rfl⟩
        rw [List.length_map] at hi
        obtain ⟨⟨e1, e2⟩, hx, rfl⟩ := getE_map hd
        have hel := hlt _ (List.mem_of_getElem? hx)
        refine ⟨_, _, tg_tup rfl (tgs_cons (tg_name 6 nd) (tgs_cons (tg_tup rfl (tgs_cons (tg_name 7 nd) (tgs_cons (tg_name 8 nd) tgs_nil))) tgs_nil)), ?_⟩
        have hst : ∀ l : List Nat, ((l.map fun (i : Nat) => Sd.D.int (i : Nat)).map SV.val ++ [iv (i : Nat)]) = ((l ++ [i]).map fun (i : Nat) => Sd.D.int (i : Nat)).map SV.val := fun l => by simp
        have hst2 : ((((pre ++ [cur]).map fun (i : Nat) => Sd.D.int (i : Nat)).map SV.val) ++ [iv (e2 : Nat)]) = (((pre ++ [cur]) ++ [e2]).map fun (i : Nat) => Sd.D.int (i : Nat)).map SV.val := by simp
        have hrl : ∀ l : List Nat, (l.map fun (i : Nat) => Sd.D.int (i : Nat)).length = l.length := fun l => List.length_map _
        have hlast : atI (((pre ++ [cur]).map fun (i : Nat) => Sd.D.int (i : Nat)).map SV.val) (-1) = some (iv (cur : Nat)) := by
          rw [List.map_append, List.map_append]
          exact atI_last _ _
        have h64 : wts ws ≤ 512 := by omega
        have hw2len : w2.length ≤ 1000 := by
          have : ws.length ≤ wts ws := by
            clear hws hbd hl1 hl2 hl3 h64 hk
            induction ws with
            | nil => exact Nat.zero_le _
            | cons a l ih =>
              have : 0 < a.wt := Nat.pow_pos (by decide)
              simp only [wts, List.map_cons, List.sum_cons, List.length_cons] at ih ⊢
              omega
          omega
        refine sd_if (k := decide ((e1 : Int) = (cur : Int)) && decide ((e2 : Int) = (b : Int))) (et_and2 (et_cmp (ed_var 7) (ed_ixT (ed_var 5) (ed_neg ed_int) (.tup _) hlast) cd_eqI) fun _ => et_cmp (ed_var 8) (ed_var 1) cd_eqI) (fun hk1 => ?_) fun _ => ?_
        · simp only [Bool.and_eq_true, decide_eq_true_eq] at hk1
          obtain ⟨rfl, rfl⟩ : e1 = cur ∧ e2 = b := ⟨by omega, by omega⟩
          refine sd_exprM (em_append (Pa := (· = .val (dNs (ring ++ [i])))) (ed_var 2) (ed_tup ((ea_star (ed_var 4) (.tup _) (ea_cons (ed_var 6) ea_nil)).is (hst ring)) (by rw [hrl, sizeLine_eq]; simp; omega)) (List.mem_cons_of_mem _ List.mem_cons_self) (by rw [sizeLine_eq]; simp; omega) fun s e => ⟨_, .there .here, ?_⟩)
          subst e
          refine sd_back rfl (sd_stop rfl ⟨f2 ++ [ring ++ [i]], w2, _, _, _, by simp, rfl, fun r hr => ?_, hw2, by simp; omega, ?_, by omega⟩)
          · rcases List.mem_append.mp hr with hr | hr
            · exact hf2 r hr
            · rw [List.mem_singleton.mp hr]
              exact ⟨e2, by simp, by simp; omega, .snoc hwf hx⟩
          · split
            · rename_i h3
              rw [if_pos h3] at hl2
              exact hl2
            · rename_i h3
              rw [if_neg h3] at hl2
              have := Nat.mul_le_mul_right (8 ^ (2 - pre.length)) (show i ≤ i + 1 by omega)
              omega
        · have hnin : ∀ x : Nat, (decide ((x : Int) ∈ (pre ++ [cur]).map fun (i : Nat) => (i : Int))) = decide (x ∈ pre ++ [cur]) := fun x => by
            exact decide_eq_decide.mpr natMem
          refine sd_if (k := decide ((e1 : Int) = (cur : Int)) && (decide ((b : Int) < (e2 : Int)) && !decide (e2 ∈ pre ++ [cur]))) (et_and3 (et_cmp (ed_var 7) (ed_ixT (ed_var 5) (ed_neg ed_int) (.tup _) hlast) cd_eqI) (fun _ => et_cmp (ed_var 8) (ed_var 1) cd_gt) fun _ _ => (et_cmp (ed_var 8) (ed_var 5) (cd_notInI (seqTN _))).to (by rw [hnin])) (fun hk2 => ?_) fun _ => sd_back rfl (sd_back rfl (sd_stop rfl ⟨f2, w2, _, _, _, rfl, rfl, hf2, hw2, by omega, ?_, by omega⟩))
          · simp only [Bool.and_eq_true, decide_eq_true_eq, Bool.not_eq_true', decide_eq_false_iff_not] at hk2
            obtain ⟨q1, q2, q3⟩ := hk2
            obtain rfl : e1 = cur := by omega
            have hnew : Wt.Ok es b ⟨ring ++ [i], pre ++ [e1], e2⟩ := by
              refine ⟨.snoc hwf hx, by simp [hrl0], ?_, fun x hx2 => ?_⟩
              · rw [List.nodup_append]
                refine ⟨ht.nd, by simp, fun x h1 y h2 => ?_⟩
                rw [List.mem_singleton.mp h2]
                exact fun z => q3 (by rw [← show x = e2 from z]; exact h1)
              · rcases List.mem_append.mp hx2 with h | h
                · exact ht.lt x h
                · rw [List.mem_singleton.mp h]
                  exact hel.2
            have hlen2 : pre.length + 2 ≤ 4 := by
              have := nodup4 hnew.nd hnew.lt
              simpa using this
            refine sd_exprM (em_append (Pa := (· = .val (Wt.d ⟨ring ++ [i], pre ++ [e1], e2⟩))) (ed_var 3) (ed_tup (ds := [dNs (ring ++ [i]), dNs ((pre ++ [e1]) ++ [e2])]) (ea_cons (ed_tup ((ea_star (ed_var 4) (.tup _) (ea_cons (ed_var 6) ea_nil)).is (hst ring)) (by rw [hrl, sizeLine_eq]; simp; omega)) (ea_cons (ed_tup ((ea_star (ed_var 5) (.tup _) (ea_cons (ed_var 8) ea_nil)).is hst2) (by rw [hrl, sizeLine_eq]; simp; omega)) ea_nil))) List.mem_cons_self (by rw [sizeLine_eq]; simp; omega) fun s e => ⟨_, .here, ?_⟩)
            subst e
            refine sd_back rfl (sd_back rfl (sd_stop rfl ⟨f2, w2 ++ [⟨ring ++ [i], pre ++ [e1], e2⟩], _, _, _, by simp, rfl, hf2, fun t ht2 => ?_, by omega, ?_, by simp; omega⟩))
            · rcases List.mem_append.mp ht2 with h | h
              · exact hw2 t h
              · rw [List.mem_singleton.mp h]
                exact hnew
            · rw [if_neg (by omega)] at hl2 ⊢
              rw [wts_snoc]
              have e3 : Wt.wt ⟨ring ++ [i], pre ++ [e1], e2⟩ = 8 ^ (2 - pre.length) := by
                unfold Wt.wt
                congr 1
                have : (pre ++ [e1]).length = pre.length + 1 := by simp
                show 3 - (pre ++ [e1]).length = _
                omega
              rw [e3, Nat.add_mul, Nat.one_mul]
              omega
          · split
            · rename_i h3
              rw [if_pos h3] at hl2
              exact hl2
            · rename_i h3
              rw [if_neg h3] at hl2
              have := Nat.mul_le_mul_right (8 ^ (2 - pre.length)) (show i ≤ i + 1 by omega)
              omega
      · rintro ow en ⟨f2, w2, x6, x7, x8, rfl, rfl, hf2, hw2, hl1, hl2, hl3⟩
        rw [List.length_map] at hl1 hl2
        have hdec : wts w2 < wts ws + Wt.wt ⟨ring, pre, cur⟩ ∧ f2.length + 7 * wts w2 ≤ 3584 := by
          have e0 : Wt.wt ⟨ring, pre, cur⟩ = 8 ^ (3 - pre.length) := rfl
          rw [e0] at hbd ⊢
          by_cases h3 : pre.length = 3
          · rw [if_pos h3] at hl2
            rw [h3] at hbd ⊢
            simp at hbd ⊢
            omega
          · rw [if_neg h3] at hl2
            have e1 : 8 ^ (3 - pre.length) = 8 * 8 ^ (2 - pre.length) := by
              rw [← Nat.pow_succ']
              congr 1
              omega
            have e2 : es.length * 8 ^ (2 - pre.length) ≤ 7 * 8 ^ (2 - pre.length) := Nat.mul_le_mul_right _ he7
            have e3 : 0 < 8 ^ (2 - pre.length) := Nat.pow_pos (by decide)
            rw [e1] at hbd ⊢
            constructor <;> omega
        exact sd_stop rfl ⟨_, hdec.1, f2, w2, _, _, _, _, _, rfl, rfl, hf2, hw2, rfl, hdec.2⟩
    · exact sd_ret Fn (ed_var 2) (ow' := [(pf, .lst ((fs.map dNs).map SV.val))]) (List.sublist_cons_self _ _) (hp pf fs hfs (by omega))
end
end Tx

/-! text Sd13 -/
set_option Elab.async false
set_option linter.all false
set_option maxRecDepth 100000
set_option maxHeartbeats 2000000
/-! Sd13: sorted, of flat tuples that begin with an int: some order. -/
namespace SrtF
open PySem PyProof.Rows Srt
section
variable {prog : Program} {w : World} {A : Around} {E : Value → Shared → Prop} {s : Shared}
/-- two items that may be compared -/
inductive Like : Value → Value → Prop where
  | int (i : Int) (t : Tok) (j : Int) (u : Tok) : Like (.int i t) (.int j u)
  | str (i : Str) (t : Tok) (j : Str) (u : Tok) : Like (.str i t) (.str j u)
theorem lex_any {b fin : Bool} : ∀ (l : List (Value × Value)) (i : Nat), (∀ p ∈ l, Like p.1 p.2) → (i = 0 → ∀ p q r, l = (p, q) :: r → ∃ x t y u, p = .int x t ∧ q = .int y u) → ∃ c : Bool, PySem.W.KatLex prog w A b fin (fun r s' => s' = s ∧ r = c) l i s
  | [], i, _, _ => ⟨fin, PySem.W.kat_nil ⟨rfl, rfl⟩⟩
  | (p, q) :: r, i, hl, h0 => by
    obtain ⟨c, hc⟩ := lex_any (b := b) (fin := fin) r (i + 1) (fun z hz => hl z (List.mem_cons_of_mem _ hz)) (fun z => absurd z (Nat.succ_ne_zero _))
    have hpq := hl _ List.mem_cons_self
    generalize hp : p = p' at hpq
    generalize hq : q = q' at hpq
    cases hpq with
    | int x t y u =>
      refine ⟨if x = y then c else decide (x < y), PySem.W.kat_cons (SeqAt.EqAt.int_int x t y u prog w _ _ ?_)⟩
      refine PySem.W.kat_go (fun e1 => ?_) (fun e1 => ?_)
      · have ex : x = y := by simpa using e1
        rw [if_pos ex]
        exact PySem.W.kat_yes hc
      · have ex : ¬ x = y := by simpa using e1
        rw [if_neg ex]
        refine PySem.W.kat_no ?_
        cases (b && i == 0) with
        | true => exact oneLt_int ⟨rfl, rfl⟩
        | false => exact PySem.W.kat_one _ _ (PyProof.Rows.lt_int (Q := PySem.W.BoolBack fun r s' => s' = s ∧ r = decide (x < y)) ⟨rfl, rfl⟩)
    | str x t y u =>
      have hi : (b && i == 0) = false := by
        by_cases z : i = 0
        · obtain ⟨_, _, _, _, e, _⟩ := h0 z p q r rfl
          rw [hp] at e
          cases e
        · simp [z]
      refine ⟨if x = y then c else decide (x.cps.toList < y.cps.toList), PySem.W.kat_cons (SeqAt.EqAt.str_str x t y u prog w _ _ ?_)⟩
      refine PySem.W.kat_go (fun e1 => ?_) (fun e1 => ?_)
      · have ex : x = y := by simpa using e1
        rw [if_pos ex]
        exact PySem.W.kat_yes hc
      · have ex : ¬ x = y := by simpa using e1
        rw [if_neg ex]
        refine PySem.W.kat_no ?_
        rw [hi]
        exact PySem.W.kat_one _ _ (PyProof.Rows.lt_str (Q := PySem.W.BoolBack fun r s' => s' = s ∧ r = decide (x.cps.toList < y.cps.toList)) ⟨rfl, rfl⟩)
/-- v is a tuple of these -/
def TupF (h : Heap) (v : Value) (its : List Value) : Prop := ∃ a o n, v = .ref a ∧ h.get? a = some o ∧ o.cls = .type "tuple" ∧ o.data = .seq its.toArray n
theorem TupF.keeps {h h' : Heap} {v : Value} {its : List Value} (p : TupF h v its) (k : ∀ b o, h.get? b = some o → o.cls = .type "tuple" → h'.get? b = some o) : TupF h' v its := by
  obtain ⟨a, o, n, e, ho, hc, hd⟩ := p
  exact ⟨a, o, n, e, k _ _ ho hc, hc, hd⟩
/-- what the items are: f says a tuple's items; each begins with an int; any two may be compared -/
structure FlatT (h : Heap) (vs : List Value) (f : Value → List Value) : Prop where
  tup : ∀ v ∈ vs, TupF h v (f v)
  first : ∀ v ∈ vs, ∃ x t r, f v = .int x t :: r
  like : ∀ v ∈ vs, ∀ u ∈ vs, ∀ p ∈ (f v).zip (f u), Like p.1 p.2
theorem FlatT.keeps {h h' : Heap} {vs : List Value} {f : Value → List Value} (p : FlatT h vs f) (k : ∀ b o, h.get? b = some o → o.cls = .type "tuple" → h'.get? b = some o) : FlatT h' vs f := ⟨fun v hv => (p.tup v hv).keeps k, p.first, p.like⟩
theorem flat_tot {vs : List Value} {f : Value → List Value} (hp : FlatT s.heap vs f) : Tot prog w A s (tuples' true) (fun p => p.1 ∈ vs) := by
  intro p q hm hm'
  have hm : p.1 ∈ vs := hm
  have hm' : q.1 ∈ vs := hm'
  obtain ⟨a, o, n, e, ho, hc, hd⟩ := hp.tup _ hm
  obtain ⟨a', o', n', e', ho', hc', hd'⟩ := hp.tup _ hm'
  obtain ⟨c, hcx⟩ := lex_any (prog := prog) (w := w) (A := A) (s := s) (b := true) (fin := decide ((f p.1).toArray.size < (f q.1).toArray.size)) ((f p.1).toArray.toList.zip (f q.1).toArray.toList) 0 (by simpa using hp.like _ hm _ hm') (fun _ p1 q1 r1 e1 => by
    obtain ⟨x, t, r, e2⟩ := hp.first _ hm
    obtain ⟨y, u, r', e3⟩ := hp.first _ hm'
    simp only [e2, e3, List.zip_cons_cons] at e1
    injection e1 with e1 _
    injection e1 with e4 e5
    exact ⟨x, t, y, u, e4.symm, e5.symm⟩)
  refine ⟨c, ?_⟩
  rw [e, e']
  rw [e] at hd hcx
  rw [e'] at hd' hcx
  exact PySem.W.kat_lt ho hd ho' hd' hcx
theorem flat_firsts {h : Heap} {f : Value → List Value} : ∀ {vs : List Value}, (∀ v ∈ vs, TupF h v (f v)) → (∀ v ∈ vs, ∃ x t r, f v = .int x t :: r) → ∃ fs : List Value, PySem.W.KatTups h vs fs ∧ fs.length = vs.length ∧ ∀ g ∈ fs, ∃ x t, g = Value.int x t
  | [], _, _ => ⟨[], PySem.W.KatTups.nil, rfl, fun _ hm => by simp at hm⟩
  | v :: vs, h1, h2 => by
    obtain ⟨fs, g1, g2, g3⟩ := flat_firsts (vs := vs) (fun v' hm => h1 v' (List.mem_cons_of_mem _ hm)) (fun v' hm => h2 v' (List.mem_cons_of_mem _ hm))
    obtain ⟨a, o, n, e, ho, hc, hd⟩ := h1 v List.mem_cons_self
    obtain ⟨x, t, r, e2⟩ := h2 v List.mem_cons_self
    rw [e2] at hd
    subst e
    refine ⟨.int x t :: fs, PySem.W.KatTups.cons ho hc hd rfl g1, by rw [List.length_cons, List.length_cons, g2], fun g hm => ?_⟩
    rcases List.mem_cons.mp hm with rfl | hm
    · exact ⟨x, t, rfl⟩
    · exact g3 g hm
theorem flat_sortable {a : Addr} {vs : List Value} {f : Value → List Value} (h0 : 0 < vs.length) (hp : FlatT s.heap vs f) (ha : ∀ o, s.heap.get? a = some o → o.cls ≠ .type "tuple") : Sortable prog w A s a vs := by
  intro h' keep
  have hp' : FlatT h' vs f := hp.keeps fun b o e c => keep b o (fun z => by subst z; exact ha o e c) e
  obtain ⟨fs, g1, g2, g3⟩ := flat_firsts hp'.tup hp'.first
  refine ⟨tuples' true, fun Q E hq => ?_, flat_tot hp'⟩
  refine PySem.W.kat_kind (T := .type "int") g1 (by omega) (fun g hm => ?_) (by rfl) ?_
  · obtain ⟨x, t, rfl⟩ := g3 g hm
    exact PySem.W.Looks.now
  · have e : (Value.type "int" != Value.type "tuple") = true := by first | decide +kernel | rfl | decide
    rw [e]
    exact hq
theorem sorted_flat {l : Addr} {vs : List Value} {f : Value → List Value} {Q : Value → Shared → Prop} (hl : s.heap.IsList l vs.toArray) (hz : vs.length ≤ sizeLine) (hp : FlatT s.heap vs f)
    (h : ∀ (h' : Heap) (d : Addr) (out : List Value), out.Perm vs → (∀ b o, s.heap.get? b = some o → h'.get? b = some o) → s.heap.objs.size ≤ d → (∃ n, h'.get? d = some (seqObj "list" out.toArray n)) → Q (.ref d) { s with heap := h' }) :
    wpAny (model prog w) A (call (.builtin "sorted") [.ref l]) Q E s := by
  refine sorted_any hl hz (fun h2 h₁ a ha k => ?_) fun out ho => ?_
  · refine flat_sortable (s := { s with heap := h₁ }) (by omega) (hp.keeps fun b o e _ => (k b o e).2) fun o e => ?_
    have e' : some o = some (seqObj "list" vs.toArray 0) := e.symm.trans ha
    cases e'
    exact fun c => absurd (Value.type.inj c) (by decide)
  · exact h _ _ out ho (fun b o e => sortedAll_old e) (Nat.le_succ _) (sortedAll_at s.heap vs out.toArray)
end
end SrtF
namespace Sd
open PySem PySem.Spec PyProof.Rows L2
/-- keys that begin with an int, and any two of which are alike place by place -/
structure FlatK (l : List (List Key)) : Prop where
  first : ∀ k ∈ l, ∃ i r, k = .inl i :: r
  like : ∀ k ∈ l, ∀ j ∈ l, ∀ p ∈ k.zip j, p.1.isLeft = p.2.isLeft
section
variable {C : FC} {X : Cx} {ow : Ow} {en : En}
def tupItems (h : Heap) : Value → List Value
  | .ref a => (match h.get? a with
    | some o => (match o.data with
      | .seq its _ => its.toList
      | _ => [])
    | none => [])
  | _ => []
theorem items_at {h : Heap} {a : Addr} {its : Array Value} (p : IsTup h a its) : tupItems h (.ref a) = its.toList := by
  obtain ⟨o, ho, _, n, hd⟩ := p
  show (match h.get? a with | some o => (match o.data with | .seq its _ => its.toList | _ => []) | none => []) = _
  rw [ho]
  show (match o.data with | .seq its _ => its.toList | _ => []) = _
  rw [hd]
theorem like_of {k j : List Key} {us vs : List Value} (h : ∀ p ∈ k.zip j, p.1.isLeft = p.2.isLeft) (r1 : Vals (k.map kV) us) (r2 : Vals (j.map kV) vs) : ∀ p ∈ us.zip vs, SrtF.Like p.1 p.2 := by
  induction k generalizing j us vs with
  | nil =>
    cases r1
    intro p hp
    cases hp
  | cons a k ih =>
    cases j with
    | nil =>
      cases r2
      intro p hp
      simp at hp
    | cons b j =>
      rw [List.map_cons] at r1 r2
      cases r1 with
      | cons x1 t1 =>
        cases r2 with
        | cons x2 t2 =>
          intro p hp
          rw [List.zip_cons_cons] at hp
          rcases List.mem_cons.mp hp with e | hp
          · subst e
            have e := h (a, b) (by rw [List.zip_cons_cons]; exact List.mem_cons_self)
            cases a with
            | inl i =>
              cases b with
              | inl i2 =>
                obtain ⟨t, rfl⟩ := (show ∃ t, _ = Value.int i t from x1)
                obtain ⟨t2, rfl⟩ := (show ∃ t, _ = Value.int i2 t from x2)
                exact .int _ _ _ _
              | inr _ => cases e
            | inr i =>
              cases b with
              | inl _ => cases e
              | inr i2 =>
                obtain ⟨t, rfl⟩ := (show ∃ t, _ = Value.str i t from x1)
                obtain ⟨t2, rfl⟩ := (show ∃ t, _ = Value.str i2 t from x2)
                exact .str _ _ _ _
          · exact ih (fun q hq => h q (by rw [List.zip_cons_cons]; exact List.mem_cons_of_mem _ hq)) t1 t2 p hp
theorem cr_sortedF : CallR X (.builtin "sorted") (fun vs H Q => ∃ (a : Addr) (xs : List V) (g : V → List Key), vs = [V.ref a] ∧ SqL X.K H a xs ∧ (∀ x ∈ xs, ∃ t, x = V.ref t ∧ SqT X.K H t ((g x).map kV)) ∧ FlatK (xs.map g) ∧ ∀ ys p, ys.Perm xs → H p = none → Q (.ref p) (upd H p (.lst ys))) := by
  intro pins s σ H vs us Q I r h
  obtain ⟨a, xs, g, rfl, hs, hx, hf, q⟩ := h
  obtain ⟨its, rv, hl, hz⟩ := I.list hs
  obtain ⟨u, rfl, ru⟩ := vals1 r
  obtain rfl : u = Value.ref a := ru
  obtain ⟨e1, e2⟩ := refs_back rv fun x m => by
    obtain ⟨t, e, _⟩ := hx x m
    exact ⟨t, e⟩
  have at_ : ∀ v ∈ its, ∃ t its2, v = Value.ref t ∧ V.ref t ∈ xs ∧ IsTup s.heap t its2 ∧ Vals ((g (V.ref t)).map kV) its2.toList ∧ tupItems s.heap v = its2.toList := fun v hv => by
    obtain ⟨t, rfl⟩ := e2 v hv
    have hm : V.ref t ∈ xs := by rw [e1]; exact List.mem_map.mpr ⟨_, hv, rfl⟩
    obtain ⟨t', e, ht⟩ := hx _ hm
    cases e
    obtain ⟨its2, r2, p2, _⟩ := I.tuple ht
    exact ⟨t, its2.toArray, rfl, hm, p2, by simpa using r2, items_at p2⟩
  refine SrtF.sorted_flat (f := tupItems s.heap) hl.isList (by rw [← rv.length]; exact hz) ⟨fun v hv => ?_, fun v hv => ?_, fun v hv u hu => ?_⟩ fun h' d out hp k hd hn => ?_
  · obtain ⟨t, its2, rfl, _, ⟨o, ho, hc, n, hd⟩, _, e⟩ := at_ v hv
    exact ⟨t, o, n, rfl, ho, hc, by rw [e, hd]⟩
  · obtain ⟨t, its2, rfl, hm, _, r2, e⟩ := at_ v hv
    obtain ⟨i, rr, e3⟩ := hf.first _ (List.mem_map.mpr ⟨_, hm, rfl⟩)
    rw [e3, List.map_cons] at r2
    rw [e]
    cases hh : its2.toList with
    | nil => rw [hh] at r2; cases r2
    | cons z zs =>
      rw [hh] at r2
      cases r2 with
      | cons x1 _ =>
        obtain ⟨t, rfl⟩ := (show ∃ t, _ = Value.int i t from x1)
        exact ⟨i, t, zs, rfl⟩
  · obtain ⟨t, its2, rfl, hm, _, r2, e⟩ := at_ v hv
    obtain ⟨t', its3, rfl, hm', _, r3, e'⟩ := at_ u hu
    rw [e, e']
    exact like_of (hf.like _ (List.mem_map.mpr ⟨_, hm, rfl⟩) _ (List.mem_map.mpr ⟨_, hm', rfl⟩)) r2 r3
  · have h3 : ∀ u ∈ out, ∃ a, u = Value.ref a := fun u hu => e2 u (hp.mem_iff.mp hu)
    obtain ⟨n, hn⟩ := hn
    refine ⟨.ref d, upd H d (.lst (out.map backV)), I.laid (t' := s.toks) k hd ⟨?_, out, n, vals_back h3, hn⟩, rfl, q _ d ?_ (I.hok.fresh hd)⟩
    · rw [List.length_map, hp.length_eq, ← rv.length]; exact hz
    · rw [e1]
      exact hp.map _
theorem RpL.mem {K : Fg} {B : Hp} {ds : List D} {vs : List V} (h : RpL K B ds vs) {v : V} (hv : v ∈ vs) : ∃ d ∈ ds, Rp K B d v := by
  obtain ⟨i, hi, e⟩ := List.mem_iff_getElem.mp hv
  obtain ⟨d, hd, r⟩ := h.get' (i := i) (v := v) (by rw [List.getElem?_eq_getElem hi, e])
  exact ⟨d, List.mem_of_getElem? hd, r⟩
theorem perm_rp {K : Fg} {B : Hp} {α : Type} {d : α → D} {ys xs : List V} (p : ys.Perm xs) : ∀ {ts : List α}, RpL K B (ts.map d) xs → ∃ us : List α, us.Perm ts ∧ RpL K B (us.map d) ys := by
  induction p with
  | nil =>
    intro ts h
    have hl := h.length
    cases ts with
    | nil => exact ⟨[], .refl _, RpL.nil⟩
    | cons _ _ => simp at hl
  | cons x _ ih =>
    intro ts h
    cases ts with
    | nil => have hl := h.length; simp at hl
    | cons t ts =>
      rw [List.map_cons] at h
      simp only [RpL] at h
      obtain ⟨y, ys', e, h1, h2⟩ := h
      injection e with e1 e2
      subst e1 e2
      obtain ⟨us, p, r⟩ := ih h2
      exact ⟨t :: us, p.cons _, RpL.cons h1 r⟩
  | swap x y l =>
    intro ts h
    cases ts with
    | nil => have hl := h.length; simp at hl
    | cons t ts =>
      cases ts with
      | nil => have hl := h.length; simp at hl
      | cons t2 ts =>
        rw [List.map_cons, List.map_cons] at h
        simp only [RpL] at h
        obtain ⟨y1, ys1, e, h1, y2, ys2, e2, h2, h3⟩ := h
        subst e2
        injection e with a1 a2
        injection a2 with a3 a4
        subst a1 a3 a4
        exact ⟨t2 :: t :: ts, List.Perm.swap _ _ _, RpL.cons h2 (RpL.cons h1 h3)⟩
  | trans _ _ ih1 ih2 =>
    intro ts h
    obtain ⟨us, p1, r1⟩ := ih2 h
    obtain ⟨ws, p2, r2⟩ := ih1 r1
    exact ⟨ws, p2.trans p1, r2⟩
open Classical in
/-- sorted(xs), xs flat tuples that begin with an int: some order of them -/
theorem cn_sortedF {α : Type} {s : SV} {ts : List α} {d : α → D} {key : α → List Key} (h : LstOf ow s ((ts.map d).map SV.val)) (hd : ∀ t ∈ ts, ∀ K B H v, Ex B H → Rp K B (d t) v → ∃ a, v = V.ref a ∧ SqT K H a ((key t).map kV)) (hf : FlatK (ts.map key)) :
    ClN C X ow en (.builtin "sorted") [s] (fun oc => ∃ us : List α, oc = .lst ((us.map d).map SV.val) ∧ us.Perm ts) := ⟨_, cr_sortedF, fun B σ H vs S rs Q q => by
  obtain ⟨v, e, r⟩ := sl1 rs
  obtain ⟨a, xs, e1, hq, l⟩ := h.at S r
  have l2 := RpSL.vals.mp l
  subst e e1
  have pick : ∀ x ∈ xs, ∃ t ∈ ts, Rp X.K B (d t) x := fun x hx => by
    obtain ⟨dd, hdd, rr⟩ := l2.mem hx
    obtain ⟨t, ht, rfl⟩ := List.mem_map.mp hdd
    exact ⟨t, ht, rr⟩
  let g : V → List Key := fun x => if hx : ∃ t ∈ ts, Rp X.K B (d t) x then key (choose hx) else []
  have hg : ∀ x ∈ xs, ∃ t ∈ ts, Rp X.K B (d t) x ∧ g x = key t := fun x hx => by
    have hp := pick x hx
    refine ⟨choose hp, (choose_spec hp).1, (choose_spec hp).2, ?_⟩
    show (if hx : ∃ t ∈ ts, Rp X.K B (d t) x then key (choose hx) else []) = _
    rw [dif_pos hp]
  refine ⟨a, xs, g, rfl, hq, fun x hx => ?_, ⟨fun k hk => ?_, fun k hk j hj => ?_⟩, fun ys p hp hn => ?_⟩
  · obtain ⟨t, ht, rr, eg⟩ := hg x hx
    rw [eg]
    exact hd t ht _ _ _ _ S.sub rr
  · obtain ⟨x, hx, rfl⟩ := List.mem_map.mp hk
    obtain ⟨t, ht, _, eg⟩ := hg x hx
    rw [eg]
    exact hf.first _ (List.mem_map.mpr ⟨t, ht, rfl⟩)
  · obtain ⟨x, hx, rfl⟩ := List.mem_map.mp hk
    obtain ⟨t, ht, _, eg⟩ := hg x hx
    obtain ⟨y, hy, rfl⟩ := List.mem_map.mp hj
    obtain ⟨t2, ht2, _, eg2⟩ := hg y hy
    rw [eg, eg2]
    exact hf.like _ (List.mem_map.mpr ⟨t, ht, rfl⟩) _ (List.mem_map.mpr ⟨t2, ht2, rfl⟩)
  · obtain ⟨us, pu, ru⟩ := perm_rp hp l2
    exact q p _ _ _ ⟨us, rfl, pu⟩ (NxN.hold S hn ⟨ys, upd_same, RpSL.vals.mpr ru⟩)⟩
end
end Sd

/-! text Sd14 -/
set_option Elab.async false
set_option linter.all false
set_option maxRecDepth 100000
set_option maxHeartbeats 2000000
/-! Sd14: len of an own instance; star parameters. -/
namespace Sd
open PySem PySem.Spec PyProof.Rows L2
section
variable {X : Cx}
theorem len_own {prog : Program} {w : World} {A : Around} {E : Value → Shared → Prop} {s : Shared} {K : Fg} {x C f : Addr} {ox : Obj} {od : Option Obj} {Q : Value → Shared → Prop} (Z : K.In s.heap) (I : PySem.W.InstAt s.heap x ox C od) (hs : PySem.W.findIn K (.ref C) "__len__" = some (some (.ref f))) (hf : PySem.W.isFn K (.ref f) = true)
    (h : wpAny (model prog w) A.in1 (call (.ref f) [.ref x]) (fun v s' => match v with | .int n _ => (0 ≤ n ∧ n < 2 ^ 63) ∧ Q (.int n s'.toks) { s' with toks := s'.toks + 1 } | _ => False) E s) : wpAny (model prog w) A (call (.builtin "len") [.ref x]) Q E s := by
  refine Calls.call_function_entry kind_len plain_len entry_len (args_len1 _) ?_
  unfold Builtin.«len»
  refine wpAny_bind (m := oneArg "len" _) (wpAny_pure ?_)
  refine wpAny_bind (m := callSpecial? (.ref x) (Str.ofString "__len__")) (PySem.W.special_fn Z I hs (beq_iff_eq.mp hf) (wpAny_mono h (fun r s' hr => ?_) fun _ _ y => y))
  cases r <;> first | exact hr.elim | skip
  rename_i n u
  obtain ⟨⟨n0, n1⟩, hq⟩ := hr
  refine wpAny_bind (wpAny_holding (wpAny_pure (wpAny_bind (wpAny_letGo ?_))))
  show wpAny _ _ (if n < 0 then _ else _) _ _ _
  rw [if_neg (by omega)]
  show wpAny _ _ (if n ≥ 2 ^ 63 then _ else _) _ _ _
  rw [if_neg (by omega)]
  exact wpAny_bind (wpAny_mkInt (wpAny_pure ⟨_, rfl, hq⟩))
theorem cr_lenO {k j : Nat} {C : Addr} {sp : Sp} (c : C8.Met X.prog X.w X.K X.mg X.base k C "__len__" sp []) (hr : Room j X.A) (hk : k + 1 ≤ j) : CallR X (.builtin "len") (fun vs H Q => ∃ a dx fs, vs = [V.ref a] ∧ H a = some (.ins C dx fs) ∧ sp [V.ref a] H (fun v H' => ∃ n : Nat, v = .int (n : Nat) ∧ n < 2 ^ 62 ∧ Q (.int (n : Nat)) H') E0) := by
  intro pins s σ H vs us Q I r h
  obtain ⟨a, dx, fs, rfl, ea, hsp⟩ := h
  obtain ⟨u, rfl, ru⟩ := vals1 r
  obtain rfl : u = Value.ref a := ru
  obtain ⟨f, fd, ps, ds, cl, me, F, b, d⟩ := c.ex
  cases d
  obtain ⟨mA, O, _, _, _, _⟩ := ins_get I.hok ea
  obtain ⟨od, J, _⟩ := O.look
  have hl : ([Value.ref a] ++ []).length = ps.length := by
    rw [← F.len _ _ _ _ hsp]
    rfl
  refine len_own I.kIn J me.at_ me.fn (wpAny_call (codeAny_mono (F.run X.A.in1 X.stack s H ⟨[.ref a], []⟩ [.ref a] [.ref a] _ E0 ((hr.mono hk).in1) I.env0.in1 (b s [.ref a] I.kIn hl) (.cons rfl .nil) hsp) fun r s' hq => ?_))
  cases r with
  | error er => exact pass0 pins σ H s er s' I hq
  | ok fl =>
    cases fl with
    | ret u =>
      obtain ⟨v, H', I3, rv, n, rfl, hn, q3⟩ := I.after hq
      obtain ⟨t, rfl⟩ := (show ∃ t, u = Value.int (n : Nat) t from rv)
      exact ⟨⟨by omega, by omega⟩, .int (n : Nat), H', I3.tok _, ⟨_, rfl⟩, q3⟩
    | next => exact False.elim hq
    | brk => exact False.elim hq
    | cont => exact False.elim hq
variable {C : FC} {ow : Ow} {en : En} {e : Expr} {pos p0 : Pos}
theorem ed_lenO {α : Type} {args : α → List SV} {pre : α → Prop} {res : α → SV → Prop} {k j n : Nat} {Cc : Addr} {ks : List Str} {so : SV} {ss : List SV} (c : C8.Met X.prog X.w X.K X.mg X.base k Cc "__len__" (Pr X.K (FX args pre res)) []) (hr : Room j X.A) (hk : k + 1 ≤ j) (ho : EvD C X ow en e so) (hi : InsOf ow so Cc ks ss)
    (h : ∃ x, [so] = args x ∧ pre x ∧ ∀ s, res x s → s = iv (n : Nat)) (hn : n < 2 ^ 62) (hm : X.mg "len" = none) (hg : Gl X "len" := by rfl) (he : starEach [e] X.env = (false, eval e X.env) :: starEach [] X.env := by rfl) (hpl : (backTo pos (starEach [] X.env)).any (·.1) = false := by rfl) : EvD C X ow en (.Call (.Name "len" p0) [e] [] pos) (iv (n : Nat)) :=
  ⟨fun B σ H S Q q => ⟨_, pe_callB (cr_lenO c hr hk) hg hm (by decide +kernel) pa_wa (by decide) (by decide) he hpl, (ea_cons ho ea_nil he).run B σ H S _ fun vs ss' B' H' ps nx rs => by
    subst ps
    obtain ⟨v, e1, r⟩ := sl1 rs
    obtain ⟨a, dx, xs, e2, hH, _, _⟩ := hi.at nx.sta r
    obtain ⟨z, z1, z2, z3⟩ := h
    subst e1 e2
    refine ⟨a, dx, _, rfl, hH, B', [], [so], fun s ow' => ow' = [] ∧ res z s, nx.sta.sub, by simp, (fun q hq => by cases hq), RpSL.cons r RpSL.nil, ⟨rfl, z, z1, z2, fun s hs => ⟨rfl, hs⟩⟩, ?_⟩
    refine ret_called (P := (· = iv (n : Nat))) nx.sta (List.nil_sublist _) (fun s ow' hs => ⟨hs.1, z3 s hs.2⟩) fun v s B2 H2 p n2 r2 => ?_
    subst p
    exact ⟨n, rs_int.mp r2, hn, q _ _ B2 H2 rfl (nx.trans n2) (rs_int.mpr rfl)⟩⟩⟩
end
end Sd

/-! text W8 -/
set_option Elab.async false
set_option linter.all false
set_option maxRecDepth 100000
set_option maxHeartbeats 2000000
/-! W8: no ring is stuck. -/
namespace Tx
open PySem PySem.Spec PyProof.Rows L2 Sd C8
theorem ring_ne {es : List (Nat × Nat)} {r : List Nat} (h : Ring es r) : r ≠ [] := by
  obtain ⟨_, h, _⟩ := h
  exact h
/-- a line as the law draws them -/
structure Ln.Few (L : Ln) : Prop where
  ok : L.Ok
  n4 : L.sts.length ≤ 4
  n7 : L.lks.length ≤ 7
theorem Ln.Few.ends {L : Ln} (h : L.Few) : L.ends.length ≤ 7 ∧ ∀ e ∈ L.ends, e.1 < 4 ∧ e.2 < 4 := by
  refine ⟨by unfold Ln.ends; rw [List.length_map]; exact h.n7, fun e he => ?_⟩
  obtain ⟨l, hl, rfl⟩ := List.mem_map.mp he
  have h1 := h.ok.ends l hl
  have hn : L.names.length ≤ 4 := by rw [List.length_map]; exact h.n4
  have a := List.idxOf_lt_length_of_mem h1.1
  have b := List.idxOf_lt_length_of_mem h1.2
  constructor <;> simp only <;> omega
theorem dNs_key {l : List Nat} {K : Fg} {B H : Hp} {v : V} (x : Ex B H) (r : Rp K B (dNs l) v) : ∃ a, v = V.ref a ∧ SqT K H a ((l.map fun (i : Nat) => (Sum.inl (i : Int) : Key)).map kV) := by
  simp only [Rp] at r
  obtain ⟨a, xs, e, q, rl⟩ := r
  have e2 : xs = (l.map fun (i : Nat) => (Sum.inl (i : Int) : Key)).map kV := by
    clear q e
    induction l generalizing xs with
    | nil => simpa only [List.map_nil, RpL] using rl
    | cons a l ih =>
      rw [List.map_cons] at rl
      simp only [RpL] at rl
      obtain ⟨y, ys, e, h1, h2⟩ := rl
      simp only [Rp] at h1
      rw [e, h1, List.map_cons, List.map_cons, ← ih _ h2]
      rfl
  exact ⟨a, e, e2 ▸ x.t q⟩
theorem flatK_nats {rs : List (List Nat)} (h : ∀ r ∈ rs, r ≠ []) : FlatK (rs.map fun r => r.map fun (i : Nat) => (Sum.inl (i : Int) : Key)) := by
  refine ⟨fun k hk => ?_, fun k hk j hj p hp => ?_⟩
  · obtain ⟨r, hr, rfl⟩ := List.mem_map.mp hk
    cases r with
    | nil => exact absurd rfl (h _ hr)
    | cons a r => exact ⟨_, _, rfl⟩
  · obtain ⟨r, hr, rfl⟩ := List.mem_map.mp hk
    obtain ⟨q, hq, rfl⟩ := List.mem_map.mp hj
    have h1 := List.of_mem_zip hp
    obtain ⟨i, _, e1⟩ := List.mem_map.mp h1.1
    obtain ⟨i2, _, e2⟩ := List.mem_map.mp h1.2
    rw [← e1, ← e2]
    rfl
section
variable {P : Program} {w : World} {K : Fg} {mg : Str → Option Value} {base : Heap}
theorem ok_rings (T : Txt K mg) : Cal P w K mg base 6 "rings" (Pr K (FX (fun L : Ln => [.val (dLn K L)]) (fun L => L.Few) (fun L s => ∃ rs : List (List Nat), s = .val (.tup (rs.map dNs)) ∧ rs.length ≤ 100000 ∧ ∀ r ∈ rs, Ring L.ends r))) [] := by
  obtain ⟨fd, F⟩ := T.f_rings
  refine cal_of F sc_rings (T.glo _) (bd_rings F) (by rintro ow ss post ⟨_, L, rfl, _⟩; rfl) fun cdv A outer sh H E C D ow ss post hr hR hM Fn Fx => ?_
  obtain ⟨rfl, L, rfl, hL, hp⟩ := hR
  have nd := sc_rings.nd
  have hE := hL.ends
  refine sd_expr (ep_callF (P := fun _ => True) (ok_check_line T) hr (by decide) (ea_cons (ed_var 0) ea_nil) fun ss e => ⟨⟨_, e⟩, fun s e => trivial⟩) ?_
  refine sd_par 1 2 (eaw_val (Pa := (· = .val (.lst (L.ends.map dPair)))) (ep_callX (ok_ends_of T) hr (by decide) (ea_cons (ed_var 0) ea_nil) fun ss e => ⟨L, e, hL.ok, fun s e => e⟩) fun s e => e ▸ eaw_new (A := (· = .lst [])) (en_lst ea_nil) fun pf _ e => e ▸ eaw_nil ⟨_, _, rfl, ?_⟩) rfl nd (by decide)
  refine sd_for (fun i ow en => ∃ (fs : List (List Nat)) (x3 : SV), ow = [(pf, .lst ((fs.map dNs).map SV.val))] ∧ en = [.val (dLn K L), .val (.lst (L.ends.map dPair)), .ptr pf, x3] ∧ (∀ r ∈ fs, Ring L.ends r) ∧ fs.length ≤ i * 3584) PassesOwn.never rfl (ei_range1 (A := fun _ => True) (ed_lenO (n := L.sts.length) (ok_Line_len T) hr (by decide) (ed_var 0) (.val _ _ _) ⟨L, rfl, trivial, fun s e => e⟩ (by have := hL.n4; omega) (T.free _)) (by have := hL.n4; omega) (T.free _))
    ⟨[], .un, rfl, rfl, (fun r h => by cases h), by simp⟩ (fun _ _ _ _ q hq => by cases hq) ?_ ?_
  · rintro C' le i s ow en hi ⟨fs, x3, rfl, rfl, hfs, hl⟩ rfl
    have hi : i < L.sts.length := by simpa using hi
    have h4 := hL.n4
    refine ⟨_, _, tg_name 3 nd, sd_ext (ss := (fs.map dNs).map SV.val) (r := pf) (ts := []) 2 rfl (EvN.em (A := fun oc => ∃ gs : List (List Nat), oc = .lst ((gs.map dNs).map SV.val) ∧ (∀ r ∈ gs, Ring L.ends r) ∧ gs.length ≤ 3584) (en_call (dd := []) (ok_rings_from T) hr (by decide) (ea_cons (ed_var 1) (ea_cons (ed_var 3) ea_nil)) (fun _ => RpSL.nil) fun ss e => ⟨[], fun s ow' => ∃ (p : Addr) (gs : List (List Nat)), s = .ptr p ∧ ow' = [(p, .lst ((gs.map dNs).map SV.val))] ∧ (∀ r ∈ gs, Ring L.ends r) ∧ gs.length ≤ 3584, List.nil_sublist _, ⟨rfl, L.ends, i, by rw [e]; simp, hE.1, by omega, hE.2, fun p gs h1 h2 => ⟨p, gs, rfl, rfl, h1, h2⟩⟩, fun s ow' ⟨p, gs, e1, e2, h1, h2⟩ => ⟨p, _, e1, e2, gs, rfl, h1, h2⟩⟩) fun p oc ⟨gs, e, h1, h2⟩ => ?_) nd⟩
    subst e
    refine ⟨p, _, _, rfl, List.mem_cons_self, .there .here, by rw [sizeLine_eq]; simp; omega, SD.drop (sd_stop rfl ⟨fs ++ gs, _, ?_, rfl, fun r hr => ?_, by simp; omega⟩) (List.sublist_cons_self _ _)⟩
    · simp
    · rcases List.mem_append.mp hr with h | h
      · exact hfs r h
      · exact h1 r h
  · rintro ow en ⟨fs, x3, rfl, rfl, hfs, hl⟩
    have hl : fs.length ≤ 4 * 3584 := Nat.le_trans hl (Nat.mul_le_mul_right _ (by have := hL.n4; simpa using this))
    refine sdp_ret Fn (P := fun s => ∃ rs : List (List Nat), s = .val (.tup (rs.map dNs)) ∧ rs.length ≤ 100000 ∧ ∀ r ∈ rs, Ring L.ends r) (ep_callTy (A := fun ss => ∃ rs : List (List Nat), ss = [.val (.lst (rs.map dNs))] ∧ rs.length ≤ 100000 ∧ ∀ r ∈ rs, Ring L.ends r) (eap_cons (ep_ofN (P := fun s => ∃ rs : List (List Nat), s = .val (.lst (rs.map dNs)) ∧ rs.length ≤ 100000 ∧ ∀ r ∈ rs, Ring L.ends r) (en_callB (ea_cons (ed_var 2) ea_nil) (fun ss e => e ▸ cn_sortedF (d := dNs) (.own pf _ (List.mem_singleton.mpr rfl)) (fun t _ K B H v x r => dNs_key x r) (flatK_nats fun r hr => ring_ne (hfs r hr))) (T.free _) bb_sorted) fun oc ⟨us, e, pu⟩ => ⟨.lst (us.map dNs), e ▸ .lst _, us, rfl, by rw [pu.length_eq]; omega, fun r hr => hfs r (pu.mem_iff.mp hr)⟩) ea_nil fun s ss ⟨rs, e, h1, h2⟩ e2 => ⟨rs, by rw [e, e2], h1, h2⟩)
      (fun ss ⟨rs, e, h1, h2⟩ => e ▸ ⟨(cl_tuple (.lst _)).ex.imp fun r h => ⟨h.1, fun B σ H vs S rs' Q q => h.2 B σ H vs S rs' Q fun z s B' H' p n r => q z s B' H' ⟨rs, p, h1, h2⟩ n r⟩⟩) (T.free _) bt_tuple) fun s e => ⟨[], List.nil_sublist _, hp _ e⟩
end
end Tx

/-! text Sd15 -/
set_option Elab.async false
set_option linter.all false
set_option maxRecDepth 100000
set_option maxHeartbeats 2000000
/-! Sd15: for over what a call hands back. -/
namespace Sd
open PySem PySem.Spec PyProof.Rows L2
section
variable {C : FC} {X : Cx} {ow ow' : Ow} {en en1 en2 : En} {a b c e o tg iter : Expr} {pos pos' p0 : Pos} {P : SV → Prop} {rest body : List Stmt} {D : Ends} {s : SV}
structure EvIX (C : FC) (X : Cx) (ow : Ow) (en : En) (tg iter : Expr) (need : Ow) (I : Nat → (Nat → SV → Prop) → Prop) : Prop where
  run : ∀ B σ H, Sta C X.K B ow en σ H → ∀ R : It → Hp → Prop, (∀ J gs n item B' H', I n item → Nxt C X.K ow en σ B H B' H' → (∀ q ∈ gs, RpS X.K B' q.2 q.1) → WalkJ X.K gs need J n item → R J H') → WI X tg iter σ H R
theorem ei_tupX {A : List Sd.D → Prop} (h : EvP C X ow en e (fun s => ∃ ds, s = .val (.tup ds) ∧ A ds)) : EvIX C X ow en tg e [] (fun n item => ∃ ds, A ds ∧ n = ds.length ∧ item = fun i s => ∃ d, ds[i]? = some d ∧ s = .val d) :=
  ⟨fun B σ H S R q => ⟨_, pi_tup pe_we, h.run B σ H S _ fun v s B' H' p n r => by
    obtain ⟨ds, rfl, pa⟩ := p
    have r0 := r
    simp only [RpS, Rp] at r
    obtain ⟨a, xs, e1, hx, l⟩ := r
    refine ⟨a, e1, ⟨xs, n.sta.sub.t hx⟩, q _ [(v, .val (.tup ds))] ds.length _ B' H' ⟨ds, pa, rfl, rfl⟩ n (fun z hz => by
      rw [List.mem_singleton.mp hz]
      exact r0) fun B2 H2 hg sub _ => ?_⟩
    have r2 := hg _ (List.mem_singleton.mpr rfl)
    simp only [RpS, Rp] at r2
    obtain ⟨a2, ys, e2, hy, l2⟩ := r2
    rw [e1] at e2
    cases e2
    have hyH := sub.t hy
    refine ⟨fun i hi => ?_, ys, hyH, by rw [← l2.length]; exact Nat.le_refl _⟩
    have hd : ds[i]? = some ds[i] := List.getElem?_eq_getElem hi
    obtain ⟨x, hx2, rx⟩ := l2.get hd
    refine ⟨⟨ys, x, hyH, hx2⟩, fun x' H' y => ?_⟩
    obtain ⟨eH, y⟩ := y
    subst eH
    have ex := y ys hyH
    rw [hx2] at ex
    cases ex
    exact ⟨_, B2, ⟨_, hd, rfl⟩, Grow.refl sub, rx⟩⟩⟩
/-- for, the invariant behind the iterable -/
theorem sd_forX {need : Ow} {I : Nat → (Nat → SV → Prop) → Prop} (hp : PassesOwn (model X.prog X.w) X.A X.env X.xe) (hc : X.calm = true) (hi : EvIX C X ow en tg iter need I)
    (h : ∀ n item, I n item → ∃ Inv : Nat → Ow → En → Prop, Inv 0 ow en ∧ (∀ i ow en, Inv i ow en → ∀ q ∈ need, q ∈ ow) ∧
      (∀ C', FC.Le C C' → ∀ i s ow en, i < n → Inv i ow en → item i s → ∃ js en', TgD C' X ow tg js s en en' ∧ SD C' X ow en' body { D with nx := Po C' X (Inv (i + 1)), ct := Po C' X (Inv (i + 1)), bk := fun σ H => WS X rest D σ H }) ∧
      (∀ ow en, Inv n ow en → SD C X ow en rest D)) (hfs : ∀ x, foldedSetIterable iter X.env x = pure x := by intro _; rfl) : SD C X ow en (.For tg iter body [] pos :: rest) D :=
  sd_seq (ps_for hp hc pi_wi pg_wg pss_ws hfs) fun B σ H S => hi.run B σ H S _ fun J gs n item B' H' hI n1 rg wj => by
    obtain ⟨Inv, h0, hneed, hs, hd⟩ := h n item hI
    refine ⟨fun i m σ H => m = n - i ∧ i ≤ n ∧ Po (C.sees gs) X (Inv i) σ H, ⟨n, by simp, Nat.zero_le _, B', ow, en, h0, n1.sta.sees rg⟩, ?_⟩
    rintro i m σ1 H1 ⟨rfl, hi, B1, ow1, en1, i1, S1⟩
    obtain ⟨go, stop⟩ := wj B1 H1 S1.seen S1.sub fun q hq => (S1.own _ (hneed i ow1 en1 i1 q hq)).2.2
    by_cases hlt : i < n
    · obtain ⟨g1, g2⟩ := go i hlt
      refine .inr ⟨g1, Po (C.sees gs) X (Inv (i + 1)), fun σ' H' p' => ⟨n - (i + 1), by omega, rfl, hlt, p'⟩, fun x H2 y => ?_⟩
      obtain ⟨s, B2, is, g, r⟩ := g2 x H2 y
      obtain ⟨js, en2, ht, hb⟩ := hs (C.sees gs) .sees i s ow1 en1 hlt i1 is
      exact ht.run B2 σ1 H2 x (S1.grow g) r _ fun σ2 _ S2 => hb.run B2 σ2 H2 S2
    · have e : i = n := by omega
      subst e
      exact .inl ⟨stop, (hd ow1 en1 i1).run B1 σ1 H1 S1.unsees⟩
end
end Sd
namespace Tx
open PySem PySem.Spec PyProof.Rows L2 Sd C8
/-- links without stock go upward in some order -/
def Ln.Ranked (L : Ln) : Prop := (∀ l ∈ L.lks, 0 ≤ l.stock) ∧ ∃ rk : Nat → Nat, ∀ l ∈ L.lks, l.stock = 0 → rk (L.names.idxOf l.src) < rk (L.names.idxOf l.tgt)
theorem way_up {L : Ln} {rk : Nat → Nat} (h : ∀ l ∈ L.lks, l.stock = 0 → rk (L.names.idxOf l.src) < rk (L.names.idxOf l.tgt)) {a b : Nat} {r : List Nat} (w : Way L.ends a r b) (h0 : ∀ i ∈ r, ∀ l, L.lks[i]? = some l → l.stock = 0) : rk a + r.length ≤ rk b := by
  induction w with
  | nil => simp
  | @snoc r i b c w e ih =>
    have i1 := ih fun i hi => h0 i (by simp [hi])
    unfold Ln.ends at e
    rw [List.getElem?_map] at e
    obtain ⟨l, hl, e2⟩ := Option.map_eq_some_iff.mp e
    injection e2 with e3 e4
    have := h l (List.mem_of_getElem? hl) (h0 i (by simp) l hl)
    rw [e3, e4] at this
    simp
    omega
theorem ring_idx {L : Ln} {a b : Nat} {r : List Nat} (w : Way L.ends a r b) : ∀ i ∈ r, i < L.lks.length := by
  induction w with
  | nil => intro i hi; cases hi
  | @snoc r i b c w e ih =>
    intro j hj
    rcases List.mem_append.mp hj with hj | hj
    · exact ih j hj
    · rw [List.mem_singleton.mp hj]
      unfold Ln.ends at e
      rw [List.getElem?_map] at e
      obtain ⟨l, hl, _⟩ := Option.map_eq_some_iff.mp e
      exact (List.getElem?_eq_some_iff.mp hl).1
def Ln.stocks (L : Ln) (r : List Nat) : List Int := r.map fun i => (L.lks.getD i ⟨default, default, 0, false⟩).stock
theorem ring_sum {L : Ln} (hr : L.Ranked) {r : List Nat} (h : Ring L.ends r) : (L.stocks r).sum ≠ 0 := by
  obtain ⟨a, hne, _, w⟩ := h
  obtain ⟨hs, rk, hrk⟩ := hr
  intro h0
  have hidx := ring_idx w
  have nn : ∀ x ∈ L.stocks r, 0 ≤ x := fun x hx => by
    obtain ⟨i, hi, rfl⟩ := List.mem_map.mp hx
    rw [List.getD_eq_getElem?_getD, List.getElem?_eq_getElem (hidx i hi)]
    exact hs _ (List.getElem_mem _)
  have z : ∀ l : List Int, (∀ x ∈ l, 0 ≤ x) → l.sum = 0 → ∀ x ∈ l, x = 0 := fun l => by
    induction l with
    | nil => intro _ _ x hx; cases hx
    | cons a l ih =>
      intro h1 h2 x hx
      have hl : 0 ≤ l.sum := by
        have : ∀ l : List Int, (∀ x ∈ l, 0 ≤ x) → 0 ≤ l.sum := fun l => by
          induction l with
          | nil => intro _; exact Int.le_refl _
          | cons b l ih => intro h; rw [List.sum_cons]; have := ih fun x hx => h x (List.mem_cons_of_mem _ hx); have := h b List.mem_cons_self; omega
        exact this l fun x hx => h1 x (List.mem_cons_of_mem _ hx)
      have ha := h1 a List.mem_cons_self
      rw [List.sum_cons] at h2
      rcases List.mem_cons.mp hx with e | hx
      · omega
      · exact ih (fun x hx => h1 x (List.mem_cons_of_mem _ hx)) (by omega) x hx
  have hz := z _ nn h0
  have := way_up hrk w fun i hi l hl => by
    have := hz _ (List.mem_map.mpr ⟨i, hi, rfl⟩)
    rw [List.getD_eq_getElem?_getD, hl] at this
    exact this
  have : 0 < r.length := List.length_pos_iff.mpr hne
  omega
section
variable {P : Program} {w : World} {K : Fg} {mg : Str → Option Value} {base : Heap}
theorem ok_stuck (T : Txt K mg) : Cal P w K mg base 7 "stuck" (Pr K (FX (fun L : Ln => [.val (dLn K L)]) (fun L => L.Few ∧ L.Ranked) (fun _ s => s = nv))) [] := by
  obtain ⟨fd, F⟩ := T.f_stuck
  refine cal_of F sc_stuck (T.glo _) (bd_stuck F) (by rintro ow ss post ⟨_, L, rfl, _⟩; rfl) fun cdv A outer sh H E C D ow ss post hr hR hM Fn Fx => ?_
  obtain ⟨rfl, L, rfl, ⟨hL, hRk⟩, hp⟩ := hR
  have nd := sc_stuck.nd
  refine sd_forX PassesOwn.never rfl (ei_tupX (A := fun ds => ∃ rs : List (List Nat), ds = rs.map dNs ∧ ∀ r ∈ rs, Ring L.ends r) (ep_callX (ok_rings T) hr (by decide) (ea_cons (ed_var 0) ea_nil) fun ss e => ⟨L, e, hL, fun s ⟨rs, e, _, h⟩ => ⟨_, e, rs, rfl, h⟩⟩)) ?_
  rintro n item ⟨ds, ⟨rs, rfl, hrs⟩, rfl, rfl⟩
  refine ⟨fun i ow en => ∃ x, ow = [] ∧ en = [.val (dLn K L), x, .un], ⟨.un, rfl, rfl⟩, (fun _ _ _ _ q hq => by cases hq), ?_, ?_⟩
  · rintro C' le i s ow en hi ⟨x, rfl, rfl⟩ ⟨d, hd, rfl⟩
    obtain ⟨r, hr0, rfl⟩ := getE_map hd
    have hring := hrs r (List.mem_of_getElem? hr0)
    have hidx : ∀ i ∈ r, i < L.lks.length := by
      obtain ⟨a, _, _, w⟩ := hring
      exact ring_idx w
    have hsum := ring_sum hRk hring
    have hrl : r.length ≤ sizeLine := by
      obtain ⟨_, _, h4, _⟩ := hring
      rw [sizeLine_eq]
      omega
    refine ⟨_, _, tg_name 1 nd, sd_no ((et_cmp (ep_callB (A := (· = [.val (.lst ((L.stocks r).map Sd.D.int))])) (P := (· = iv (L.stocks r).sum)) (eap_cons (ed_lc [("index", 2)] (fun i ds => ds = (L.stocks (r.take i)).map Sd.D.int) (ei_tup (ed_var 1)) (by rw [List.length_map]; exact hrl) (fun q hq => by cases hq) rfl ?_ nd (blk (N := N_stuck) (sc := fnScope s_stuck) (by decide +kernel))) ea_nil fun s ss h1 h2 => ?_) (fun ss e => e ▸ cl_sum (lstI _) rfl) (T.free _) bb_sum) ed_int cd_eqI).to (by simp [hsum])) (sd_stop rfl ⟨_, rfl, rfl⟩)⟩
    · rintro C2 le2 i s ds hi ⟨d, hd, rfl⟩ rfl
      obtain ⟨x, hx, rfl⟩ := getE_map hd
      have hlt := hidx x (List.mem_of_getElem? hx)
      refine ⟨[2], _, (· = true), by decide, fun _ _ _ _ _ => tg_name 2 nd, fun _ _ _ _ _ => ets_nil, fun h => (by cases h), fun _ => ⟨_, fun _ _ _ _ _ => ed_side (ok_Link_stock T) hr (by decide) (ds := [.str L.lks[x].src, .str L.lks[x].tgt, .int L.lks[x].stock, .bl L.lks[x].early]) (ed_ixT (s := .val (dLk K L.lks[x])) (ed_side (ok_Line_links T) hr (by decide) (ed_var 0) rfl) (ed_var 2) (.tup _) (atI_nat (by rw [List.getElem?_map, List.getElem?_map, List.getElem?_eq_getElem hlt]; rfl))) rfl, fun s e => ?_⟩⟩
      subst e
      refine ⟨(L.stocks (r.take (i + 1))).map Sd.D.int, ?_, rfl⟩
      unfold Ln.stocks
      rw [take_succ_map hx, List.getD_eq_getElem?_getD, List.getElem?_eq_getElem hlt]
      simp
    · obtain ⟨ds, e1, e2⟩ := h1
      rw [e1, e2, h2, List.length_map, List.take_length]
  · rintro ow en ⟨x, rfl, rfl⟩
    exact sd_ret Fn ed_non (List.Sublist.refl _) (hp _ rfl)
end
end Tx

/-! text W9 -/
set_option Elab.async false
set_option linter.all false
set_option maxRecDepth 100000
set_option maxHeartbeats 2000000
/-! W9: check_free. -/
namespace Tx
open PySem PySem.Spec PyProof.Rows L2 Sd C8
section
variable {P : Program} {w : World} {K : Fg} {mg : Str → Option Value} {base : Heap}
abbrev rFree (K : Fg) : Rel := FX (fun L : Ln => [.val (.tup [dLn K L])]) (fun L => L.Few ∧ L.Ranked) (fun _ s => s = nv)
/-- what check_free asks of its arguments -/
abbrev spFree (K : Fg) : Sp := fun vs H Q E => ∃ ws rest, vs = ws ++ rest ∧ ws.length = ([] : List Str).length ∧ rest.length ≤ sizeLine ∧ ∀ p, H p = Option.none → Pr K (rFree K) (ws ++ [V.ref p]) (upd H p (.tup rest)) Q E
theorem ok_check_free (T : Txt K mg) : FnR P w K mg base L2.CX0 9 (He.ga K "check_free") (spFree K) := by
  obtain ⟨fd, F⟩ := T.f_check_free
  obtain ⟨oc, od, dV, kV, doc, pm, an, cdv, ct, osl, rfl, lk, hcd, hD, hK⟩ := F.ex
  rcases hD with ⟨_, rfl⟩ | ⟨e, _⟩
  case inr => exact absurd rfl e
  refine StX.fn_star (ps := []) (pv := "lines") lk hcd sc_check_free StX.cxUp_none (fun us rest hl => ?_) fun A outer s H vs Q E hr h => ?_
  · cases us with
    | cons _ _ => simp at hl
    | nil =>
      cases rest with
      | nil => rfl
      | cons a r => rfl
  · obtain ⟨B, ow, ss, post, sub, nd, own, rs, hR, ret⟩ := h
    obtain ⟨rfl, L, rfl, ⟨hF, hRk⟩, hp⟩ := hR
    have body : ∀ (C : FC) (D : Ends), Sd.Fin C K post D → FinN C K post D → SD C (cxOf L2.CX0 P w K mg base N_check_free d_check_free.qual (fnScope s_check_free) (d_check_free.at_ K) cdv A outer s H E).nox [] ([.val (.tup [dLn K L])] ++ List.replicate (N_check_free.length - 1) .un) (fnBody s_check_free) D := fun C D Fn Fx => by
      have nd := sc_check_free.nd
      refine sd_for (fun i ow en => ∃ a b, ow = [] ∧ en = [.val (.tup [dLn K L]), a, b]) PassesOwn.never rfl (ei_tup (ed_var 0)) ⟨.un, .un, rfl, rfl⟩ (fun _ _ _ _ q hq => by cases hq) ?_ ?_
      · rintro C' le i s ow en hi ⟨a, b, rfl, rfl⟩ ⟨d, hd, rfl⟩
        have hi : i < 1 := hi
        have : i = 0 := by omega
        subst this
        cases hd
        refine ⟨_, _, tg_name 1 nd, sd_set 2 (s := nv) (ep_callX (ok_stuck T) hr (by decide) (ea_cons (ed_var 1) ea_nil) fun ss e => ⟨L, e, ⟨hF, hRk⟩, fun s e => e⟩) (sd_no ((et_cmp (ed_var 2) ed_non cd_notN).to rfl) (sd_stop rfl ⟨_, _, rfl, rfl⟩)) nd⟩
      · rintro ow en ⟨a, b, rfl, rfl⟩
        exact sd_fin Fx (hp _ rfl)
    obtain ⟨t, ht, q⟩ := (body ⟨[], B, H, []⟩ { nx := fun _ H' => Q .non H', rt := Q } (Sd.Fin.of (ow := []) ret rfl) (FinN.of (ow := []) ret rfl)).run B (L2.start N_check_free vs) H (Sta.init (N := N_check_free) (ow := []) sub nd own rs)
    exact ⟨t, ht.nox, q⟩
end
end Tx
namespace Sd
open PySem PySem.Spec PyProof.Rows L2
section
variable {C : FC} {X : Cx} {ow : Ow} {en : En} {e : Expr} {pos p0 : Pos} {P : SV → Prop} {x : Str}
/-- f(e), def f(*v) -/
theorem ep_callStar {k j : Nat} {f : Addr} {R : Rel} {d : Sd.D} (F : FnR X.prog X.w X.K X.mg X.base L2.CX0 k f (fun vs H Q E => ∃ ws rest, vs = ws ++ rest ∧ ws.length = ([] : List Str).length ∧ rest.length ≤ sizeLine ∧ ∀ p, H p = Option.none → Pr X.K R (ws ++ [V.ref p]) (upd H p (.tup rest)) Q E)) (hr : Room j X.A) (hk : k ≤ j) (hkp : PySem.W.keepIn X.K (.ref f) = true) (hm : X.mg x = some (.ref f))
    (ha : EvD C X ow en e (.val d)) (h : ∃ post, R [] [.val (.tup [d])] post ∧ ∀ s ow', post s ow' → ow' = [] ∧ P s) (hg : Gl X x := by rfl)
    (hdb : (x == ("__debug__" : Str)) = false := by decide) (he : starEach [e] X.env = (false, eval e X.env) :: starEach [] X.env := by rfl) (hpl : (backTo pos (starEach [] X.env)).any (·.1) = false := by rfl) :
    EvP C X ow en (.Call (.Name x p0) [e] [] pos) P :=
  ⟨fun B σ H S Q q => ⟨fun σ H Q => WA X [e] σ H fun vs H1 => ∃ ws rest, vs = ws ++ rest ∧ ws.length = ([] : List Str).length ∧ rest.length ≤ sizeLine ∧ ∀ p, H1 p = Option.none → Pr X.K R (ws ++ [V.ref p]) (upd H1 p (.tup rest)) Q C8.E0, ⟨fun pins s σ H Q I h => by
    refine wpAny_Call_Name_kw (ld_glob I hg hm ?_ hdb)
    refine PySem.W.callWith_K (h₀ := X.base) I.ok.mod.kin hkp (thn (pa_wa.run pos pins s σ H _ I h) fun us s2 ⟨vs, H2, I2, r, q⟩ => ⟨I2.kIn, ?_⟩) he hpl
    exact wpAny_call (codeAny_mono (run_fnR F (hr.mono hk) C8.pass0 I2 r q) fun r s' hq => by
      cases r with
      | error e => exact hq
      | ok fl => cases fl <;> first | exact hq | exact False.elim hq)⟩, (ea_cons ha ea_nil he).run B σ H S _ fun vs ss B' H' ps n rs => by
    subst ps
    obtain ⟨v, e1, r⟩ := sl1 rs
    obtain ⟨post, hR, hp⟩ := h
    subst e1
    refine ⟨[], [v], rfl, rfl, by rw [sizeLine_eq]; simp, fun p hp0 => ?_⟩
    have g := n.sta.share (o := .tup [v]) hp0
    have n2 := n.trans (Nxt.grow n.sta g)
    refine ⟨_, [], [.val (.tup [d])], post, n2.sta.sub, by simp, (fun q hq => by cases hq), RpSL.cons ?_ RpSL.nil, hR, ?_⟩
    · simp only [RpS, Rp]
      exact ⟨p, [v], rfl, SqT.of upd_same, RpL.cons (Rp.mono g.exB r) RpL.nil⟩
    · exact ret_called (owA := []) n2.sta (List.nil_sublist _) hp fun v2 s2 B2 H2 ps n3 r3 => q v2 s2 B2 H2 ps (n2.trans n3) r3⟩⟩
end
end Sd

/-! text W10 -/
set_option Elab.async false
set_option linter.all false
set_option maxRecDepth 100000
set_option maxHeartbeats 2000000
/-! W10: chosen names; the width of a line. -/
namespace Tx
open PySem PySem.Spec PyProof.Rows L2 Sd C8
section
variable {P : Program} {w : World} {K : Fg} {mg : Str → Option Value} {base : Heap}
theorem ok_chosen_names (T : Txt K mg) : Cal P w K mg base 5 "chosen_names" (Pr K (FX (fun z : Ln × List Str => [.val (dLn K z.1), .val (.tup (z.2.map Sd.D.str))]) (fun z => z.1.sts.length ≤ 6 ∧ z.2.Nodup ∧ ∀ x ∈ z.2, x ∈ (z.1.sts.filter (·.timed)).map (·.name)) (fun z s => s = .val (.tup (z.2.map Sd.D.str))))) [] := by
  obtain ⟨fd, F⟩ := T.f_chosen_names
  refine cal_of F sc_chosen_names (T.glo _) (bd_chosen_names F) (by rintro ow ss post ⟨_, L, rfl, _⟩; rfl) fun cdv A outer sh H E C D ow ss post hr hR hM Fn Fx => ?_
  obtain ⟨rfl, ⟨L, zs⟩, rfl, ⟨h6, hnd, ht⟩, hp⟩ := hR
  have nd := sc_chosen_names.nd
  refine sd_no ((et_cmp (ed_var 1) ed_non cd_isN).to rfl) (sd_no (et_not (et_val (k := true) (ed_isi (ed_var 1) (isi_tup kb_tuple_tuple) (T.free _) (T.free _) bt_tuple))) ?_)
  refine sd_for (fun i ow en => ∃ a b, ow = [] ∧ en = [.val (dLn K L), .val (.tup (zs.map Sd.D.str)), a, b]) PassesOwn.never rfl (ei_enumT (ed_var 1) (T.free _)) ⟨.un, .un, rfl, rfl⟩ (fun _ _ _ _ q hq => by cases hq) ?_ ?_
  · rintro C' le i s ow en hi ⟨a, b, rfl, rfl⟩ ⟨d, hd, rfl⟩
    obtain ⟨x, hx, rfl⟩ := getE_map hd
    have hmem := ht x (List.mem_of_getElem? hx)
    have hni : x ∉ zs.take i := fun hm => fresh_at (f := id) (by rw [List.map_id]; exact hnd) hx hm rfl
    refine ⟨_, _, tg_tup rfl (tgs_cons (tg_name 2 nd) (tgs_cons (tg_name 3 nd) tgs_nil)), sd_no ((et_or3 (k := false) (j := false) (l := false) ((et_not (et_val (k := true) (ed_isi (ed_var 3) (isi_str kb_str_str) (T.free _) (T.free _) bt_str))).to rfl) (fun _ => etp_cmp (ed_var 3) (ep_propX (ok_Line_timed T) hr (by decide) (ed_var 0) (.val _ _ _) ⟨L, rfl, h6, fun s h => h⟩) fun x1 y1 e1 e2 => ?_) fun _ _ => (et_cmp (ed_var 3) (ed_slT (ed_var 1) eo_none (eo_some (ed_var 2))) (cd_inS (xs := zs.take i) ?_)).to (by simp [hni])).to rfl) (sd_stop rfl ⟨_, _, rfl, rfl⟩)⟩
    · obtain ⟨zs2, rfl, hperm, _⟩ := e2
      subst e1
      refine ⟨_, ?_, cd_notInS (seqTS zs2)⟩
      have : x ∈ zs2 := hperm.mem_iff.mpr hmem
      simp [this]
    · have hi : i < zs.length := by simpa using hi
      rw [cutS_to _ _ (by rw [List.length_map]; omega), ← List.map_take]
      exact seqTS _
  · rintro ow en ⟨a, b, rfl, rfl⟩
    exact sd_ret Fn (ed_var 1) (List.Sublist.refl _) (hp _ rfl)
/-- hands and stocks are small -/
structure Ln.Low (L : Ln) : Prop where
  few : L.Few
  hands : ∀ s ∈ L.sts, ∀ h, s.hands = some h → 1 ≤ h ∧ h ≤ 3
  stocks : ∀ l ∈ L.lks, 0 ≤ l.stock ∧ l.stock ≤ 3
structure Ln.Wide (L : Ln) (w : Nat) : Prop where
  one : 1 ≤ w ∧ w ≤ 3
  hands : ∀ s ∈ L.sts, ∀ h, s.hands = some h → h ≤ w
  stocks : ∀ l ∈ L.lks, l.stock ≤ w
def Ln.handsL (l : List St3) : List Int := l.filterMap (·.hands)
theorem handsL_snoc {l : List St3} {i : Nat} {x : St3} (h : l[i]? = some x) : Ln.handsL (l.take (i + 1)) = Ln.handsL (l.take i) ++ x.hands.toList := by
  unfold Ln.handsL
  rw [List.take_add_one, h, List.filterMap_append]
  cases hx : x.hands <;> simp [hx]
theorem ok_width_of (T : Txt K mg) : Cal P w K mg base 3 "width_of" (Pr K (FX (fun L : Ln => [.val (dLn K L)]) (fun L => L.Low) (fun L s => ∃ w : Nat, s = iv (w : Nat) ∧ L.Wide w))) [] := by
  obtain ⟨fd, F⟩ := T.f_width_of
  refine cal_of F sc_width_of (T.glo _) (bd_width_of F) (by rintro ow ss post ⟨_, L, rfl, _⟩; rfl) fun cdv A outer sh H E C D ow ss post hr hR hM Fn Fx => ?_
  obtain ⟨rfl, L, rfl, hL, hp⟩ := hR
  have nd := sc_width_of.nd
  have h4 := hL.few.n4
  have h7 := hL.few.n7
  refine sd_setLcD 1 [("station", 2)] (fun i ds => ds = (Ln.handsL (L.sts.take i)).map Sd.D.int) (ei_tup (ed_side (ok_Line_stations T) hr (by decide) (ed_var 0) rfl)) (by rw [sizeLine_eq, List.length_map]; omega) (fun q hq => by cases hq) rfl ?_ ?_ (by rw [hM]; simp) nd (blk (N := N_width_of) (sc := fnScope s_width_of) (by decide +kernel))
  · rintro C' le i s ds hi ⟨d, hd, rfl⟩ rfl
    obtain ⟨x, hx, rfl⟩ := getE_map hd
    have hs := handsL_snoc hx
    refine ⟨[2], _, (· = !isNon (oid x.hands)), by decide, fun _ _ _ _ _ => tg_name 2 nd, fun _ _ _ _ _ => ets_one (et_cmp (ed_side (ok_Station_hands T) hr (by decide) (ed_var 2) rfl) ed_non cd_notN), fun h => ?_, fun h => ⟨_, fun _ _ _ _ _ => ed_side (ok_Station_hands T) hr (by decide) (ed_var 2) rfl, fun r e => ?_⟩⟩
    · refine ⟨_, rfl, ?_⟩
      rw [hs]
      cases hx2 : x.hands with
      | none => simp
      | some v => rw [hx2] at h; cases h
    · subst e
      refine ⟨(Ln.handsL (L.sts.take (i + 1))).map Sd.D.int, ?_, rfl⟩
      rw [hs]
      cases hx2 : x.hands with
      | none => rw [hx2] at h; cases h
      | some v => simp [oid]
  · rintro ds rfl
    rw [List.length_map, List.take_length]
    have hlk : ∀ ow' : Ow, True := fun _ => trivial
    refine sdp_ret Fn (P := fun s => ∃ w : Nat, s = iv (w : Nat) ∧ L.Wide w) (ep_callB (A := (· = [.val (.lst ((1 :: (Ln.handsL L.sts ++ L.lks.map (·.stock))).map Sd.D.int))])) (ea_cons (ed_ofN (ds := (1 :: (Ln.handsL L.sts ++ L.lks.map (·.stock))).map Sd.D.int) (en_lst (EvA.is (ea_cons ed_int (ea_star (ed_var 1) (.lst _) (ea_star (s := .val (.lst ((L.lks.map (·.stock)).map Sd.D.int))) ((ed_lc [("link", 3)] (fun i ds => ds = ((L.lks.take i).map (·.stock)).map Sd.D.int) (ei_tup (ed_side (ok_Line_links T) hr (by decide) (ed_var 0) rfl)) (by rw [sizeLine_eq, List.length_map]; omega) (fun q hq => by cases hq) rfl ?_ nd (blk (N := N_width_of) (sc := fnScope s_width_of) (by decide +kernel))).imp fun s h => ?_) (.lst _) ea_nil))) (by simp)) ?_)) ea_nil) (fun ss e => e ▸ ⟨(cl_max (lstI _) (by simp) rfl).ex.imp fun r h => ⟨h.1, fun B σ H vs S rs Q q => h.2 B σ H vs S rs Q fun z s B' H' p n r => q z s B' H' ?_ n r⟩⟩) (T.free _) bb_max) fun s e => ⟨[], List.nil_sublist _, hp _ e⟩
    · rintro C' le i s ds hi ⟨d, hd, rfl⟩ rfl
      obtain ⟨x, hx, rfl⟩ := getE_map hd
      refine ⟨[3], _, (· = true), by decide, fun _ _ _ _ _ => tg_name 3 nd, fun _ _ _ _ _ => ets_nil, fun h => (by cases h), fun _ => ⟨_, fun _ _ _ _ _ => ed_side (ok_Link_stock T) hr (by decide) (ed_var 3) rfl, fun r e => ?_⟩⟩
      subst e
      exact ⟨((L.lks.take (i + 1)).map (·.stock)).map Sd.D.int, by rw [take_succ_map hx]; simp, rfl⟩
    · obtain ⟨ds, e1, e2⟩ := h
      rw [e1, e2, List.length_map, List.take_length]
    · have : (Ln.handsL L.sts).length ≤ L.sts.length := List.length_filterMap_le _ _
      rw [sizeLine_eq]
      simp
      omega
    · obtain ⟨m, e, hm, hle⟩ := p
      have hge : 1 ≤ m := hle 1 (by simp)
      have hm3 : m ≤ 3 := by
        simp only [List.mem_cons, List.mem_append] at hm
        rcases hm with hm | hm | hm
        · omega
        · obtain ⟨s, hs, hh⟩ := List.mem_filterMap.mp hm
          exact (hL.hands s hs m hh).2
        · obtain ⟨l, hl, hh⟩ := List.mem_map.mp hm
          rw [← hh]
          exact (hL.stocks l hl).2
      refine ⟨m.toNat, by rw [e]; congr 2; omega, ⟨by omega, by omega⟩, fun s hs h hh => ?_, fun l hl => ?_⟩
      · have := hle h (List.mem_cons_of_mem _ (List.mem_append_left _ (List.mem_filterMap.mpr ⟨s, hs, hh⟩)))
        omega
      · have := hle l.stock (List.mem_cons_of_mem _ (List.mem_append_right _ (List.mem_map.mpr ⟨l, hl, rfl⟩)))
        omega
end
end Tx

/-! text W11 -/
set_option Elab.async false
set_option linter.all false
set_option maxRecDepth 100000
set_option maxHeartbeats 2000000
/-! W11: the entries of a line. -/
namespace Sd
open PySem PySem.Spec PyProof.Rows L2
section
variable {C : FC} {X : Cx} {ow : Ow} {en : En} {a b c e : Expr} {pos : Pos} {A : OC → Prop}
theorem en_if {k : Bool} (hc : EvT C X ow en c k) (ha : k = true → EvN C X ow en a A) (hb : k = false → EvN C X ow en b A) : EvN C X ow en (.IfExp c a b pos) A :=
  ⟨fun B σ H S Q q => ⟨_, pe_ifExp pt_wt pe_we pe_we, hc.run B σ H S _ fun d B' H' p n => by
    subst p
    cases d with
    | true =>
      rw [if_pos rfl]
      exact (ha rfl).run B' σ H' n.sta Q fun p oc B2 H2 pa n2 => q p oc B2 H2 pa (n.trN n2)
    | false =>
      rw [if_neg Bool.false_ne_true]
      exact (hb rfl).run B' σ H' n.sta Q fun p oc B2 H2 pa n2 => q p oc B2 H2 pa (n.trN n2)⟩⟩
end
theorem Put.last {p : Addr} {x y : OC} : ∀ {r : Ow}, Put p x y (r ++ [(p, x)]) (r ++ [(p, y)])
  | [] => .here
  | _ :: _ => .there Put.last
theorem Put.app {p : Addr} {x y : OC} {r r' t : Ow} (h : Put p x y r r') : Put p x y (r ++ t) (r' ++ t) := by
  induction h with
  | here => exact .here
  | there _ ih => exact .there ih
theorem FrL.app {p : Addr} {d : Sd.D} {l l' m m' : List SV} (h : FrL p d l l') (k : FrL p d m m') : FrL p d (l ++ m) (l' ++ m') := by
  induction h with
  | nil => exact k
  | cons h _ ih => exact .cons h ih
end Sd
namespace Tx
open PySem PySem.Spec PyProof.Rows L2 Sd C8
/-- what a work's begin waits for: lag, station, place (0: its end, 1: its begin) -/
structure Ent where
  lag : Nat
  src : Str
  pl : Nat
abbrev dEnt (e : Ent) : Sd.D := .tup [.int (e.lag : Nat), .str e.src, .int (e.pl : Nat)]
def St3.ent (s : St3) : List Ent := match s.hands with
  | none => []
  | some h => [⟨h.toNat, s.name, 0⟩]
def Lk4.ent (l : Lk4) : Ent := ⟨l.stock.toNat, l.src, if l.early then 1 else 0⟩
def entK (ls : List Lk4) (s : St3) : List Ent := s.ent ++ (ls.filter fun l => decide (l.tgt = s.name)).map Lk4.ent
/-- the lists of the stations, each at its address -/
def owE (ls : List Lk4) : List Addr → List St3 → Ow
  | q :: qs, s :: ss => (q, .lst (((entK ls s).map dEnt).map SV.val)) :: owE ls qs ss
  | _, _ => []
theorem owE_put {ls : List Lk4} {l : Lk4} : ∀ {qs : List Addr} {ss : List St3}, (ss.map (·.name)).Nodup → qs.length = ss.length → l.tgt ∈ ss.map (·.name) → ∃ q s, s ∈ ss ∧ s.name = l.tgt ∧ Put q (.lst (((entK ls s).map dEnt).map SV.val)) (.lst (((entK (ls ++ [l]) s).map dEnt).map SV.val)) (owE ls qs ss) (owE (ls ++ [l]) qs ss) ∧ (s, q) ∈ ss.zip qs
  | [], [], _, _, h => by cases h
  | [], _ :: _, _, h, _ => by simp at h
  | _ :: _, [], _, h, _ => by simp at h
  | q :: qs, s :: ss, nd, hl, hm => by
    rw [List.map_cons, List.nodup_cons] at nd
    have skip : ∀ t : St3, t.name ≠ l.tgt → entK (ls ++ [l]) t = entK ls t := fun t ht => by
      unfold entK
      rw [List.filter_append]
      have : ¬ l.tgt = t.name := fun e => ht e.symm
      simp [this]
    have skips : ∀ (qs : List Addr) (ss : List St3), (∀ t ∈ ss, t.name ≠ l.tgt) → owE (ls ++ [l]) qs ss = owE ls qs ss := fun qs => by
      induction qs with
      | nil => intro ss _; rfl
      | cons a qs ih =>
        intro ss h
        cases ss with
        | nil => rfl
        | cons t ss =>
          show (a, _) :: _ = (a, _) :: _
          rw [skip t (h t List.mem_cons_self), ih ss fun u hu => h u (List.mem_cons_of_mem _ hu)]
    by_cases e : s.name = l.tgt
    · refine ⟨q, s, List.mem_cons_self, e, ?_, by simp⟩
      show Put q _ _ ((q, _) :: owE ls qs ss) ((q, _) :: owE (ls ++ [l]) qs ss)
      rw [skips qs ss fun t ht h => nd.1 (by rw [e, ← h]; exact List.mem_map.mpr ⟨t, ht, rfl⟩)]
      exact .here
    · obtain ⟨q2, s2, h1, h2, h3, h4⟩ := owE_put (ls := ls) (l := l) (qs := qs) (ss := ss) nd.2 (by simpa using hl) ((List.mem_cons.mp hm).resolve_left fun z => e z.symm)
      refine ⟨q2, s2, List.mem_cons_of_mem _ h1, h2, ?_, by simp [h4]⟩
      show Put q2 _ _ ((q, _) :: owE ls qs ss) ((q, _) :: owE (ls ++ [l]) qs ss)
      rw [skip s e]
      exact .there h3
theorem entK_snoc {ls : List Lk4} {l : Lk4} {s : St3} (e : s.name = l.tgt) : entK (ls ++ [l]) s = entK ls s ++ [l.ent] := by
  unfold entK
  rw [List.filter_append]
  simp [e]
abbrev keyN (ss : List St3) : List Key := ss.map fun s => (Sum.inr s.name : Key)
abbrev dEs (ls : List Lk4) (s : St3) : Sd.D := .lst ((entK ls s).map dEnt)
abbrev dEntries (L : Ln) : Sd.D := .dK (keyN L.sts) (L.sts.map (dEs L.lks))
section
variable {C : FC} {X : Cx} {en : En} {st : List Stmt} {D : Ends}
/-- the stations' lists frozen, from the first of the row on -/
theorem sd_frE {pf : Addr} {ks : List Key} {ls : List Lk4} (hM : C.M = []) : ∀ {qs : List Addr} {ss : List St3} {vs : List SV}, qs.length = ss.length → SD C X [(pf, .dK ks ((ss.reverse.map fun s => SV.val (dEs ls s)) ++ vs))] en st D → SD C X (owE ls qs ss ++ [(pf, .dK ks ((qs.reverse.map SV.ptr) ++ vs))]) en st D
  | [], [], vs, _, h => h
  | [], _ :: _, _, h, _ => by simp at h
  | _ :: _, [], _, h, _ => by simp at h
  | q :: qs, s :: ss, vs, hl, h => by
    have hl : qs.length = ss.length := by simpa using hl
    show SD C X ((q, .lst (((entK ls s).map dEnt).map SV.val)) :: (owE ls qs ss ++ [(pf, .dK ks (((q :: qs).reverse.map SV.ptr) ++ vs))])) en st D
    have hfin : SD C X (owE ls qs ss ++ [(pf, .dK ks ((qs.reverse.map SV.ptr) ++ (SV.val (dEs ls s) :: vs)))]) en st D := sd_frE hM hl (by
      rw [List.reverse_cons, List.map_append, List.append_assoc] at h
      exact h)
    refine sd_freeze (d := dEs ls s) .here (.lst _) (by rw [hM]; simp) (ow2 := owE ls qs ss ++ [(pf, .dK ks ((qs.reverse.map SV.ptr) ++ (SV.val (dEs ls s) :: vs)))]) ?_ FrL.same hfin
    have key : ∀ r : Ow, FrW q (dEs ls s) (r ++ [(pf, .dK ks (((q :: qs).reverse.map SV.ptr) ++ vs))]) (r ++ [(pf, .dK ks ((qs.reverse.map SV.ptr) ++ (SV.val (dEs ls s) :: vs)))]) := fun r => by
      induction r with
      | nil =>
        refine .cons (.dK ?_) .nil
        rw [List.reverse_cons, List.map_append, List.append_assoc]
        exact FrL.app FrL.same (.cons (.inr ⟨rfl, rfl⟩) FrL.same)
      | cons a r ih => exact .cons .same ih
    exact key _
theorem sd_frE0 {pf : Addr} {ks : List Key} {ls : List Lk4} {qs : List Addr} {ss : List St3} (hM : C.M = []) (hl : qs.length = ss.reverse.length) (h : SD C X [(pf, .dK ks (ss.map fun s => SV.val (dEs ls s)))] en st D) : SD C X (owE ls qs ss.reverse ++ [(pf, .dK ks (qs.reverse.map SV.ptr))]) en st D := by
  have := sd_frE (C := C) (X := X) (en := en) (st := st) (D := D) (pf := pf) (ks := ks) (ls := ls) (vs := []) hM hl (by rw [List.reverse_reverse, List.append_nil]; exact h)
  rwa [List.append_nil] at this
end
section
variable {P : Program} {w : World} {K : Fg} {mg : Str → Option Value} {base : Heap}
theorem valS_ptr {ss : List St3} {qs : List Addr} (nd : (ss.map (·.name)).Nodup) {s : St3} {q : Addr} (h : (s, q) ∈ ss.zip qs) : valS (keyN ss) (qs.map SV.ptr) (Sum.inr s.name) = some (.ptr q) := by
  induction ss generalizing qs with
  | nil => simp at h
  | cons a ss ih =>
    cases qs with
    | nil => simp at h
    | cons b qs =>
      rw [List.map_cons, List.nodup_cons] at nd
      rw [List.zip_cons_cons] at h
      show valS ((Sum.inr a.name : Key) :: keyN ss) (SV.ptr b :: qs.map SV.ptr) _ = _
      rw [valS_cons]
      rcases List.mem_cons.mp h with e | h
      · injection e with e1 e2
        subst e1 e2
        rw [if_pos rfl]
      · have : ¬ (Sum.inr a.name : Key) = Sum.inr s.name := fun e => by
          have e : a.name = s.name := by injection e
          exact nd.1 (e ▸ List.mem_map.mpr ⟨s, (List.of_mem_zip h).1, rfl⟩)
        rw [if_neg this]
        exact ih nd.2 h
theorem zip_rev {α β : Type} : ∀ {l : List α} {m : List β} {p : α × β}, l.length = m.length → p ∈ l.reverse.zip m.reverse → p ∈ l.zip m
  | [], _, _, _, h => by simp at h
  | a :: l, [], _, h, _ => by simp at h
  | a :: l, b :: m, p, hl, h => by
    have hl : l.length = m.length := by simpa using hl
    rw [List.reverse_cons, List.reverse_cons, List.zip_append (by simp [hl])] at h
    rcases List.mem_append.mp h with h | h
    · exact List.mem_cons_of_mem _ (zip_rev hl h)
    · have : p = (a, b) := by simpa using h
      rw [this]
      exact List.mem_cons_self
theorem ok_entries_of (T : Txt K mg) : Cal P w K mg base 3 "entries_of" (Pr K (FX (fun L : Ln => [.val (dLn K L)]) (fun L => L.Low) (fun L s => s = .val (dEntries L)))) [] := by
  obtain ⟨fd, F⟩ := T.f_entries_of
  refine cal_of F sc_entries_of (T.glo _) (bd_entries_of F) (by rintro ow ss post ⟨_, L, rfl, _⟩; rfl) fun cdv A outer sh H E C D ow ss post hr hR hM Fn Fx => ?_
  obtain ⟨rfl, L, rfl, hL, hp⟩ := hR
  have nd := sc_entries_of.nd
  have h4 := hL.few.n4
  have h7 := hL.few.n7
  have hnd := hL.few.ok.nd
  refine sd_setN 1 (A := (· = .dK [] [])) en_dK (fun pf oc e => ?_) nd
  subst e
  refine sd_for (fun i ow en => ∃ (qs : List Addr) (a : SV), qs.length = ((L.sts.take i).reverse).length ∧ ow = owE [] qs (L.sts.take i).reverse ++ [(pf, .dK (keyN (L.sts.take i)) (qs.reverse.map SV.ptr))] ∧ en = [.val (dLn K L), .ptr pf, a, .un]) PassesOwn.never rfl (ei_tup (ed_side (ok_Line_stations T) hr (by decide) (ed_var 0) rfl)) ⟨[], .un, rfl, rfl, rfl⟩ (fun _ _ _ _ q hq => by cases hq) ?_ ?_
  · rintro C' le i s ow en hi ⟨qs, a, hql, rfl, rfl⟩ ⟨d, hd, rfl⟩
    obtain ⟨x, hx, rfl⟩ := getE_map hd
    have hi : i < L.sts.length := by simpa using hi
    have hrev : (L.sts.take (i + 1)).reverse = x :: (L.sts.take i).reverse := by
      rw [List.take_add_one, hx]
      simp
    have hnew : (Sum.inr x.name : Key) ∉ keyN (L.sts.take i) := fun hm => by
      obtain ⟨y, hy, e⟩ := List.mem_map.mp hm
      have e : y.name = x.name := by injection e
      exact fresh_at hnd hx hy e
    refine ⟨_, _, tg_name 2 nd, sd_asg (EvN.em (A := (· = .lst ((x.ent.map dEnt).map SV.val))) (en_if (k := isNon (oid x.hands)) (et_cmp (ed_side (ok_Station_hands T) hr (by decide) (ed_var 2) rfl) ed_non cd_isN) (fun hk => (en_lst ea_nil).is fun oc e => ?_) fun hk => ?_) fun q oc e => ?_)⟩
    · cases hx2 : x.hands with
      | none => rw [e, St3.ent, hx2]; rfl
      | some v => rw [hx2] at hk; cases hk
    · cases hx2 : x.hands with
      | none => rw [hx2] at hk; cases hk
      | some v =>
        have hv := hL.hands x (List.mem_of_getElem? hx) v hx2
        refine (en_lst (ea_cons (ed_tup (ds := [.int v, .str x.name, .int 0]) (ea_cons ((ed_side (ok_Station_hands T) hr (by decide) (ed_var 2) rfl).is (by rw [hx2]; rfl)) (ea_cons (ed_side (ok_Station_name T) hr (by decide) (ed_var 2) rfl) (ea_cons ed_int ea_nil)))) ea_nil)).is fun oc e => ?_
        have e2 : ((v.toNat : Nat) : Int) = v := by omega
        rw [e, St3.ent, hx2]
        simp [e2]
    · subst e
      refine tgm_dK (k := Sum.inr x.name) (ks := keyN (L.sts.take i)) (ss := qs.reverse.map SV.ptr) (hu_of hr) (ed_var 1) (ed_side (ok_Station_name T) hr (by decide) (ed_var 2) rfl) (by rw [sizeLine_eq]; simp; omega) (.there Put.last) (sd_stop rfl ⟨q :: qs, _, ?_, ?_, rfl⟩)
      · rw [hrev]
        simpa using hql
      · rw [hrev, ksPut_new hnew, ssPut_new hnew]
        have e1 : keyN (L.sts.take (i + 1)) = keyN (L.sts.take i) ++ [Sum.inr x.name] := take_succ_map hx
        rw [e1]
        have e2 : entK [] x = x.ent := by simp [entK]
        show _ = (q, OC.lst (((entK [] x).map dEnt).map SV.val)) :: (owE [] qs (L.sts.take i).reverse ++ _)
        rw [e2, List.reverse_cons, List.map_append]
        rfl
  · rintro ow en ⟨qs, a, hql, rfl, rfl⟩
    rw [List.length_map, List.take_length] at hql ⊢
    have hlen : qs.length = L.sts.length := by simpa using hql
    refine sd_for (fun i ow en => ∃ (a b : SV), ow = owE (L.lks.take i) qs L.sts.reverse ++ [(pf, .dK (keyN L.sts) (qs.reverse.map SV.ptr))] ∧ en = [.val (dLn K L), .ptr pf, a, b]) PassesOwn.never rfl (ei_tup (ed_side (ok_Line_links T) hr (by decide) (ed_var 0) rfl)) ⟨a, .un, rfl, rfl⟩ (fun _ _ _ _ q hq => by cases hq) ?_ ?_
    · rintro C' le i s ow en hi ⟨a, b, rfl, rfl⟩ ⟨d, hd, rfl⟩
      obtain ⟨l, hx, rfl⟩ := getE_map hd
      have hi : i < L.lks.length := by simpa using hi
      have hlm := List.mem_of_getElem? hx
      have htg := (hL.few.ok.ends l hlm).2
      have hst := hL.stocks l hlm
      have hls : L.lks.take (i + 1) = L.lks.take i ++ [l] := by rw [List.take_add_one, hx]; rfl
      obtain ⟨q, s, hs, hsn, hput, hzip⟩ := owE_put (ls := L.lks.take i) (l := l) (qs := qs) (ss := L.sts.reverse) (by rw [List.map_reverse]; exact (List.reverse_perm _).nodup_iff.mpr hnd) hql (by rw [List.map_reverse]; exact List.mem_reverse.mpr htg)
      have hz2 : (s, q) ∈ L.sts.zip qs.reverse := zip_rev (by simp [hlen]) (by rw [List.reverse_reverse]; exact hzip)
      have hv := valS_ptr (qs := qs.reverse) hnd hz2
      have he : entK (L.lks.take i ++ [l]) s = entK (L.lks.take i) s ++ [l.ent] := entK_snoc hsn
      refine ⟨_, _, tg_name 3 nd, sd_exprM (em_append (p := q) (ss := ((entK (L.lks.take i) s).map dEnt).map SV.val) (Pa := (· = .val (dEnt l.ent))) (ed_dget (hu_of hr) (ed_var 1) (ed_side (ok_Link_target T) hr (by decide) (ed_var 3) rfl) (.k (k := Sum.inr s.name) (.own pf _ _ (List.mem_append_right _ (List.mem_singleton.mpr rfl))) (by rw [hsn]; rfl) hv)) (ed_tup (ds := [.int l.ent.lag, .str l.src, .int l.ent.pl]) (ea_cons ((ed_side (ok_Link_stock T) hr (by decide) (ed_var 3) rfl).is ?_) (ea_cons (ed_side (ok_Link_source T) hr (by decide) (ed_var 3) rfl) (ea_cons (ed_if (k := l.early) (et_val (ed_side (ok_Link_early T) hr (by decide) (ed_var 3) rfl)) (fun h => ed_int.is ?_) (fun h => ed_int.is ?_)) ea_nil)))) (List.mem_append_left _ hput.mem) ?_ fun s2 e => ⟨owE (L.lks.take i ++ [l]) qs L.sts.reverse ++ [(pf, .dK (keyN L.sts) (qs.reverse.map SV.ptr))], ?_, ?_⟩)⟩
      · have : ((l.stock.toNat : Nat) : Int) = l.stock := by omega
        show iv l.stock = iv ((l.stock.toNat : Nat) : Int)
        rw [this]
      · simp [Lk4.ent, h]
      · simp [Lk4.ent, h]
      · have h1 : (entK (L.lks.take i) s).length ≤ 1 + 7 := by
          unfold entK
          have h2 : s.ent.length ≤ 1 := by unfold St3.ent; split <;> simp
          have h3 := List.length_filter_le (fun l : Lk4 => decide (l.tgt = s.name)) (L.lks.take i)
          simp only [List.length_append, List.length_map] at h3 ⊢
          rw [List.length_take] at h3
          omega
        rw [sizeLine_eq]
        simp only [List.length_map]
        omega
      · subst e
        have hput2 := hput
        rw [he, List.map_append, List.map_append] at hput2
        exact hput2.app
      · subst e
        refine sd_stop rfl ⟨_, _, ?_, rfl⟩
        rw [hls]
    · rintro ow en ⟨a, b, rfl, rfl⟩
      rw [List.length_map, List.take_length]
      refine sd_frE0 (by rw [hM]; rfl) hql ?_
      refine sd_freeze (d := dEntries L) (en' := [.val (dLn K L), .val (dEntries L), a, b]) .here (by
        have := ShOf.dK (keyN L.sts) (L.sts.map (dEs L.lks))
        rwa [List.map_map] at this) (by rw [hM]; simp) FrW.nil (.cons (.inl rfl) (.cons (.inr ⟨rfl, rfl⟩) FrL.same)) ?_
      exact sd_ret Fn (ed_var 1) (List.Sublist.refl _) (hp _ rfl)
end
end Tx

/-! text W12 -/
set_option Elab.async false
set_option linter.all false
set_option maxRecDepth 100000
set_option maxHeartbeats 2000000
/-! W12: one row of a walk. -/
namespace Tx
open PySem PySem.Spec PyProof.Rows L2 Sd C8
structure Row where
  ends : List Str
  begins : List Str
abbrev dSs (l : List Str) : Sd.D := .tup (l.map Sd.D.str)
abbrev dRow (r : Row) : Sd.D := .tup [dSs r.ends, dSs r.begins]
abbrev rowsS (rows : List Row) : List SV := (rows.map dRow).map SV.val
def Row.at_ (r : Row) (pl : Nat) : List Str := if pl = 0 then r.ends else r.begins
def begunE (rows : List Row) (cur : Row) (e : Ent) : Bool := decide (e.lag ≤ rows.length) && decide (e.src ∈ (if e.lag = 0 then cur else rows.getD (rows.length - e.lag) ⟨[], []⟩).at_ e.pl)
def begunB (rows : List Row) (cur : Row) (es : List Ent) : Bool := es.any (begunE rows cur)
section
variable {P : Program} {w : World} {K : Fg} {mg : Str → Option Value} {base : Heap}
abbrev owB (pt pb pe pr : Addr) (cur : Row) (rows : List Row) : Ow := [(pt, .tup [.ptr pe, .ptr pb]), (pb, .lst (cur.begins.map sv)), (pe, .lst (cur.ends.map sv)), (pr, .lst (rowsS rows))]
theorem ok_is_begun (T : Txt K mg) : Cal P w K mg base 1 "is_begun" (Pr K (fun ow ss post => ∃ (pt pb pe pr : Addr) (cur : Row) (rows : List Row) (es : List Ent), ow = owB pt pb pe pr cur rows ∧ ss = [.val (.lst (es.map dEnt)), .ptr pr, .ptr pt] ∧ (∀ e ∈ es, e.pl ≤ 1) ∧ rows.length ≤ 100000 ∧ post (bv (begunB rows cur es)) (owB pt pb pe pr cur rows))) [] := by
  obtain ⟨fd, F⟩ := T.f_is_begun
  refine cal_of F sc_is_begun (T.glo _) (bd_is_begun F) (by rintro ow ss post ⟨pt, pb, pe, pr, cur, rows, es, _, rfl, _⟩; rfl) fun cdv A outer sh H E C D ow ss post hr hR hM Fn Fx => ?_
  obtain ⟨pt, pb, pe, pr, cur, rows, es, rfl, rfl, hpl, hlen, hp⟩ := hR
  have nd := sc_is_begun.nd
  refine sd_for (fun i ow en => ∃ (a b c : SV), ow = owB pt pb pe pr cur rows ∧ en = [.val (.lst (es.map dEnt)), .ptr pr, .ptr pt, a, b, c] ∧ (es.take i).any (begunE rows cur) = false) PassesOwn.never rfl (ei_lst (ed_var 0)) ⟨.un, .un, .un, rfl, rfl, rfl⟩ (fun _ _ _ _ q hq => by cases hq) ?_ ?_
  · rintro C' le i s ow en hi ⟨a, b, c, rfl, rfl, hno⟩ ⟨d, hd, rfl⟩
    obtain ⟨e, hx, rfl⟩ := getE_map hd
    have hem := List.mem_of_getElem? hx
    have hp1 := hpl e hem
    have htk : es.take (i + 1) = es.take i ++ [e] := by rw [List.take_add_one, hx]; rfl
    have hany : (es.take (i + 1)).any (begunE rows cur) = begunE rows cur e := by rw [htk, List.any_append, hno]; simp
    have mT : (pt, OC.tup [.ptr pe, .ptr pb]) ∈ owB pt pb pe pr cur rows := List.mem_cons_self
    have mB : (pb, OC.lst (cur.begins.map sv)) ∈ owB pt pb pe pr cur rows := List.mem_cons_of_mem _ List.mem_cons_self
    have mE : (pe, OC.lst (cur.ends.map sv)) ∈ owB pt pb pe pr cur rows := List.mem_cons_of_mem _ (List.mem_cons_of_mem _ List.mem_cons_self)
    have mR : (pr, OC.lst (rowsS rows)) ∈ owB pt pb pe pr cur rows := List.mem_cons_of_mem _ (List.mem_cons_of_mem _ (List.mem_cons_of_mem _ List.mem_cons_self))
    refine ⟨_, _, tg_tup rfl (tgs_cons (tg_name 3 nd) (tgs_cons (tg_name 4 nd) (tgs_cons (tg_name 5 nd) tgs_nil))), sd_if (k := begunE rows cur e) (et_and2 ((et_cmp (ed_var 3) (ep_callB (ea_cons (ed_var 1) ea_nil) (fun ss e => e ▸ cl_len (.own pr _ mR)) (T.free _) bb_len) cd_le).to (by simp)) fun hk => ?_) (fun hk => ?_) fun hk => sd_back rfl (sd_stop rfl ⟨_, _, _, rfl, rfl, hany.trans hk⟩)⟩
    · have hk := of_decide_eq_true hk
      by_cases h0 : e.lag = 0
      · rw [if_pos h0]
        rcases (show e.pl = 0 ∨ e.pl = 1 by omega) with h1 | h1
        · have e1 : cur.at_ e.pl = cur.ends := by rw [h1]; rfl
          rw [e1]
          exact et_cmp (ed_var 4) (ed_if (k := true) (s := .ptr pe) ((et_cmp (ed_var 3) ed_int cd_eqI).to (by simp [h0])) (fun _ => ed_ixT (ed_var 2) (ed_var 5) (.own pt _ mT) (by rw [h1]; rfl)) (fun z => by cases z)) (cd_inS (.own pe _ mE))
        · have e1 : cur.at_ e.pl = cur.begins := by rw [h1]; rfl
          rw [e1]
          exact et_cmp (ed_var 4) (ed_if (k := true) (s := .ptr pb) ((et_cmp (ed_var 3) ed_int cd_eqI).to (by simp [h0])) (fun _ => ed_ixT (ed_var 2) (ed_var 5) (.own pt _ mT) (by rw [h1]; rfl)) (fun z => by cases z)) (cd_inS (.own pb _ mB))
      · rw [if_neg h0]
        have hlt : rows.length - e.lag < rows.length := by omega
        have hg : rows.getD (rows.length - e.lag) ⟨[], []⟩ = rows[rows.length - e.lag] := by rw [List.getD_eq_getElem?_getD, List.getElem?_eq_getElem hlt]; rfl
        rw [hg]
        generalize hrow : rows[rows.length - e.lag] = row
        have hget : (rowsS rows)[rows.length - e.lag]? = some (.val (dRow row)) := by
          rw [List.getElem?_map, List.getElem?_map, List.getElem?_eq_getElem hlt, hrow]
          rfl
        refine et_cmp (ed_var 4) (ed_if (k := false) (s := .val (dSs (row.at_ e.pl))) ((et_cmp (ed_var 3) ed_int cd_eqI).to (by simp; omega)) (fun z => by cases z) fun _ => ed_ixT (ss := [.val (dSs row.ends), .val (dSs row.begins)]) (ed_ixL (ed_var 1) (ed_sub (ep_callB (ea_cons (ed_var 1) ea_nil) (fun ss e => e ▸ cl_len (.own pr _ mR)) (T.free _) bb_len) (ed_var 3)) (.own pr _ mR) ?_) (ed_var 5) (.tup [dSs row.ends, dSs row.begins]) ?_) (cd_inS (seqTS _))
        · have e2 : (((rowsS rows).length : Nat) : Int) - ((e.lag : Nat) : Int) = ((rows.length - e.lag : Nat) : Int) := by simp; omega
          rw [e2]
          exact atI_nat hget
        · rcases (show e.pl = 0 ∨ e.pl = 1 by omega) with h1 | h1 <;> rw [h1] <;> rfl
    · refine sd_ret (Fn.le le) ed_bl (List.Sublist.refl _) ?_
      have : begunB rows cur es = true := List.any_eq_true.mpr ⟨e, hem, hk⟩
      rw [this] at hp
      exact hp
  · rintro ow en ⟨a, b, c, rfl, rfl, hno⟩
    rw [List.length_map, List.take_length] at hno
    refine sd_ret Fn ed_bl (List.Sublist.refl _) ?_
    have : begunB rows cur es = false := hno
    rw [this] at hp
    exact hp
end
end Tx

/-! text W13 -/
set_option Elab.async false
set_option linter.all false
set_option maxRecDepth 100000
set_option maxHeartbeats 2000000
/-! W13: next_row. -/
namespace Sd
open PySem PySem.Spec PyProof.Rows L2
section
variable {C : FC} {X : Cx} {ow : Ow} {en : En}
theorem cn_listD {s : SV} {ks : List Key} {ss : List SV} (h : DKOf ow s ks ss) (hl : ks.length = ss.length) (hc : X.calm = true) : ClN C X ow en (.type "list") [s] (· = .lst (ks.map kS)) := ⟨_, call_listD hc, fun B σ H vs S rs Q q => by
  obtain ⟨v, e, r⟩ := sl1 rs
  obtain ⟨a, xs, e1, hq, l⟩ := h.at S r
  subst e e1
  have e2 : (ks.zip xs).map (fun kv => kV kv.1) = ks.map kV := by
    have hlx := l.length
    have : (ks.zip xs).map (fun kv => kV kv.1) = ((ks.zip xs).map Prod.fst).map kV := by rw [List.map_map]; rfl
    rw [this, List.map_fst_zip (by omega)]
  refine ⟨a, _, rfl, hq, fun p hp => q p _ _ _ rfl (NxN.hold S hp ⟨ks.map kV, by rw [upd_same, e2], rs_keys.mpr rfl⟩)⟩⟩
end
end Sd
namespace Tx
open PySem PySem.Spec PyProof.Rows L2 Sd C8
def Ln.entOf (L : Ln) (x : Str) : List Ent := match L.sts.find? fun s => decide (s.name = x) with
  | some s => entK L.lks s
  | none => []
theorem entOf_at {L : Ln} (nd : L.names.Nodup) {s : St3} (h : s ∈ L.sts) : L.entOf s.name = entK L.lks s := by
  have : L.sts.find? (fun t => decide (t.name = s.name)) = some s := by
    have key : ∀ l : List St3, (l.map (·.name)).Nodup → s ∈ l → l.find? (fun t => decide (t.name = s.name)) = some s := fun l => by
      induction l with
      | nil => intro _ h; cases h
      | cons a l ih =>
        intro nd h
        rw [List.map_cons, List.nodup_cons] at nd
        by_cases e : a.name = s.name
        · rcases List.mem_cons.mp h with q | h
          · subst q; simp
          · exact absurd (e ▸ List.mem_map.mpr ⟨s, h, rfl⟩) nd.1
        · rw [List.find?_cons]
          simp only [e, decide_false]
          exact ih nd.2 ((List.mem_cons.mp h).resolve_left fun z => e (by rw [z]))
    exact key _ nd h
  unfold Ln.entOf
  rw [this]
theorem valS_es {L : Ln} (nd : L.names.Nodup) {x : Str} (h : x ∈ L.names) : valS (keyN L.sts) ((L.sts.map (dEs L.lks)).map SV.val) (Sum.inr x) = some (.val (.lst ((L.entOf x).map dEnt))) := by
  obtain ⟨s, hs, rfl⟩ := List.mem_map.mp h
  rw [entOf_at nd hs]
  have key : ∀ l : List St3, (l.map (·.name)).Nodup → s ∈ l → valS (keyN l) ((l.map (dEs L.lks)).map SV.val) (Sum.inr s.name) = some (.val (dEs L.lks s)) := fun l => by
    induction l with
    | nil => intro _ h; cases h
    | cons a l ih =>
      intro nd h
      rw [List.map_cons, List.nodup_cons] at nd
      show valS ((Sum.inr a.name : Key) :: keyN l) (SV.val (dEs L.lks a) :: (l.map (dEs L.lks)).map SV.val) _ = _
      rw [valS_cons]
      rcases List.mem_cons.mp h with q | h
      · subst q; rw [if_pos rfl]
      · have ne : ¬ (Sum.inr a.name : Key) = Sum.inr s.name := fun e => by
          have e : a.name = s.name := by injection e
          exact nd.1 (e ▸ List.mem_map.mpr ⟨s, h, rfl⟩)
        rw [if_neg ne]
        exact ih nd.2 h
  exact key _ nd hs
theorem ent_pl {L : Ln} {x : Str} : ∀ e ∈ L.entOf x, e.pl ≤ 1 := by
  unfold Ln.entOf
  split
  · rename_i s _
    intro e he
    unfold entK at he
    rcases List.mem_append.mp he with he | he
    · unfold St3.ent at he
      split at he
      · cases he
      · rw [List.mem_singleton.mp he]; exact Nat.zero_le _
    · obtain ⟨l, _, rfl⟩ := List.mem_map.mp he
      unfold Lk4.ent
      simp only
      split <;> omega
  · intro e he
    cases he
/-- what is told at the row behind rows: 0 the ends, 1 the begins -/
inductive Now (L : Ln) (start : Str) (rows : List Row) : Nat → Str → Prop where
  | start (h : rows = []) : Now L start rows 0 start
  | beg {x : Str} {e : Ent} (hx : x ∈ L.names) (he : e ∈ L.entOf x) (h0 : e.lag ≠ 0) (hl : e.lag ≤ rows.length) (h : e.src ∈ (rows.getD (rows.length - e.lag) ⟨[], []⟩).at_ e.pl) : Now L start rows 1 x
  | beg0 {x : Str} {e : Ent} (hx : x ∈ L.names) (he : e ∈ L.entOf x) (h0 : e.lag = 0) (h : Now L start rows e.pl e.src) : Now L start rows 1 x
  | fin {x : Str} (h : Now L start rows 1 x) : Now L start rows 0 x
/-- r is the row behind rows -/
structure IsRow (L : Ln) (start : Str) (rows : List Row) (r : Row) : Prop where
  ends : ∀ x, x ∈ r.ends ↔ Now L start rows 0 x
  begins : ∀ x, x ∈ r.begins ↔ Now L start rows 1 x
  nd : r.ends.Nodup ∧ r.begins.Nodup
  sub : (∀ x ∈ r.ends, x ∈ L.names) ∧ ∀ x ∈ r.begins, x ∈ L.names
  srt : sortedS r.ends = true ∧ sortedS r.begins = true
/-- the loop's word -/
structure RowInv (L : Ln) (start : Str) (rows : List Row) (es bs ls : List Str) : Prop where
  part : (bs ++ ls).Perm L.names
  snd1 : ∀ x ∈ bs, Now L start rows 1 x
  ends : ∀ x, x ∈ es ↔ x ∈ bs ∨ (rows = [] ∧ x = start)
  nd : es.Nodup
def freshL (L : Ln) (rows : List Row) (es bs ls : List Str) : List Str := ls.filter fun x => begunB rows ⟨es, bs⟩ (L.entOf x)
theorem now_of_begun {L : Ln} {start : Str} {rows : List Row} {es bs ls : List Str} (h : RowInv L start rows es bs ls) {x : Str} (hx : x ∈ L.names) (hb : begunB rows ⟨es, bs⟩ (L.entOf x) = true) : Now L start rows 1 x := by
  obtain ⟨e, he, hb⟩ := List.any_eq_true.mp hb
  unfold begunE at hb
  simp only [Bool.and_eq_true, decide_eq_true_eq] at hb
  obtain ⟨h1, h2⟩ := hb
  by_cases h0 : e.lag = 0
  · rw [if_pos h0] at h2
    refine .beg0 hx he h0 ?_
    rcases (show e.pl = 0 ∨ e.pl = 1 by have := ent_pl e he; omega) with hp | hp
    · rw [hp] at h2 ⊢
      have h2 : e.src ∈ es := h2
      rcases (h.ends _).mp h2 with q | ⟨q1, q2⟩
      · exact .fin (h.snd1 _ q)
      · rw [q2]; exact .start q1
    · rw [hp] at h2 ⊢
      exact h.snd1 _ h2
  · rw [if_neg h0] at h2
    exact .beg hx he h0 h1 h2
theorem now_begun {L : Ln} {start : Str} {rows : List Row} {es bs ls : List Str} (h : RowInv L start rows es bs ls) (hf : freshL L rows es bs ls = []) : ∀ {pl : Nat} {x : Str}, Now L start rows pl x → (pl = 0 → x ∈ es) ∧ (pl = 1 → x ∈ bs) := by
  have key : ∀ {x : Str} {e : Ent}, x ∈ L.names → e ∈ L.entOf x → begunE rows ⟨es, bs⟩ e = true → x ∈ bs := fun {x e} hx he hb => by
    rcases List.mem_append.mp (h.part.mem_iff.mpr hx) with q | q
    · exact q
    · have : x ∈ freshL L rows es bs ls := List.mem_filter.mpr ⟨q, List.any_eq_true.mpr ⟨e, he, hb⟩⟩
      rw [hf] at this
      cases this
  intro pl x n
  induction n with
  | start h0 => exact ⟨fun _ => (h.ends _).mpr (.inr ⟨h0, rfl⟩), fun z => nomatch z⟩
  | beg hx he h0 hl hm =>
    refine ⟨(fun z => nomatch z), fun _ => key hx he ?_⟩
    unfold begunE
    rw [if_neg h0, decide_eq_true hm, decide_eq_true hl]
    rfl
  | @beg0 x e hx he h0 hn ih =>
    refine ⟨(fun z => nomatch z), fun _ => key hx he ?_⟩
    unfold begunE
    rw [if_pos h0, h0]
    simp only [Nat.zero_le, decide_true, Bool.true_and, decide_eq_true_eq]
    rcases (show e.pl = 0 ∨ e.pl = 1 by have := ent_pl e he; omega) with hp | hp
    · rw [hp]; exact ih.1 hp
    · rw [hp]; exact ih.2 hp
  | fin hn ih => exact ⟨fun _ => (h.ends _).mpr (.inl (ih.2 rfl)), fun z => nomatch z⟩
theorem rowInv_step {L : Ln} {start : Str} {rows : List Row} {es bs ls : List Str} (h : RowInv L start rows es bs ls) (nd : L.names.Nodup) : RowInv L start rows (es ++ (freshL L rows es bs ls).filter fun x => !decide (x ∈ es)) (bs ++ freshL L rows es bs ls) (ls.filter fun x => !decide (x ∈ freshL L rows es bs ls)) := by
  have hsub : ∀ x ∈ ls, x ∈ L.names := fun x hx => h.part.mem_iff.mp (List.mem_append_right _ hx)
  have hndp : (bs ++ ls).Nodup := h.part.nodup_iff.mpr nd
  refine ⟨?_, fun x hx => ?_, fun x => ?_, ?_⟩
  · refine List.Perm.trans ?_ h.part
    rw [List.append_assoc]
    refine List.Perm.append_left _ ?_
    have e : (ls.filter fun x => !decide (x ∈ freshL L rows es bs ls)) = ls.filter fun x => !begunB rows ⟨es, bs⟩ (L.entOf x) := List.filter_congr fun x hx => by
      by_cases hb : begunB rows ⟨es, bs⟩ (L.entOf x) = true
      · have : x ∈ freshL L rows es bs ls := List.mem_filter.mpr ⟨hx, hb⟩
        simp [this, hb]
      · have : x ∉ freshL L rows es bs ls := fun z => hb (List.mem_filter.mp z).2
        simp [this, hb]
    rw [e]
    exact List.filter_append_perm _ _
  · rcases List.mem_append.mp hx with hx | hx
    · exact h.snd1 x hx
    · have := List.mem_filter.mp hx
      exact now_of_begun h (hsub x this.1) this.2
  · rw [List.mem_append, List.mem_append, h.ends, List.mem_filter]
    constructor
    · rintro ((q | q) | q)
      · exact .inl (.inl q)
      · exact .inr q
      · exact .inl (.inr q.1)
    · rintro ((q | q) | q)
      · exact .inl (.inl q)
      · by_cases hx : x ∈ es
        · exact .inl ((h.ends x).mp hx)
        · exact .inr ⟨q, by simp [hx]⟩
      · exact .inl (.inr q)
  · rw [List.nodup_append]
    refine ⟨h.nd, ((List.nodup_append.mp hndp).2.1.filter _).filter _, fun a ha b hb => ?_⟩
    have := (List.mem_filter.mp hb).2
    intro e
    subst e
    simp [ha] at this
section
variable {P : Program} {w : World} {K : Fg} {mg : Str → Option Value} {base : Heap}
theorem map_val_str (l : List Str) : (l.map Sd.D.str).map SV.val = l.map sv := by rw [List.map_map]; rfl
abbrev owR (pb pe pr : Addr) (cur : Row) (rows : List Row) : Ow := [(pb, .lst (cur.begins.map sv)), (pe, .lst (cur.ends.map sv)), (pr, .lst (rowsS rows))]
theorem ok_next_row (T : Txt K mg) : Cal P w K mg base 2 "next_row" (Pr K (fun ow ss post => ∃ (pr : Addr) (L : Ln) (start : Str) (rows : List Row), ow = [(pr, .lst (rowsS rows))] ∧ ss = [.val (dEntries L), sv start, .ptr pr] ∧ L.Few ∧ start ∈ L.names ∧ rows.length ≤ 100000 ∧ ∀ r : Row, IsRow L start rows r → post (.val (dRow r)) [(pr, .lst (rowsS rows))])) [] := by
  obtain ⟨fd, F⟩ := T.f_next_row
  refine cal_of F sc_next_row (T.glo _) (bd_next_row F) (by rintro ow ss post ⟨pr, L, start, rows, _, rfl, _⟩; rfl) fun cdv A outer sh H E C D ow ss post hr hR hM Fn Fx => ?_
  obtain ⟨pr, L, start, rows, rfl, rfl, hL, hst, hlen, hp⟩ := hR
  have nd := sc_next_row.nd
  have hnd := hL.ok.nd
  have h4 : L.names.length ≤ 4 := by rw [List.length_map]; exact hL.n4
  refine sd_asg (em_tup (eaw_new (A := (· = .lst ((if rows = [] then [start] else []).map sv))) (en_if (k := decide (((rowsS rows).length : Int) = 0)) (et_cmp (ep_callB (ea_cons (ed_var 2) ea_nil) (fun ss e => by rw [e]; exact cl_len (.own pr _ (List.mem_singleton.mpr rfl))) (T.free _) bb_len) ed_int cd_eqI) (fun hk => (en_lst (ea_cons (ed_var 1) ea_nil)).is fun oc e => ?_) fun hk => (en_lst ea_nil).is fun oc e => ?_) fun pe _ e => e ▸ eaw_new (A := (· = .lst [])) (en_lst ea_nil) fun pb _ e => e ▸ eaw_nil ⟨by rw [sizeLine_eq]; exact Nat.le_of_ble_eq_true rfl, fun t => tgm_tup (.own t _ List.mem_cons_self) (tgsm_cons (tgm_name 3 (tgsm_cons (tgm_name 4 (tgsm_nil ?_) nd)) nd)) rfl⟩))
  · have hk := of_decide_eq_true hk
    have : rows = [] := by
      cases rows with
      | nil => rfl
      | cons _ _ => simp at hk; omega
    rw [e, if_pos this]
    rfl
  · have hk := of_decide_eq_false hk
    have : ¬ rows = [] := fun z => hk (by rw [z]; rfl)
    rw [e, if_neg this]
    rfl
  refine SD.drop (ow' := owR pb pe pr ⟨if rows = [] then [start] else [], []⟩ rows) ?_ (List.sublist_cons_self _ _)
  refine sd_set 5 (s := .val (.lst (L.names.map Sd.D.str))) (ed_ofN (ds := L.names.map Sd.D.str) ((en_callTy (ea_cons (ed_var 0) ea_nil) (fun ss e => e ▸ cn_listD (.val _ _) (by simp) rfl) (T.free _) bt_list).is fun oc e => ?_)) ?_ nd
  · rw [e, map_val_str]
    simp only [List.map_map]
    rfl
  refine sd_set 6 ed_bl ?_ nd
  refine sd_while (fun m ow en => ∃ (es bs ls : List Str) (ch : Bool) (x7 x8 : SV), ow = owR pb pe pr ⟨es, bs⟩ rows ∧ en = [.val (dEntries L), sv start, .ptr pr, .ptr pe, .ptr pb, .val (.lst (ls.map Sd.D.str)), bv ch, x7, x8] ∧ RowInv L start rows es bs ls ∧ (ch = false → freshL L rows es bs ls = []) ∧ m = (if ch then ls.length + 1 else 0)) (L.names.length + 1) PassesOwn.never
    ⟨_, [], L.names, true, _, _, rfl, rfl, ⟨.refl _, (fun x hx => nomatch hx), fun x => ?_, ?_⟩, (fun z => nomatch z), rfl⟩ ?_
  · split <;> simp_all
  · split <;> simp
  rintro m ow en ⟨es, bs, ls, ch, x7, x8, rfl, rfl, hI, hch, rfl⟩
  refine ⟨ch, et_val (ed_var 6), fun hk => ?_, fun hk => ?_⟩
  · subst hk
    have hsub : ∀ x ∈ ls, x ∈ L.names := fun x hx => hI.part.mem_iff.mp (List.mem_append_right _ hx)
    have hll : ls.length ≤ 4 := by have := hI.part.length_eq; rw [List.length_append] at this; omega
    have hbl : bs.length ≤ 4 := by have := hI.part.length_eq; rw [List.length_append] at this; omega
    have hfl : (freshL L rows es bs ls).length ≤ ls.length := List.length_filter_le _ _
    have hfr : ∀ (i : Nat) (x : Str), ls[i]? = some x → freshL L rows es bs (ls.take (i + 1)) = freshL L rows es bs (ls.take i) ++ if begunB rows ⟨es, bs⟩ (L.entOf x) = true then [x] else [] := fun i x hx => by
      unfold freshL
      rw [List.take_add_one, hx, List.filter_append]
      simp only [Option.toList, List.filter_cons, List.filter_nil]
    refine sd_setN 7 (A := (· = .lst ((freshL L rows es bs ls).map sv))) ((en_lc [("name", 8)] (fun i acc => acc = (freshL L rows es bs (ls.take i)).map sv) (ei_lst (ed_var 5)) (by rw [List.length_map, sizeLine_eq]; omega) (fun q hq => nomatch hq) rfl ?_ nd (blk (N := N_next_row) (sc := fnScope s_next_row) (by decide +kernel))).is fun oc h => ?_) (fun pf oc e => ?_) nd
    · rintro C' le i s acc hi ⟨d, hd, rfl⟩ rfl
      obtain ⟨x, hx, rfl⟩ := getE_map hd
      have hxn := hsub x (List.mem_of_getElem? hx)
      have hf := hfr i x hx
      refine ⟨[8], _, (· = begunB rows ⟨es, bs⟩ (L.entOf x)), by decide, fun _ _ _ _ _ => tg_name 8 nd, fun _ _ _ _ _ => ets_one (et_val (ep_callW (P := (· = bv (begunB rows ⟨es, bs⟩ (L.entOf x)))) (dd := []) (ok_is_begun T) hr (by decide) (fun _ => RpSL.nil) (eaw_val (Pa := (· = .val (.lst ((L.entOf x).map dEnt)))) (ed_dget (hu_of hr) (ed_var 0) (ed_var 8) (.k (k := Sum.inr x) (.val _ _) rfl (valS_es hnd hxn))) fun s1 e1 => e1 ▸ eaw_val (Pa := (· = .ptr pr)) (ed_var 2) fun s2 e2 => e2 ▸ eaw_new (A := (· = .tup [.ptr pe, .ptr pb])) (en_tup (ea_cons (ed_var 3) (ea_cons (ed_var 4) ea_nil))) fun pt _ e3 => e3 ▸ eaw_nil ⟨owB pt pb pe pr ⟨es, bs⟩ rows, fun s ow' => s = bv (begunB rows ⟨es, bs⟩ (L.entOf x)) ∧ ow' = owB pt pb pe pr ⟨es, bs⟩ rows, List.Sublist.refl _, ⟨pt, pb, pe, pr, ⟨es, bs⟩, rows, L.entOf x, rfl, by rw [e2]; rfl, ent_pl, hlen, rfl, rfl⟩, fun s ow' h => ⟨h.2, h.1⟩⟩))), fun h => ?_, fun h => ⟨_, fun _ _ _ _ _ => ed_var 8, fun r e => ?_⟩⟩
      · rw [hf, ← h, if_neg (by decide), List.append_nil]
      · subst e
        rw [hf, ← h, if_pos rfl]
        simp
    · obtain ⟨acc, e1, e2⟩ := h
      rw [e1, e2, List.length_map, List.take_length]
    · subst e
      generalize hF : freshL L rows es bs ls = F at hfl ⊢
      have hI2 := rowInv_step hI hnd
      rw [hF] at hI2
      have hel : es.length ≤ 4 := by
        have := nodup_len hI.nd (m := L.names) fun x hx => by
          rcases (hI.ends x).mp hx with q | ⟨_, q⟩
          · exact hI.part.mem_iff.mp (List.mem_append_left _ q)
          · rw [q]; exact hst
        omega
      refine sd_ext (r := pf) (ts := []) (ss := bs.map sv) 4 rfl (EvP.em (P := (· = .ptr pf)) (ed_var 7) fun s e => ?_) nd
      refine ⟨pf, F.map sv, _, e, List.mem_cons_self, .there .here, by rw [sizeLine_eq]; simp; omega, ?_⟩
      have hE2 : (F.filter fun x => !decide (x ∈ es)).length ≤ F.length := List.length_filter_le _ _
      have mE : (pe, OC.lst (es.map sv)) ∈ ((pf, OC.lst (F.map sv)) :: (pb, OC.lst (bs.map sv ++ F.map sv)) :: (pe, OC.lst (es.map sv)) :: (pr, OC.lst (rowsS rows)) :: []) := by simp
      refine sd_ext (r := pf) (ts := []) (ss := es.map sv) 3 rfl (EvN.em (A := (· = .lst ((F.filter fun x => !decide (x ∈ es)).map sv))) ((en_lc [("name", 8)] (fun i acc => acc = ((F.take i).filter fun x => !decide (x ∈ es)).map sv) (ei_own (p := pf) (ss := F.map sv) (ed_var 7) List.mem_cons_self) (by rw [List.length_map, sizeLine_eq]; omega) (fun q hq => by rw [List.mem_singleton.mp hq]; exact List.mem_cons_self) rfl ?_ nd (blk (N := N_next_row) (sc := fnScope s_next_row) (by decide +kernel))).is fun oc h => ?_) fun pn oc e => ?_) nd
      · rintro C' le i s acc hi hs rfl
        obtain ⟨x, hx, rfl⟩ := getE_map hs
        have htk : (F.take (i + 1)).filter (fun x => !decide (x ∈ es)) = ((F.take i).filter fun x => !decide (x ∈ es)) ++ if (!decide (x ∈ es)) = true then [x] else [] := by
          rw [List.take_add_one, hx, List.filter_append]
          simp only [Option.toList, List.filter_cons, List.filter_nil]
        refine ⟨[8], _, (· = !decide (x ∈ es)), by decide, fun _ _ _ _ _ => tg_name 8 nd, fun _ _ _ _ _ => ets_one (et_cmp (ed_var 8) (ed_var 3) (cd_notInS (.own pe _ mE))), fun h => ?_, fun h => ⟨_, fun _ _ _ _ _ => ed_var 8, fun r e => ?_⟩⟩
        · rw [htk, ← h, if_neg (by decide), List.append_nil]
        · subst e
          rw [htk, ← h, if_pos rfl]
          simp
      · obtain ⟨acc, e1, e2⟩ := h
        rw [e1, e2, List.length_map, List.take_length]
      · subst e
        refine ⟨pn, _, _, rfl, List.mem_cons_self, .there (.there (.there .here)), by rw [sizeLine_eq]; simp; omega, ?_⟩
        refine SD.drop (ow' := (pf, OC.lst (F.map sv)) :: owR pb pe pr ⟨es ++ F.filter fun x => !decide (x ∈ es), bs ++ F⟩ rows) ?_ (by
          unfold owR
          simp only [List.map_append]
          exact List.sublist_cons_self _ _)
        refine sd_setLcD 5 [("name", 8)] (fun i ds => ds = ((ls.take i).filter fun x => !decide (x ∈ F)).map Sd.D.str) (ei_lst (ed_var 5)) (by rw [List.length_map, sizeLine_eq]; omega) (fun q hq => nomatch hq) rfl ?_ ?_ (by rw [hM]; simp) nd (blk (N := N_next_row) (sc := fnScope s_next_row) (by decide +kernel))
        · rintro C' le i s ds hi ⟨d, hd, rfl⟩ rfl
          obtain ⟨x, hx, rfl⟩ := getE_map hd
          have htk : (ls.take (i + 1)).filter (fun x => !decide (x ∈ F)) = ((ls.take i).filter fun x => !decide (x ∈ F)) ++ if (!decide (x ∈ F)) = true then [x] else [] := by
            rw [List.take_add_one, hx, List.filter_append]
            simp only [Option.toList, List.filter_cons, List.filter_nil]
          refine ⟨[8], _, (· = !decide (x ∈ F)), by decide, fun _ _ _ _ _ => tg_name 8 nd, fun _ _ _ _ _ => ets_one (et_cmp (ed_var 8) (ed_var 7) (cd_notInS (.own pf _ List.mem_cons_self))), fun h => ?_, fun h => ⟨_, fun _ _ _ _ _ => ed_var 8, fun r e => ?_⟩⟩
          · refine ⟨_, rfl, ?_⟩
            rw [htk, ← h, if_neg (by decide), List.append_nil]
          · subst e
            refine ⟨((ls.take (i + 1)).filter fun x => !decide (x ∈ F)).map Sd.D.str, ?_, rfl⟩
            rw [htk, ← h, if_pos rfl]
            simp
        · rintro ds rfl
          rw [List.length_map, List.take_length]
          refine sd_set 6 (s := bv (decide (0 < F.length))) ((ed_cmp (ep_callB (ea_cons (ed_var 7) ea_nil) (fun ss e => by rw [e]; exact cl_len (.own pf _ List.mem_cons_self)) (T.free _) bb_len) ed_int cd_gt).is (by simp)) ?_ nd
          refine SD.drop ?_ (List.sublist_cons_self _ _)
          refine sd_stop rfl ⟨_, ?_, _, _, _, decide (0 < F.length), _, _, rfl, rfl, hI2, fun h0 => ?_, rfl⟩
          · have l1 := hI.part.length_eq
            have l2 := hI2.part.length_eq
            simp only [List.length_append] at l1 l2
            by_cases h0 : 0 < F.length
            · simp only [h0, decide_true, if_true]
              omega
            · simp only [h0, decide_false]
              simp
          · have h0 : F = [] := by
              have := of_decide_eq_false h0
              exact List.eq_nil_of_length_eq_zero (by omega)
            subst h0
            have e1 : (ls.filter fun x => !decide (x ∈ ([] : List Str))) = ls := List.filter_eq_self.mpr fun x _ => by simp
            rw [e1, List.filter_nil, List.append_nil, List.append_nil]
            exact hF
  · subst hk
    have hfin : ∀ {pl : Nat} {x : Str}, Now L start rows pl x → (pl = 0 → x ∈ es) ∧ (pl = 1 → x ∈ bs) := fun n => now_begun hI (hch rfl) n
    have hsub : ∀ x ∈ bs, x ∈ L.names := fun x hx => hI.part.mem_iff.mp (List.mem_append_left _ hx)
    have hesub : ∀ x ∈ es, x ∈ L.names := fun x hx => by
      rcases (hI.ends x).mp hx with q | ⟨_, q⟩
      · exact hsub x q
      · rw [q]; exact hst
    have hbnd : bs.Nodup := (List.nodup_append.mp (hI.part.nodup_iff.mpr hnd)).1
    have mB : (pb, OC.lst (bs.map sv)) ∈ owR pb pe pr ⟨es, bs⟩ rows := List.mem_cons_self
    have mE : (pe, OC.lst (es.map sv)) ∈ owR pb pe pr ⟨es, bs⟩ rows := List.mem_cons_of_mem _ List.mem_cons_self
    have hel : es.length ≤ 4 := by
      have := nodup_len hI.nd (m := L.names) hesub
      omega
    have hbl : bs.length ≤ 4 := by
      have := nodup_len hbnd (m := L.names) hsub
      omega
    refine sdp_ret Fn (P := fun s => ∃ r : Row, s = .val (dRow r) ∧ r.ends.Perm es ∧ r.begins.Perm bs ∧ sortedS r.ends = true ∧ sortedS r.begins = true) (etp_tup (A := fun ss => ∃ r : Row, ss = [.val (dSs r.ends), .val (dSs r.begins)] ∧ r.ends.Perm es ∧ r.begins.Perm bs ∧ sortedS r.ends = true ∧ sortedS r.begins = true)
      (eap_cons (Pa := fun s => ∃ ys : List Str, s = .val (dSs ys) ∧ ys.Perm es ∧ sortedS ys = true) (ep_callTy (A := fun ss => ∃ ys : List Str, ss = [.val (.lst (ys.map Sd.D.str))] ∧ ys.Perm es ∧ sortedS ys = true) (eap_cons (ep_ofN (P := fun s => ∃ ys : List Str, s = .val (.lst (ys.map Sd.D.str)) ∧ ys.Perm es ∧ sortedS ys = true) (en_callB (A2 := fun oc => ∃ ys : List Str, oc = .lst (ys.map sv) ∧ ys.Perm es ∧ sortedS ys = true) (ea_cons (ed_var 3) ea_nil) (fun ss e => by rw [e]; exact cn_sortedS (.own pe _ mE) (by omega)) (T.free _) bb_sorted) fun oc ⟨ys, e, h1, h2⟩ => ⟨.lst (ys.map Sd.D.str), by rw [e, ← map_val_str]; exact .lst _, ys, rfl, h1, h2⟩) ea_nil fun s ss ⟨ys, e, h1, h2⟩ h3 => ⟨ys, by rw [e, h3], h1, h2⟩) (fun ss ⟨ys, e, h1, h2⟩ => by
          rw [e]
          exact ⟨(cl_tuple (.lst _)).ex.imp fun r h => ⟨h.1, fun B σ H vs S rs Q q => h.2 B σ H vs S rs Q fun z s B' H' p n r => q z s B' H' ⟨ys, p, h1, h2⟩ n r⟩⟩) (T.free _) bt_tuple)
        (eap_cons (Pa := fun s => ∃ ys : List Str, s = .val (dSs ys) ∧ ys.Perm bs ∧ sortedS ys = true) (ep_callTy (A := fun ss => ∃ ys : List Str, ss = [.val (.lst (ys.map Sd.D.str))] ∧ ys.Perm bs ∧ sortedS ys = true) (eap_cons (ep_ofN (P := fun s => ∃ ys : List Str, s = .val (.lst (ys.map Sd.D.str)) ∧ ys.Perm bs ∧ sortedS ys = true) (en_callB (A2 := fun oc => ∃ ys : List Str, oc = .lst (ys.map sv) ∧ ys.Perm bs ∧ sortedS ys = true) (ea_cons (ed_var 4) ea_nil) (fun ss e => by rw [e]; exact cn_sortedS (.own pb _ mB) (by omega)) (T.free _) bb_sorted) fun oc ⟨ys, e, h1, h2⟩ => ⟨.lst (ys.map Sd.D.str), by rw [e, ← map_val_str]; exact .lst _, ys, rfl, h1, h2⟩) ea_nil fun s ss ⟨ys, e, h1, h2⟩ h3 => ⟨ys, by rw [e, h3], h1, h2⟩) (fun ss ⟨ys, e, h1, h2⟩ => by
          rw [e]
          exact ⟨(cl_tuple (.lst _)).ex.imp fun r h => ⟨h.1, fun B σ H vs S rs Q q => h.2 B σ H vs S rs Q fun z s B' H' p n r => q z s B' H' ⟨ys, p, h1, h2⟩ n r⟩⟩) (T.free _) bt_tuple) ea_nil (A' := fun ss => ∃ ys : List Str, ss = [.val (dSs ys)] ∧ ys.Perm bs ∧ sortedS ys = true) fun s ss ⟨ys, e, h1, h2⟩ h3 => ⟨ys, by rw [e, h3], h1, h2⟩)
        fun s ss ⟨ys, e, h1, h2⟩ ⟨zs, e3, h3, h4⟩ => ⟨⟨ys, zs⟩, by rw [e, e3], h1, h3, h2, h4⟩) fun ss ⟨r, e, h1, h2, h3, h4⟩ => ⟨[dSs r.ends, dSs r.begins], by rw [e]; rfl, by rw [sizeLine_eq]; exact Nat.le_of_ble_eq_true rfl, r, rfl, h1, h2, h3, h4⟩) fun s ⟨r, e, h1, h2, h3, h4⟩ => ⟨[(pr, .lst (rowsS rows))], List.Sublist.cons _ (List.sublist_cons_self _ _), ?_⟩
    rw [e]
    refine hp r ⟨fun x => ?_, fun x => ?_, ⟨h1.nodup_iff.mpr hI.nd, h2.nodup_iff.mpr hbnd⟩, ⟨fun x hx => hesub x (h1.mem_iff.mp hx), fun x hx => hsub x (h2.mem_iff.mp hx)⟩, h3, h4⟩
    · rw [h1.mem_iff]
      refine ⟨fun hx => ?_, fun hx => (hfin hx).1 rfl⟩
      rcases (hI.ends x).mp hx with q | ⟨q1, q2⟩
      · exact .fin (hI.snd1 x q)
      · rw [q2]; exact .start q1
    · rw [h2.mem_iff]
      exact ⟨fun hx => hI.snd1 x hx, fun hx => (hfin hx).2 rfl⟩
end
end Tx

/-! text Sd16 -/
set_option Elab.async false
set_option linter.all false
set_option maxRecDepth 100000
set_option maxHeartbeats 2000000
/-! Sd16: a dict of one's own whose keys are tuples of tuples, its values ints. -/
namespace Sd
open PySem PySem.Spec PyProof.Rows L2
mutual
def dNK : Sd.D → NestedKey
  | .bl b => .num (if b = true then 1 else 0)
  | .int i => .num i
  | .str s => .text s
  | .tup ds => .tup (dNKs ds)
  | .non => .none
  | .lst _ => .none
  | .ins _ _ _ => .none
  | .dK _ _ => .none
  | .dT _ _ => .none
  | .key _ => .none
def dNKs : List Sd.D → List NestedKey
  | [] => []
  | d :: ds => dNK d :: dNKs ds
end
mutual
def dOk : Sd.D → Bool
  | .bl _ => true
  | .int _ => true
  | .str _ => true
  | .tup ds => dOks ds
  | .non => true
  | .lst _ => false
  | .ins _ _ _ => false
  | .dK _ _ => false
  | .dT _ _ => false
  | .key _ => false
def dOks : List Sd.D → Bool
  | [] => true
  | d :: ds => dOk d && dOks ds
end
section
variable {P : Program} {w : World} {K : Fg} {H : Hp} {h : Heap}
mutual
theorem nk_is (hok : HOk P w H h) (KX : K.In h) : ∀ (d : Sd.D) (v : V) (u : Value), dOk d = true → Rp K H d v → RelV v u → NestedIs h (dNK d) u
  | .bl b, _, _, _, r, q => by
    simp only [Rp] at r
    subst r
    cases q
    exact .bool rfl
  | .int i, _, _, _, r, q => by
    simp only [Rp] at r
    subst r
    obtain ⟨t, rfl⟩ := q
    exact .int _ _
  | .str x, _, _, _, r, q => by
    simp only [Rp] at r
    subst r
    obtain ⟨t, rfl⟩ := q
    exact .text _ _
  | .non, _, _, _, r, q => by
    simp only [Rp] at r
    subst r
    cases q
    exact .none
  | .tup ds, _, _, o, r, q => by
    simp only [Rp] at r
    obtain ⟨a, xs, e, hq, l⟩ := r
    subst e
    cases q
    obtain ⟨its, ob, n, rv, h1, h2, h3⟩ := sqT_at hok KX hq
    rw [dNK]
    exact .tup h1 h2 h3 (by simpa using nks_is hok KX ds xs its (by simpa only [dOk] using o) l rv)
  | .lst _, _, _, o, _, _ => by simp only [dOk] at o; cases o
  | .ins _ _ _, _, _, o, _, _ => by simp only [dOk] at o; cases o
  | .dK _ _, _, _, o, _, _ => by simp only [dOk] at o; cases o
  | .dT _ _, _, _, o, _, _ => by simp only [dOk] at o; cases o
  | .key _, _, _, o, _, _ => by simp only [dOk] at o; cases o
theorem nks_is (hok : HOk P w H h) (KX : K.In h) : ∀ (ds : List Sd.D) (vs : List V) (us : List Value), dOks ds = true → RpL K H ds vs → Vals vs us → NestedAll h (dNKs ds) us
  | [], _, _, _, r, q => by
    simp only [RpL] at r
    subst r
    cases q
    rw [dNKs]
    exact .nil
  | d :: ds, _, _, o, r, q => by
    simp only [RpL] at r
    obtain ⟨y, ys, e, r1, r2⟩ := r
    subst e
    simp only [dOks, Bool.and_eq_true] at o
    cases q with
    | cons q1 q2 =>
      rw [dNKs]
      exact .cons (nk_is hok KX d _ _ o.1 r1 q1) (nks_is hok KX ds _ _ o.2 r2 q2)
end
end
abbrev WEnt := Sd.D × Addr × Int
def WRel (e : WEnt) (x : NestedKey × Addr × Value) : Prop := x.1 = dNK e.1 ∧ x.2.1 = e.2.1 ∧ RelV (.int e.2.2) x.2.2
def winO (P : Program) (w : World) (a : Addr) (es : List WEnt) : HO := .ext fun h => es.length ≤ sizeLine ∧ (a == sysModules) = false ∧ ∃ xs : List (NestedKey × Addr × Value), Paired WRel es xs ∧
  ∃ o des ep, h.get? a = some o ∧ o.ExactDict ∧ o.data = .dict des ep ∧ des.toList = xs.map (entryOfKey (nestedKind P w)) ∧ (xs.map (·.1)).Nodup
def WKey (K : Fg) (H : Hp) (d : Sd.D) (b : Addr) : Prop := dOk d = true ∧ (dNK d).depth ≤ 8 ∧ Rp K H d (.ref b)
theorem WKey.mono {K : Fg} {H H' : Hp} {d : Sd.D} {b : Addr} (e : Ex H H') (h : WKey K H d b) : WKey K H' d b := ⟨h.1, h.2.1, h.2.2.mono e⟩
def winF (d : Sd.D) (e : WEnt) : Bool := decide (dNK e.1 = dNK d)
theorem win_at {d : Sd.D} : ∀ {es : List WEnt} {xs : List (NestedKey × Addr × Value)}, Paired WRel es xs → match es.find? (winF d) with
    | some e => ∃ p, atKey xs (dNK d) = some p ∧ RelV (.int e.2.2) p.2
    | none => atKey xs (dNK d) = none
  | _, _, .nil => rfl
  | e :: es, _, .cons (b := x) r t => by
    have ih := win_at (d := d) t
    by_cases hk : dNK e.1 = dNK d
    · have h1 : (e :: es).find? (winF d) = some e := by rw [List.find?_cons, winF, decide_eq_true hk]
      rw [h1]
      refine ⟨x.2, ?_, r.2.2⟩
      simp [atKey, r.1, hk]
    · have h1 : (e :: es).find? (winF d) = es.find? (winF d) := by rw [List.find?_cons, winF, decide_eq_false hk]
      rw [h1]
      have h2 : ∀ xs, atKey (x :: xs) (dNK d) = atKey xs (dNK d) := fun xs => by simp [atKey, r.1, hk]
      rw [h2]
      exact ih
section
variable {P : Program} {w : World} {K : Fg} {H : Hp} {h : Heap} {a : Addr} {es : List WEnt}
theorem win_ok (hz : es.length ≤ sizeLine) (hsm : (a == sysModules) = false) {xs : List (NestedKey × Addr × Value)} (r : Paired WRel es xs) {o : Obj} {des ep} (h1 : h.get? a = some o) (h2 : o.ExactDict) (h3 : o.data = .dict des ep) (h4 : des.toList = xs.map (entryOfKey (nestedKind P w))) (h5 : (xs.map (·.1)).Nodup) : ObjOk P w H h a (winO P w a es) := by
  refine ⟨⟨hz, hsm, xs, r, o, des, ep, h1, h2, h3, h4, h5⟩, ⟨_, h1⟩, fun g1 g2 q st => ?_⟩
  obtain ⟨z1, z2, ys, r', o', des', ep', k1, k2, k3, k4, k5⟩ := q
  exact ⟨z1, z2, ys, r', o', des', ep', st _ k1, k2, k3, k4, k5⟩
theorem win_of (hok : HOk P w H h) (KX : K.In h) (e : H a = some (winO P w a es)) (hk : ∀ e ∈ es, WKey K H e.1 e.2.1) : es.length ≤ sizeLine ∧ (a == sysModules) = false ∧ ∃ xs, Paired WRel es xs ∧ h.DictOfH (nestedKind P w) a xs := by
  obtain ⟨⟨z1, z2, xs, r, o, des, ep, k1, k2, k3, k4, k5⟩, _, _⟩ := (show ObjOk P w H h a (winO P w a es) from hok a _ e)
  refine ⟨z1, z2, xs, r, o, des, ep, k1, k2, k3, k4, fun x hx => ?_, k5⟩
  have all : ∀ {l : List WEnt} {m : List (NestedKey × Addr × Value)}, Paired WRel l m → (∀ e ∈ l, WKey K H e.1 e.2.1) → ∀ x ∈ m, (nestedKind P w).is h x.1 x.2.1 := by
    intro l m q
    induction q with
    | nil => intro _ x hx; exact nomatch hx
    | @cons p q ps qs hq t ih =>
      intro hk x hx
      rcases List.mem_cons.mp hx with e | hx
      · subst e
        obtain ⟨o1, o2, o3⟩ := hk p List.mem_cons_self
        obtain ⟨q1, q2, _⟩ := hq
        refine ⟨?_, by rw [q1]; exact o2⟩
        rw [q1, q2]
        exact nk_is hok KX _ _ _ o1 o3 rfl
      · exact ih (fun e he => hk e (List.mem_cons_of_mem _ he)) x hx
  exact all r hk x hx
theorem wkey_is (hok : HOk P w H h) (KX : K.In h) {d : Sd.D} {b : Addr} (k : WKey K H d b) : (nestedKind P w).is h (dNK d) b := ⟨nk_is hok KX _ _ _ k.1 k.2.2 rfl, k.2.1⟩
end
section
variable {X : Cx} {pins : List (Addr × Obj)} {σ : L2.St} {H : Hp} {s : Shared} {a b : Addr} {es : List WEnt} {d : Sd.D} {A : Around} {E : Value → Shared → Prop}
theorem nroom (hu : A.units + 9 < cLine) : (nestedKind X.prog X.w).room A.in1 := by
  show A.in1.units + 8 < cLine
  rw [Around.in1_units]
  omega
theorem w_getItem {Q : Value → Shared → Prop} {e : WEnt} (hu : A.units + 9 < cLine) (I : Inv X pins σ H s) (he : H a = some (winO X.prog X.w a es)) (hk : ∀ e ∈ es, WKey X.K H e.1 e.2.1) (hb : WKey X.K H d b) (hf : es.find? (winF d) = some e) (h : ∀ w' s', Inv X pins σ H s' → RelV (.int e.2.2) w' → Q w' s') :
    wpAny (model X.prog X.w) A (getItem (.ref a) (.ref b)) Q E s := by
  obtain ⟨z, hd, xs, rel, dd⟩ := win_of I.hok I.kIn he hk
  have q := win_at (d := d) rel
  rw [hf] at q
  obtain ⟨p, hp, rp⟩ := q
  exact wpAny_getItem_heap (nroom hu) (wkey_is I.hok I.kIn hb) dd hp (h _ _ (I.tok _) rp)
theorem w_in {Q : Value → Shared → Prop} (hu : A.units + 9 < cLine) (I : Inv X pins σ H s) (he : H a = some (winO X.prog X.w a es)) (hk : ∀ e ∈ es, WKey X.K H e.1 e.2.1) (hb : WKey X.K H d b) (h : ∀ s', Inv X pins σ H s' → Q (.bool (es.find? (winF d)).isSome) s') :
    wpAny (model X.prog X.w) A (compareOp .In (.ref b) (.ref a)) Q E s := by
  obtain ⟨z, hd, xs, rel, dd⟩ := win_of I.hok I.kIn he hk
  have q := win_at (d := d) rel
  refine wpAny_in_heap (nroom hu) (wkey_is I.hok I.kIn hb) hd dd ?_
  have e2 : (atKey xs (dNK d)).isSome = (es.find? (winF d)).isSome := by
    cases hf : es.find? (winF d) with
    | some e =>
      rw [hf] at q
      obtain ⟨p, hp, _⟩ := q
      rw [hp]
      rfl
    | none =>
      rw [hf] at q
      have q : atKey xs (dNK d) = none := q
      rw [q]
      rfl
  rw [e2]
  exact h _ (I.tok _)
theorem paired_snoc {α β : Type} {R : α → β → Prop} {x : α} {y : β} (r : R x y) : ∀ {l : List α} {m : List β}, Paired R l m → Paired R (l ++ [x]) (m ++ [y])
  | _, _, .nil => .cons r .nil
  | _, _, .cons q t => .cons q (paired_snoc r t)
theorem w_setItem {Q : Unit → Shared → Prop} {n : Int} {r : Value} (hu : A.units + 9 < cLine) (I : Inv X pins σ H s) (he : H a = some (winO X.prog X.w a es)) (hk : ∀ e ∈ es, WKey X.K H e.1 e.2.1) (hb : WKey X.K H d b) (hf : es.find? (winF d) = none) (hl : es.length < sizeLine) (rv : RelV (.int n) r)
    (h : ∀ s', Inv X pins σ (upd H a (winO X.prog X.w a (es ++ [(d, b, n)]))) s' → Q () s') : wpAny (model X.prog X.w) A (setItem (.ref a) (.ref b) r) Q E s := by
  obtain ⟨z, hd, xs, rel, dd⟩ := win_of I.hok I.kIn he hk
  have q := win_at (d := d) rel
  rw [hf] at q
  have q : atKey xs (dNK d) = none := q
  have hz : xs.length ≤ sizeLine := by rw [← Paired.length rel]; exact z
  refine wpAny_setItem_heap (hsz := hz) (nroom hu) (wkey_is I.hok I.kIn hb) dd fun h' dd' hs => h _ ?_
  rw [storedH_new q] at dd'
  obtain ⟨o, des, ep, h1, h2, h3, h4, _, h5⟩ := dd'
  exact d_write I (by rw [he]; exact True.intro) hs ⟨o, h1⟩ (win_ok (by rw [List.length_append, List.length_singleton]; omega) hd (paired_snoc ⟨rfl, rfl, rv⟩ rel) h1 h2 h3 h4 h5)
def tDNewW (X : Cx) : TE := fun _ H Q => ∀ p, H p = none → Q (.ref p) (upd H p (winO X.prog X.w p []))
theorem pe_dnewW {pos : Pos} : PE X (.Dict [] [] pos) (tDNewW X) := ⟨fun pins s σ H Q I h =>
  wpAny_Dict_empty ⟨.ref s.heap.objs.size, _, I.laid (a := s.heap.objs.size) (o := winO X.prog X.w s.heap.objs.size []) (t' := s.toks) (fun _ _ q => Heap.get?_push_of_some _ q) (Nat.le_refl _)
    (win_ok (Nat.zero_le _) (beq_eq_false_iff_ne.mpr (Ne.symm (Nat.ne_of_lt I.big))) .nil (Heap.get?_push_size _ rfl) ⟨rfl, rfl, rfl⟩ rfl rfl List.nodup_nil), rfl, h _ (I.hok.fresh (Nat.le_refl _))⟩⟩
def WDict (X : Cx) (H : Hp) (a : Addr) (es : List WEnt) : Prop := H a = some (winO X.prog X.w a es) ∧ ∀ e ∈ es, WKey X.K H e.1 e.2.1
variable {o i : Expr} {pos : Pos} {td ty : TE}
def tWGet (X : Cx) (td ty : TE) : TE := fun σ H Q => td σ H fun x H1 => ty σ H1 fun y H2 => ∃ a b es d e, x = .ref a ∧ y = .ref b ∧ WDict X H2 a es ∧ WKey X.K H2 d b ∧ es.find? (winF d) = some e ∧ Q (.int e.2.2) H2
def tWIn (X : Cx) (ty td : TE) : TE := fun σ H Q => ty σ H fun y H1 => td σ H1 fun x H2 => ∃ a b es d, x = .ref a ∧ y = .ref b ∧ WDict X H2 a es ∧ WKey X.K H2 d b ∧ Q (.bl (es.find? (winF d)).isSome) H2
theorem pe_wget (hu : X.A.units + 9 < cLine) (ho : PE X o td) (hi : PE X i ty) (hs : NoSl i) : PE X (.Subscript o i pos) (tWGet X td ty) := by
  refine ⟨fun pins s σ H Q I h => ?_⟩
  refine subD_of PySem.F.slot_dict_getitem.lookup hs (thn (ho.run pins s σ H _ I h) fun u s1 ⟨x, H1, I1, rx, q1⟩ => thn (hi.run pins s1 σ H1 _ I1 q1) fun iv s2 ⟨y, H2, I2, ry, a, b, es, d, e, ex, ey, g, k, hf, q2⟩ => ?_)
  subst ex ey
  obtain rfl : u = Value.ref a := rx
  obtain rfl : iv = Value.ref b := ry
  obtain ⟨_, _, xs, _, dd⟩ := win_of I2.hok I2.kIn g.1 g.2
  exact ⟨dd.typeIs, w_getItem hu I2 g.1 g.2 k hf fun w' s3 I3 rw' => ⟨_, H2, I3, rw', q2⟩⟩
theorem pc_win (hu : X.A.units + 9 < cLine) (hi : PE X i ty) (ho : PE X o td) : PC X .In i o (tWIn X ty td) := by
  refine ⟨fun pins s σ H Q I h => ?_⟩
  refine thn (hi.run pins s σ H _ I h) fun iv s1 ⟨y, H1, I1, ry, q1⟩ => thn (ho.run pins s1 σ H1 _ I1 q1) fun u s2 ⟨x, H2, I2, rx, a, b, es, d, ex, ey, g, k, q2⟩ => ?_
  subst ex ey
  obtain rfl : u = Value.ref a := rx
  obtain rfl : iv = Value.ref b := ry
  exact w_in hu I2 g.1 g.2 k fun s3 I3 => ⟨.bl (es.find? (winF d)).isSome, H2, I3, rfl, q2⟩
theorem set_win (hu : X.A.units + 9 < cLine) : PSet X (fun o i v H Q => ∃ a b es d n, o = .ref a ∧ i = .ref b ∧ v = .int n ∧ WDict X H a es ∧ WKey X.K H d b ∧ es.find? (winF d) = none ∧ es.length < sizeLine ∧ Q (upd H a (winO X.prog X.w a (es ++ [(d, b, n)])))) := by
  intro pins s σ H o i v ov iv u Q I ro ri rv h
  obtain ⟨a, b, es, d, n, e1, e2, e3, g, k, hf, hl, q⟩ := h
  subst e1 e2 e3
  obtain rfl : ov = Value.ref a := ro
  obtain rfl : iv = Value.ref b := ri
  exact w_setItem hu I g.1 g.2 k hf hl rv fun s' I' => ⟨_, I', q⟩
end
/-- .. one's own -/
def winPsi (P : Program) (w : World) (K : Fg) (a : Addr) (ks : List (Sd.D × Int)) (B : Hp) (o : HO) : Prop := ∃ es : List WEnt, o = winO P w a es ∧ es.map (fun e => (e.1, e.2.2)) = ks ∧ ∀ e ∈ es, WKey K B e.1 e.2.1
def winC (P : Program) (w : World) (K : Fg) (a : Addr) (ks : List (Sd.D × Int)) : OC := .mon (winPsi P w K a ks) fun _ _ _ e ⟨es, h1, h2, h3⟩ => ⟨es, h1, h2, fun x hx => (h3 x hx).mono e⟩
def winAt (ks : List (Sd.D × Int)) (d : Sd.D) : Option Int := (ks.find? fun e => decide (dNK e.1 = dNK d)).map (·.2)
theorem winAt_of {es : List WEnt} {d : Sd.D} : winAt (es.map fun e => (e.1, e.2.2)) d = (es.find? (winF d)).map (·.2.2) := by
  unfold winAt
  rw [List.find?_map, Option.map_map]
  rfl
theorem hu9_of {A : Around} {k : Nat} (hr : Room k A) : A.units + 9 < cLine := Nat.lt_of_le_of_lt (Nat.add_le_add_left (by decide : 9 ≤ 64) _) hr.units
section
variable {ds : List Sd.D} {C : FC} {X : Cx} {ow ow' : Ow} {en : En} {a b o : Expr} {pos : Pos} {p : Addr} {ks : List (Sd.D × Int)} {d : Sd.D} {Q' : SV → Ow → Prop} {Kk : Ow → En → Prop}
theorem em_win (h : ∀ p, Q' (.ptr p) ((p, winC X.prog X.w X.K p []) :: ow)) : EvM C X ow en (.Dict [] [] pos) Q' :=
  ⟨fun B σ H S Q q => ⟨_, pe_dnewW, fun p hp => q _ _ _ B _ (h p) (S.hold hp (oc := winC X.prog X.w X.K p []) ⟨_, upd_same, [], rfl, rfl, fun _ z => nomatch z⟩) rfl⟩⟩
theorem win_dict {B : Hp} {σ : L2.St} {H : Hp} (S : Sta C X.K B ow en σ H) (hm : (p, winC X.prog X.w X.K p ks) ∈ ow) : ∃ es : List WEnt, WDict X H p es ∧ es.map (fun e => (e.1, e.2.2)) = ks ∧ ∀ e ∈ es, WKey X.K B e.1 e.2.1 := by
  obtain ⟨_, _, o, h1, es, h2, h3, h4⟩ := S.own _ hm
  subst h2
  exact ⟨es, ⟨h1, fun e he => (h4 e he).mono S.sub⟩, h3, h4⟩
theorem et_win (hu : X.A.units + 9 < cLine) (hb : EvD C X ow en b (.val (.tup ds))) (ha : EvD C X ow en a (.ptr p)) (hm : (p, winC X.prog X.w X.K p ks) ∈ ow) (hk : dOk (.tup ds) = true) (hd : (dNK (.tup ds)).depth ≤ 8) (hmk : behindInMarks .In a = false := by first | exact nomark _ | rfl) : EvT C X ow en (.Compare b [.In] [a] pos) (winAt ks (.tup ds)).isSome :=
  ⟨fun B σ H S Q q => ⟨_, pt_cmp (pc_win hu pe_we pe_we) hmk, ev_bin hb ha S fun v u x y B' H' px py n r1 r2 => by
    subst px py
    obtain ⟨es, g, e1, _⟩ := win_dict n.sta hm
    have r1' : Rp X.K B' (.tup ds) v := r1
    have r1'' := r1'
    simp only [Rp] at r1''
    obtain ⟨bb, _, eb, _⟩ := r1''
    subst eb
    refine ⟨p, bb, es, .tup ds, rs_ptr.mp r2, rfl, g, ⟨hk, hd, r1'.mono n.sta.sub⟩, _, rfl, ?_⟩
    have e2 : (es.find? (winF (.tup ds))).isSome = (winAt ks (.tup ds)).isSome := by rw [← e1, winAt_of, Option.isSome_map]
    rw [e2]
    exact q _ B' H' rfl n⟩⟩
theorem ed_win (hu : X.A.units + 9 < cLine) {n : Int} (ha : EvD C X ow en a (.ptr p)) (hb : EvD C X ow en b (.val (.tup ds))) (hm : (p, winC X.prog X.w X.K p ks) ∈ ow) (hk : dOk (.tup ds) = true) (hd : (dNK (.tup ds)).depth ≤ 8) (hat : winAt ks (.tup ds) = some n) (hs : NoSl b := by intro _ _; rfl) : EvD C X ow en (.Subscript a b pos) (iv n) :=
  ⟨fun B σ H S Q q => ⟨_, pe_wget hu pe_we pe_we hs, ev_bin ha hb S fun v u x y B' H' px py nx r1 r2 => by
    subst px py
    obtain ⟨es, g, e1, _⟩ := win_dict nx.sta hm
    have r2' : Rp X.K B' (.tup ds) u := r2
    have r2'' := r2'
    simp only [Rp] at r2''
    obtain ⟨bb, _, eb, _⟩ := r2''
    subst eb
    rw [← e1, winAt_of] at hat
    obtain ⟨e, hf, he⟩ := Option.map_eq_some_iff.mp hat
    refine ⟨p, bb, es, .tup ds, e, rs_ptr.mp r1, rfl, g, ⟨hk, hd, r2'.mono nx.sta.sub⟩, hf, ?_⟩
    rw [he]
    exact q _ _ B' H' rfl nx (by simp only [RpS, Rp])⟩⟩
theorem tgm_win (hu : X.A.units + 9 < cLine) {n : Int} (ho : EvD C X ow en o (.ptr p)) (hi : EvD C X ow en b (.val (.tup ds))) (hk : dOk (.tup ds) = true) (hd : (dNK (.tup ds)).depth ≤ 8) (hl : ks.length < sizeLine) (hat : winAt ks (.tup ds) = none)
    (hput : Put p (winC X.prog X.w X.K p ks) (winC X.prog X.w X.K p (ks ++ [(.tup ds, n)])) ow ow') (h : Kk ow' en)
    (ha : ∀ v, assign (.Subscript o b pos) X.env v = (do
      let ov ← holding [v] (eval o X.env)
      let iv ← holding [v, ov] (eval b X.env)
      standAt pos
      holding [v, ov, iv] (setItem ov iv v)
      release [v, ov, iv] []) := by intro _; rfl) : TgM C X ow en (.Subscript o b pos) (iv n) Kk :=
  ⟨fun B σ H v S r Q q => ⟨_, pg_sub pe_we pe_we (set_win hu) ha, ho.run B σ H S _ fun w t B' H' e n1 rv => hi.run B' σ H' n1.sta _ fun w2 t2 B2 H2 e2 n2 rv2 => by
    subst e e2
    obtain ⟨es, g, e1, g2⟩ := win_dict n2.sta hput.mem
    have r2' : Rp X.K B2 (.tup ds) w2 := rv2
    have r2'' := r2'
    simp only [Rp] at r2''
    obtain ⟨bb, _, eb, _⟩ := r2''
    subst eb
    rw [← e1, winAt_of, Option.map_eq_none_iff] at hat
    have hel : es.length < sizeLine := by rw [← e1, List.length_map] at hl; exact hl
    refine ⟨p, bb, es, .tup ds, n, rs_ptr.mp rv, rfl, ?_, g, ⟨hk, hd, r2'.mono n2.sta.sub⟩, hat, hel, ?_⟩
    · simpa only [RpS, Rp] using r
    · exact q _ _ _ _ _ h (n2.sta.write hput ⟨_, upd_same, _, rfl, by rw [List.map_append, e1]; rfl, fun e he => by
        rcases List.mem_append.mp he with he | he
        · exact g2 e he
        · rw [List.mem_singleton.mp he]
          exact ⟨hk, hd, r2'⟩⟩) (n1.exB.trans n2.exB)⟩⟩
end
end Sd

/-! text W14 -/
set_option Elab.async false
set_option linter.all false
set_option maxRecDepth 100000
set_option maxHeartbeats 2000000
/-! W14: the rows of a walk, in plain words: they repeat. -/
namespace Tx
open PySem PySem.Spec PyProof.Rows L2 Sd C8
def leS (a b : Str) : Prop := ¬ b.cps.toList < a.cps.toList
theorem leS_trans {a b c : Str} (h : leS a b) (k : leS b c) : leS a c := by
  unfold leS at *
  rw [List.not_lt] at *
  exact List.le_trans h k
theorem leS_anti {a b : Str} (h : leS a b) (k : leS b a) : a = b := by
  unfold leS at *
  rw [List.not_lt] at *
  have e := List.le_antisymm h k
  cases a
  cases b
  simp only at e
  congr 1
  exact Array.toList_inj.mp e
theorem rising_pw : ∀ (l : List Str) (p : Str), risingS p l = true → (p :: l).Pairwise leS
  | [], p, _ => List.pairwise_singleton ..
  | x :: r, p, h => by
    simp only [risingS, Bool.and_eq_true, Bool.not_eq_true'] at h
    have ih := rising_pw r x h.2
    have hx : leS p x := by
      unfold leS
      have := h.1
      rw [ltCps_eq] at this
      exact of_decide_eq_false this
    refine List.pairwise_cons.mpr ⟨fun y hy => ?_, ih⟩
    rcases List.mem_cons.mp hy with e | hy
    · rw [e]; exact hx
    · exact leS_trans hx ((List.pairwise_cons.mp ih).1 y hy)
theorem sorted_pw {l : List Str} (h : sortedS l = true) : l.Pairwise leS := by
  cases l with
  | nil => exact List.Pairwise.nil
  | cons x r => exact rising_pw r x h
theorem sorted_eq {l m : List Str} (hl : sortedS l = true) (hm : sortedS m = true) (nl : l.Nodup) (nm : m.Nodup) (h : ∀ x, x ∈ l ↔ x ∈ m) : l = m := by
  have hp : l.Perm m := (List.perm_ext_iff_of_nodup nl nm).mpr h
  exact hp.eq_of_pairwise (le := leS) (fun a b _ _ h1 h2 => leS_anti h1 h2) (sorted_pw hl) (sorted_pw hm)
theorem now_cons {L : Ln} {start : Str} {rows : List Row} (hr : rows ≠ []) {pl : Nat} {x : Str} (h : Now L start rows pl x) : pl = 0 → Now L start rows 1 x := by
  cases h with
  | start h => exact absurd h hr
  | beg => intro z; cases z
  | beg0 => intro z; cases z
  | fin h => intro _; exact h
/-- behind the first row, ended and begun are one -/
theorem isRow_same {L : Ln} {start : Str} {rows : List Row} {r : Row} (h : IsRow L start rows r) (hr : rows ≠ []) : r.ends = r.begins :=
  sorted_eq h.srt.1 h.srt.2 h.nd.1 h.nd.2 fun x => by
    rw [h.ends, h.begins]
    exact ⟨fun q => now_cons hr q rfl, .fin⟩
theorem isRow_eq {L : Ln} {start : Str} {rows rows' : List Row} {r r' : Row} (h : IsRow L start rows r) (h' : IsRow L start rows' r') (hr : rows ≠ []) (hr' : rows' ≠ []) (e : ∀ x ∈ L.names, x ∈ r.begins ↔ x ∈ r'.begins) : r = r' := by
  have e1 : r.begins = r'.begins := sorted_eq h.srt.2 h'.srt.2 h.nd.2 h'.nd.2 fun x => ⟨fun q => (e x (h.sub.2 x q)).mp q, fun q => (e x (h'.sub.2 x q)).mpr q⟩
  have e2 : r.ends = r'.ends := by rw [isRow_same h hr, isRow_same h' hr', e1]
  cases r
  cases r'
  simp only at e1 e2
  rw [e1, e2]
/-- all rows are rows -/
def Rows (L : Ln) (start : Str) (rows : List Row) : Prop := ∀ (k : Nat) (r : Row), rows[k]? = some r → IsRow L start (rows.take k) r
theorem Rows.nil {L : Ln} {start : Str} : Rows L start [] := fun k r h => by simp at h
theorem Rows.snoc {L : Ln} {start : Str} {rows : List Row} {r : Row} (h : Rows L start rows) (hr : IsRow L start rows r) : Rows L start (rows ++ [r]) := fun k q e => by
  by_cases hk : k < rows.length
  · rw [List.getElem?_append_left hk] at e
    rw [List.take_append_of_le_length (Nat.le_of_lt hk)]
    exact h k q e
  · have hk' := (List.getElem?_eq_some_iff.mp e).1
    rw [List.length_append, List.length_singleton] at hk'
    have : k = rows.length := by omega
    subst this
    rw [List.getElem?_append_right (Nat.le_refl _)] at e
    simp at e
    subst e
    rw [List.take_left]
    exact hr
def codeR (L : Ln) (r : Row) : List Bool := L.names.map fun x => decide (x ∈ r.begins)
def win (rows : List Row) (w i : Nat) : List Row := (rows.drop i).take w
theorem win_get {rows : List Row} {w i j : Nat} (hj : j < w) : (win rows w i)[j]? = rows[i + j]? := by
  unfold win
  rw [List.getElem?_take_of_lt hj, List.getElem?_drop]
theorem win_len {rows : List Row} {w i : Nat} (h : i + w ≤ rows.length) : (win rows w i).length = w := by
  unfold win
  rw [List.length_take, List.length_drop]
  omega
theorem win_snoc {rows : List Row} {r : Row} {w i : Nat} (h : i + w ≤ rows.length) : win (rows ++ [r]) w i = win rows w i := by
  unfold win
  rw [List.drop_append_of_le_length (by omega), List.take_append_of_le_length (by rw [List.length_drop]; omega)]
def bools : Nat → List (List Bool)
  | 0 => [[]]
  | n + 1 => (bools n).map (true :: ·) ++ (bools n).map (false :: ·)
theorem bools_len : ∀ n, (bools n).length = 2 ^ n
  | 0 => rfl
  | n + 1 => by rw [bools, List.length_append, List.length_map, List.length_map, bools_len n, Nat.pow_succ]; omega
theorem bools_mem : ∀ l : List Bool, l ∈ bools l.length
  | [] => List.mem_singleton.mpr rfl
  | b :: l => by
    rw [List.length_cons, bools, List.mem_append, List.mem_map, List.mem_map]
    cases b with
    | true => exact .inl ⟨l, bools_mem l, rfl⟩
    | false => exact .inr ⟨l, bools_mem l, rfl⟩
def codeW (L : Ln) (ws : List Row) : List Bool := ws.flatMap (codeR L)
theorem codeW_len {L : Ln} : ∀ ws : List Row, (codeW L ws).length = ws.length * L.names.length
  | [] => by simp [codeW]
  | r :: ws => by
    have := codeW_len (L := L) ws
    unfold codeW at *
    rw [List.flatMap_cons, List.length_append, this, codeR, List.length_map, List.length_cons, Nat.succ_mul, Nat.add_comm]
theorem codeR_eq {L : Ln} {r r' : Row} (h : codeR L r = codeR L r') : ∀ x ∈ L.names, x ∈ r.begins ↔ x ∈ r'.begins := fun x hx => by
  unfold codeR at h
  have := List.map_inj_left.mp h x hx
  simpa using this
theorem codeW_get {L : Ln} : ∀ {ws ws' : List Row}, ws.length = ws'.length → codeW L ws = codeW L ws' → ∀ (j : Nat) r r', ws[j]? = some r → ws'[j]? = some r' → codeR L r = codeR L r'
  | [], [], _, _, j, r, r', h, _ => by simp at h
  | [], _ :: _, h, _, _, _, _, _, _ => by simp at h
  | _ :: _, [], h, _, _, _, _, _, _ => by simp at h
  | a :: ws, b :: ws', hl, h, j, r, r', h1, h2 => by
    unfold codeW at h
    rw [List.flatMap_cons, List.flatMap_cons] at h
    obtain ⟨e1, e2⟩ := List.append_inj h (by simp only [codeR, List.length_map])
    cases j with
    | zero =>
      simp only [List.getElem?_cons_zero, Option.some.injEq] at h1 h2
      rw [← h1, ← h2]
      exact e1
    | succ j =>
      simp only [List.getElem?_cons_succ] at h1 h2
      exact codeW_get (by simpa using hl) e2 j r r' h1 h2
theorem win_eq {L : Ln} {start : Str} {rows : List Row} {w i j : Nat} (h : Rows L start rows) (hi : 1 ≤ i) (hj : 1 ≤ j) (li : i + w ≤ rows.length) (lj : j + w ≤ rows.length) (e : codeW L (win rows w i) = codeW L (win rows w j)) : win rows w i = win rows w j := by
  refine List.ext_getElem? fun k => ?_
  by_cases hk : k < w
  · have h1 := win_get (rows := rows) (i := i) hk
    have h2 := win_get (rows := rows) (i := j) hk
    have g1 : rows[i + k]? = some rows[i + k] := List.getElem?_eq_getElem (by omega)
    have g2 : rows[j + k]? = some rows[j + k] := List.getElem?_eq_getElem (by omega)
    have hc := codeW_get (by rw [win_len li, win_len lj]) e k _ _ (h1.trans g1) (h2.trans g2)
    rw [h1, h2, g1, g2]
    have ne : ∀ n, 1 ≤ n → n < rows.length → rows.take n ≠ [] := fun n hn hl z => by
      have := congrArg List.length z
      rw [List.length_take, List.length_nil] at this
      omega
    rw [isRow_eq (h _ _ g1) (h _ _ g2) (ne _ (by omega) (by omega)) (ne _ (by omega) (by omega)) (codeR_eq hc)]
  · rw [List.getElem?_eq_none (by rw [win_len li]; omega), List.getElem?_eq_none (by rw [win_len lj]; omega)]
/-- windows that all differ are few -/
theorem win_few {L : Ln} {start : Str} {rows : List Row} {w n : Nat} (hF : L.names.length ≤ 4) (hw : w ≤ 3) (h : Rows L start rows) (hn : n + w ≤ rows.length + 1) (hd : ∀ i j, i < j → j < n → win rows w i ≠ win rows w j) : n ≤ 4097 := by
  have nd : ((List.range (n - 1)).map fun i => codeW L (win rows w (i + 1))).Nodup := by
    rw [List.Nodup, List.pairwise_map]
    refine List.Pairwise.imp_of_mem ?_ List.pairwise_lt_range
    intro a b ha hb hab e
    rw [List.mem_range] at ha hb
    exact hd (a + 1) (b + 1) (by omega) (by omega) (win_eq h (by omega) (by omega) (by omega) (by omega) e)
  have hl := nodup_len nd (m := bools (w * L.names.length)) fun x hx => by
    obtain ⟨i, hi, e⟩ := List.mem_map.mp hx
    rw [List.mem_range] at hi
    subst e
    have := bools_mem (codeW L (win rows w (i + 1)))
    rw [codeW_len, win_len (by omega)] at this
    exact this
  rw [List.length_map, List.length_range, bools_len] at hl
  have : 2 ^ (w * L.names.length) ≤ 2 ^ 12 := Nat.pow_le_pow_right (by omega) (Nat.le_trans (Nat.mul_le_mul hw hF) (by omega))
  omega
/-- the whole of a walk -/
structure Went (L : Ln) (w : Nat) (start : Str) where
  rows : List Row
  b : Nat
  e : Nat
  lt : b < e
  len : rows.length = e + w
  is : Rows L start rows
  again : win rows w b = win rows w e
  small : e ≤ 4100
end Tx

/-! text W15 -/
set_option Elab.async false
set_option linter.all false
set_option maxRecDepth 100000
set_option maxHeartbeats 2000000
/-! W15: Walk's making. -/
namespace Sd
open PySem PySem.Spec PyProof.Rows L2
section
variable {C : FC} {X : Cx} {ow ow' : Ow} {en : En} {o : Expr} {pos : Pos} {f : Str} {s : SV} {ss ss' : List SV} {Cc : Addr} {Kk : Ow → En → Prop}
theorem tgm_fldE {p dx : Addr} {ks ks' : List Str} (ho : EvD C X ow en o (.ptr p)) (cl : Cls X.K Cc) (na : NoAttr X.K Cc f) (hput : Put p (.ins Cc dx ks ss) (.ins Cc dx ks' ss') ow ow') (h : Kk ow' en) (e1 : ksP f ks = ks' := by rfl) (e2 : ssP f s ks ss = ss' := by rfl) (hl : ks.length < 1000 := by decide)
    (ha : ∀ v, assign (.Attribute o f pos) X.env v = (do
      let ov ← holding [v] (eval o X.env)
      standAt pos.atName
      holding [v, ov] (setAttr ov f v)
      release [v, ov] []) := by intro _; rfl) : TgM C X ow en (.Attribute o f pos) s Kk := by
  subst e1 e2
  exact tgm_fld ho cl na hput h hl ha
end
end Sd
namespace Tx
open PySem PySem.Spec PyProof.Rows L2 Sd C8
theorem dNKs_map : ∀ ds : List Sd.D, dNKs ds = ds.map dNK
  | [] => by rw [dNKs]; rfl
  | d :: ds => by rw [dNKs, dNKs_map ds]; rfl
theorem dOks_all : ∀ {ds : List Sd.D}, (∀ d ∈ ds, dOk d = true) → dOks ds = true
  | [], _ => by rw [dOks]
  | d :: ds, h => by rw [dOks, h d List.mem_cons_self, dOks_all fun x hx => h x (List.mem_cons_of_mem _ hx)]; rfl
theorem depthAll_le {n : Nat} : ∀ {ks : List NestedKey}, (∀ k ∈ ks, k.depth ≤ n) → NestedKey.depthAll ks ≤ n
  | [], _ => by rw [NestedKey.depthAll]; omega
  | k :: ks, h => by
    have h1 := h k List.mem_cons_self
    have h2 := depthAll_le fun x hx => h x (List.mem_cons_of_mem _ hx)
    rw [NestedKey.depthAll]
    exact Nat.max_le.mpr ⟨h1, h2⟩
theorem dNK_tup (ds : List Sd.D) : dNK (.tup ds) = .tup (ds.map dNK) := by rw [dNK, dNKs_map]
theorem depth_tup {n : Nat} {ds : List Sd.D} (h : ∀ d ∈ ds, (dNK d).depth ≤ n) : (dNK (.tup ds)).depth ≤ n + 1 := by
  rw [dNK_tup, NestedKey.depth]
  have := depthAll_le (n := n) (ks := ds.map dNK) fun k hk => by
    obtain ⟨d, hd, rfl⟩ := List.mem_map.mp hk
    exact h d hd
  omega
abbrev dWin (ws : List Row) : Sd.D := .tup (ws.map dRow)
theorem dSs_ok (l : List Str) : dOk (dSs l) = true ∧ (dNK (dSs l)).depth ≤ 1 := by
  refine ⟨?_, depth_tup (n := 0) fun d hd => ?_⟩
  · rw [dSs, dOk]
    refine dOks_all fun d hd => ?_
    obtain ⟨x, _, rfl⟩ := List.mem_map.mp hd
    rw [dOk]
  · obtain ⟨x, _, rfl⟩ := List.mem_map.mp hd
    rw [dNK, NestedKey.depth]
    omega
theorem dRow_ok (r : Row) : dOk (dRow r) = true ∧ (dNK (dRow r)).depth ≤ 2 := by
  refine ⟨?_, depth_tup (n := 1) fun d hd => ?_⟩
  · rw [dRow, dOk]
    refine dOks_all fun d hd => ?_
    rcases List.mem_cons.mp hd with e | hd
    · rw [e]; exact (dSs_ok _).1
    · rw [List.mem_singleton.mp hd]; exact (dSs_ok _).1
  · rcases List.mem_cons.mp hd with e | hd
    · rw [e]; exact (dSs_ok _).2
    · rw [List.mem_singleton.mp hd]; exact (dSs_ok _).2
theorem dWin_ok (ws : List Row) : dOk (dWin ws) = true ∧ (dNK (dWin ws)).depth ≤ 8 := by
  refine ⟨?_, Nat.le_trans (depth_tup (n := 2) fun d hd => ?_) (by omega)⟩
  · rw [dWin, dOk]
    refine dOks_all fun d hd => ?_
    obtain ⟨x, _, rfl⟩ := List.mem_map.mp hd
    exact (dRow_ok x).1
  · obtain ⟨x, _, rfl⟩ := List.mem_map.mp hd
    exact (dRow_ok x).2
theorem dSs_inj {l m : List Str} (h : dNK (dSs l) = dNK (dSs m)) : l = m := by
  rw [dSs, dSs, dNK_tup, dNK_tup, NestedKey.tup.injEq, List.map_map, List.map_map] at h
  refine (List.map_inj_right fun x y e => ?_).mp h
  simp only [Function.comp_apply, dNK, NestedKey.text.injEq] at e
  exact e
theorem dRow_inj {r q : Row} (h : dNK (dRow r) = dNK (dRow q)) : r = q := by
  rw [dRow, dRow, dNK_tup, dNK_tup, NestedKey.tup.injEq, List.map_cons, List.map_cons, List.map_cons, List.map_cons, List.cons.injEq, List.cons.injEq] at h
  have h1 := dSs_inj h.1
  have h2 := dSs_inj h.2.1
  cases r
  cases q
  simp only at h1 h2
  rw [h1, h2]
theorem dWin_inj {a b : List Row} (h : dNK (dWin a) = dNK (dWin b)) : a = b := by
  rw [dWin, dWin, dNK_tup, dNK_tup, NestedKey.tup.injEq, List.map_map, List.map_map] at h
  exact (List.map_inj_right fun x y e => dRow_inj e).mp h
abbrev winKs (rows : List Row) (w n : Nat) : List (Sd.D × Int) := (List.range n).map fun i => (dWin (win rows w i), (i : Int))
theorem winAt_in {rows : List Row} {w n : Nat} {ws : List Row} {v : Int} (h : winAt (winKs rows w n) (dWin ws) = some v) : ∃ i, i < n ∧ v = (i : Nat) ∧ win rows w i = ws := by
  unfold winAt at h
  obtain ⟨e, h1, h2⟩ := Option.map_eq_some_iff.mp h
  have h3 := List.find?_some h1
  obtain ⟨i, hi, e2⟩ := List.mem_map.mp (List.mem_of_find?_eq_some h1)
  rw [List.mem_range] at hi
  subst e2
  exact ⟨i, hi, h2.symm, dWin_inj (of_decide_eq_true h3)⟩
theorem winAt_out {rows : List Row} {w n : Nat} {ws : List Row} (h : winAt (winKs rows w n) (dWin ws) = none) : ∀ i, i < n → win rows w i ≠ ws := fun i hi e => by
  unfold winAt at h
  have h1 := List.find?_eq_none.mp (Option.map_eq_none_iff.mp h) _ (List.mem_map.mpr ⟨i, List.mem_range.mpr hi, rfl⟩)
  simp [e] at h1
section
variable {P : Program} {w : World} {K : Fg} {mg : Str → Option Value} {base : Heap}
abbrev kWalk : List Str := ["rows", "begin_row", "end_row"]
abbrev owW (P : Program) (w : World) (K : Fg) (pw pr p dx : Addr) (ks : List (Sd.D × Int)) (rows : List Row) (b e : Nat) : Ow := [(pw, winC P w K pw ks), (pr, .lst (rowsS rows)), (p, .ins (He.ga K "Walk") dx kWalk [.ptr pr, iv (b : Nat), iv (e : Nat)])]
theorem ok_Walk (T : Txt K mg) : Mak P w K mg base 4 "Walk" (He.ga K "Walk") (Pr K fun ow ss post => ∃ (p dx : Addr) (L : Ln) (start : Str), ow = [(p, .ins (He.ga K "Walk") dx [] [])] ∧ ss = [.ptr p, .val (dLn K L), sv start] ∧ L.Low ∧ start ∈ L.names ∧
    ∀ (wd : Nat) (W : Went L wd start), L.Wide wd → post nv [(p, .ins (He.ga K "Walk") dx kWalk [.val (.lst (W.rows.map dRow)), iv (W.b : Nat), iv (W.e : Nat)])]) [] := by
  obtain ⟨fd, F⟩ := T.f_Walk_init
  refine ⟨_, fd, p_Walk_init, [], T.mkr _, fn_pr F sc_Walk_init ?_ ?_, T.glo _, bd_Walk_init F, .nil⟩
  · rintro ow ss post ⟨p, dx, _, _, _, rfl, _⟩
    rfl
  intro cdv A outer sh H E C D ow ss post hr hR hM Fn Fx
  obtain ⟨p, dx, L, start, rfl, rfl, hL, hst, hp⟩ := hR
  have nd := sc_Walk_init.nd
  have hF := hL.few
  have hn4 : L.names.length ≤ 4 := by rw [List.length_map]; exact hF.n4
  refine sd_par 3 4 (eaw_val (Pa := fun s => ∃ wd : Nat, s = iv (wd : Nat) ∧ L.Wide wd) (ep_callX (ok_width_of T) hr (by decide) (ea_cons (ed_var 1) ea_nil) fun ss e => ⟨L, e, hL, fun s e => e⟩) fun s ⟨wd, e, hw⟩ => e ▸ eaw_val (Pa := (· = .val (dEntries L))) (ep_callX (ok_entries_of T) hr (by decide) (ea_cons (ed_var 1) ea_nil) fun ss e => ⟨L, e, hL, fun s e => e⟩) fun s e => e ▸ eaw_nil ⟨_, _, rfl, ?_⟩) rfl nd (by decide)
  refine sd_asg ((en_lst ea_nil).em fun pr oc e => e ▸ tgm_fldE (ks' := ["rows"]) (ss' := [.ptr pr]) (ed_var 0) (T.cls _) (T.noat "Walk" "rows") (.there .here) ?_)
  refine sd_asg (EvP.em (P := (· = .val (.tup [.int 0, .int 0]))) (ed_tup (ea_cons ed_int (ea_cons ed_int ea_nil))) fun s e => e ▸ tgm_tup (.tup _) (tgsm_cons (tgm_fldE (ks' := ["rows", "begin_row"]) (ss' := [.ptr pr, iv 0]) (ed_var 0) (T.cls _) (T.noat "Walk" "begin_row") (.there .here) (tgsm_cons (tgm_fldE (ks' := kWalk) (ss' := [.ptr pr, iv 0, iv 0]) (ed_var 0) (T.cls _) (T.noat "Walk" "end_row") (.there .here) (tgsm_nil ?_))))) rfl)
  refine sd_setM 5 (em_win fun pw => ?_) nd
  refine sd_while (fun m ow en => ∃ (x6 x7 : SV) (rows : List Row) (b e : Nat) (ks : List (Sd.D × Int)), ow = owW P w K pw pr p dx ks rows b e ∧ en = [.ptr p, .val (dLn K L), sv start, iv (wd : Nat), .val (dEntries L), .ptr pw, x6, x7] ∧ Rows L start rows ∧
      ((e = 0 ∧ b = 0 ∧ ks = winKs rows wd (rows.length + 1 - wd) ∧ (∀ i j, i < j → j < rows.length + 1 - wd → win rows wd i ≠ win rows wd j) ∧ m = 5001 - rows.length) ∨ (b < e ∧ rows.length = e + wd ∧ win rows wd b = win rows wd e ∧ e ≤ 4100 ∧ m = 0))) 5001 PassesOwn.never
    ⟨_, _, [], 0, 0, [], rfl, rfl, Rows.nil, .inl ⟨rfl, rfl, ?_, fun i j hi hj => ?_, rfl⟩⟩ ?_
  · have := hw.one.1
    have e0 : ([] : List Row).length + 1 - wd = 0 := by simp; omega
    rw [e0]
    rfl
  · have := hw.one.1
    simp at hj
    omega
  rintro m ow en ⟨x6, x7, rows, b, e, ks, rfl, rfl, hrows, hst2⟩
  have mP : (p, OC.ins (He.ga K "Walk") dx kWalk [.ptr pr, iv (b : Nat), iv (e : Nat)]) ∈ owW P w K pw pr p dx ks rows b e := List.mem_cons_of_mem _ (List.mem_cons_of_mem _ List.mem_cons_self)
  refine ⟨decide ((e : Int) = 0), et_cmp (ep_fld (ed_var 0) (.own _ _ _ _ _ mP) (T.cls _) (T.noat "Walk" "end_row") rfl) ed_int cd_eqI, fun hk => ?_, fun hk => ?_⟩
  · have he0 : e = 0 := by have := of_decide_eq_true hk; omega
    rcases hst2 with ⟨_, hb0, hks, hdist, hm⟩ | ⟨hlt, _⟩
    case inr => omega
    subst he0 hb0 hks
    have h1 := hw.one.1
    have h3 := hw.one.2
    have hfew : rows.length + 1 - wd ≤ 4097 := by
      by_cases hwl : wd ≤ rows.length + 1
      · exact win_few hn4 h3 hrows (by omega) hdist
      · omega
    refine sd_exprM (em_append (p := pr) (ss := rowsS rows) (Pa := fun s => ∃ r, s = .val (dRow r) ∧ IsRow L start rows r) (ep_fld (ed_var 0) (.own _ _ _ _ _ mP) (T.cls _) (T.noat "Walk" "rows") rfl)
      (ep_call (dd := []) (ok_next_row T) hr (by decide) (ea_cons (ed_var 4) (ea_cons (ed_var 2) (ea_cons (ep_fld (ed_var 0) (.own _ _ _ _ _ mP) (T.cls _) (T.noat "Walk" "rows") rfl) ea_nil))) (fun _ => RpSL.nil) fun ss e => ⟨[(pr, .lst (rowsS rows))], fun s ow' => (∃ r, s = .val (dRow r) ∧ IsRow L start rows r) ∧ ow' = [(pr, .lst (rowsS rows))], .cons _ (.cons_cons _ (List.nil_sublist _)), ⟨pr, L, start, rows, rfl, by rw [e]; rfl, hF, hst, by omega, fun r h => ⟨⟨r, rfl, h⟩, rfl⟩⟩, fun s ow' h => ⟨h.2, h.1⟩⟩)
      (List.mem_cons_of_mem _ List.mem_cons_self) (by rw [sizeLine_eq, List.length_map, List.length_map]; omega) fun s ⟨r, es, hrow⟩ => ?_)
    subst es
    have eRows : rowsS rows ++ [.val (dRow r)] = rowsS (rows ++ [r]) := by simp [rowsS]
    refine ⟨owW P w K pw pr p dx (winKs rows wd (rows.length + 1 - wd)) (rows ++ [r]) 0 0, by rw [eRows]; exact .there .here, ?_⟩
    have hrows2 := hrows.snoc hrow
    have hl2 : (rows ++ [r]).length = rows.length + 1 := by simp
    have eKs : winKs rows wd (rows.length + 1 - wd) = winKs (rows ++ [r]) wd (rows.length + 1 - wd) := List.map_congr_left fun i hi => by
      rw [List.mem_range] at hi
      rw [win_snoc (by omega)]
    rw [eKs]
    have hdist2 : ∀ i j, i < j → j < rows.length + 1 - wd → win (rows ++ [r]) wd i ≠ win (rows ++ [r]) wd j := fun i j hij hj => by
      rw [win_snoc (by omega), win_snoc (by omega)]
      exact hdist i j hij hj
    generalize hR2 : rows ++ [r] = rows2 at hrows2 hl2 hdist2 ⊢
    have mP2 : ∀ ks, (p, OC.ins (He.ga K "Walk") dx kWalk [.ptr pr, iv ((0 : Nat) : Int), iv ((0 : Nat) : Int)]) ∈ owW P w K pw pr p dx ks rows2 0 0 := fun ks => List.mem_cons_of_mem _ (List.mem_cons_of_mem _ List.mem_cons_self)
    have mR2 : ∀ ks, (pr, OC.lst (rowsS rows2)) ∈ owW P w K pw pr p dx ks rows2 0 0 := fun ks => List.mem_cons_of_mem _ List.mem_cons_self
    refine sd_set 6 (s := iv ((rows2.length : Int) - (wd : Int))) ((ed_sub (ep_callB (ea_cons (ep_fld (ed_var 0) (.own _ _ _ _ _ (mP2 _)) (T.cls _) (T.noat "Walk" "rows") rfl) ea_nil) (fun ss e => by rw [e]; exact cl_len (.own pr _ (mR2 _))) (T.free _) bb_len) (ed_var 3)).is (by simp)) ?_ nd
    refine sd_if (k := decide ((0 : Int) ≤ (rows2.length : Int) - (wd : Int))) (et_cmp (ed_var 6) ed_int cd_ge) (fun hk2 => ?_) (fun hk2 => sd_back rfl (sd_stop rfl ⟨5001 - rows2.length, by omega, _, _, rows2, 0, 0, _, rfl, rfl, hrows2, .inl ⟨rfl, rfl, ?_, fun i j hi hj => ?_, rfl⟩⟩))
    · have hk2 := of_decide_eq_true hk2
      obtain ⟨n, hn⟩ : ∃ n : Nat, n = rows.length + 1 - wd := ⟨_, rfl⟩
      have hnl : n + wd = rows2.length := by omega
      have hni : (rows2.length : Int) - (wd : Int) = (n : Nat) := by omega
      rw [← hn] at hdist2 hfew ⊢
      rw [hni]
      have hwin : rows2.drop n = win rows2 wd n := by
        unfold win
        rw [List.take_of_length_le (by rw [List.length_drop]; omega)]
      refine sd_set 7 (s := .val (dWin (win rows2 wd n))) (ep_callTy (A := (· = [.val (.lst ((win rows2 wd n).map dRow))])) (ea_cons (ed_ofN (ds := (win rows2 wd n).map dRow) ((en_slL (ep_fld (ed_var 0) (.own _ _ _ _ _ (mP2 _)) (T.cls _) (T.noat "Walk" "rows") rfl) (eo_some (ed_var 6)) eo_none (.own pr _ (mR2 _))).is fun oc e => ?_)) ea_nil) (fun ss e => e ▸ cl_tuple (.lst _)) (T.free _) bt_tuple) ?_ nd
      · rw [e, cutS_from _ _ (by rw [List.length_map, List.length_map]; omega), ← List.map_drop, ← List.map_drop, hwin]
      · have okW := dWin_ok (win rows2 wd n)
        refine sd_if (k := (winAt (winKs rows2 wd n) (dWin (win rows2 wd n))).isSome) (et_win (ks := winKs rows2 wd n) (hu9_of hr) (ed_var 7) (ed_var 5) List.mem_cons_self okW.1 okW.2) (fun hk3 => ?_) (fun hk3 => ?_)
        · obtain ⟨v, hv⟩ := Option.isSome_iff_exists.mp hk3
          obtain ⟨i, hi, ev, hwi⟩ := winAt_in hv
          subst ev
          refine sd_asg (em_tup (eaw_val (Pa := (· = iv (i : Nat))) (ed_win (ks := winKs rows2 wd n) (hu9_of hr) (ed_var 5) (ed_var 7) List.mem_cons_self okW.1 okW.2 hv) ?_))
          rintro _ rfl
          refine eaw_val (Pa := (· = iv (n : Nat))) (ed_var 6) ?_
          rintro _ rfl
          refine eaw_nil ⟨by rw [sizeLine_eq]; exact Nat.le_of_ble_eq_true rfl, fun t => tgm_tup (.own t _ List.mem_cons_self) (tgsm_cons (tgm_fldE (ks' := kWalk) (ss' := [.ptr pr, iv (i : Nat), iv ((0 : Nat) : Int)]) (ed_var 0) (T.cls _) (T.noat "Walk" "begin_row") (.there (.there (.there .here))) (tgsm_cons (tgm_fldE (ks' := kWalk) (ss' := [.ptr pr, iv (i : Nat), iv (n : Nat)]) (ed_var 0) (T.cls _) (T.noat "Walk" "end_row") (.there (.there (.there .here))) (tgsm_nil ?_))))) rfl⟩
          refine SD.drop (ow' := owW P w K pw pr p dx (winKs rows2 wd n) rows2 i n) ?_ (List.sublist_cons_self _ _)
          refine sd_back rfl (sd_back rfl (sd_stop rfl ⟨0, by omega, _, _, rows2, i, n, _, rfl, rfl, hrows2, .inr ⟨hi, by omega, hwi, by omega, rfl⟩⟩))
        · have hv : winAt (winKs rows2 wd n) (dWin (win rows2 wd n)) = none := by
            cases h : winAt (winKs rows2 wd n) (dWin (win rows2 wd n)) with
            | none => rfl
            | some _ => rw [h] at hk3; cases hk3
          have hout := winAt_out hv
          refine sd_asg (EvP.em (P := (· = iv (n : Nat))) (ed_var 6) ?_)
          rintro _ rfl
          refine tgm_win (ks := winKs rows2 wd n) (ow' := owW P w K pw pr p dx (winKs rows2 wd n ++ [(dWin (win rows2 wd n), (n : Int))]) rows2 0 0) (hu9_of hr) (ed_var 5) (ed_var 7) okW.1 okW.2 (by rw [sizeLine_eq, List.length_map, List.length_range]; omega) hv .here ?_
          have e2 : rows2.length + 1 - wd = n + 1 := by omega
          refine sd_back rfl (sd_back rfl (sd_stop rfl ⟨5001 - rows2.length, by omega, _, _, rows2, 0, 0, _, rfl, rfl, hrows2, .inl ⟨rfl, rfl, ?_, fun i j hij hj => ?_, rfl⟩⟩))
          · rw [e2, winKs, winKs, List.range_succ, List.map_append]
            rfl
          · rw [e2] at hj
            by_cases hjn : j < n
            · exact hdist2 i j hij hjn
            · have : j = n := by omega
              subst this
              exact hout i hij
    · have hk2 := of_decide_eq_false hk2
      have z1 : rows.length + 1 - wd = 0 := by omega
      have z2 : rows2.length + 1 - wd = 0 := by omega
      rw [z1, z2]
    · have hk2 := of_decide_eq_false hk2
      omega
  · have he0 : e ≠ 0 := by have := of_decide_eq_false hk; omega
    rcases hst2 with ⟨h0, _⟩ | ⟨hlt, hlen, hag, hsm, _⟩
    · exact absurd h0 he0
    refine SD.drop (ow' := [(pr, .lst (rowsS rows)), (p, .ins (He.ga K "Walk") dx kWalk [.ptr pr, iv (b : Nat), iv (e : Nat)])]) ?_ (List.sublist_cons_self _ _)
    refine sd_freeze .here (.lst (rows.map dRow)) (by rw [hM]; simp) (ow2 := [(p, .ins (He.ga K "Walk") dx kWalk [.val (.lst (rows.map dRow)), iv (b : Nat), iv (e : Nat)])]) (.cons (.ins (.cons (.inr ⟨rfl, rfl⟩) .same)) .nil) .same ?_
    exact sd_fin Fx (hp wd ⟨rows, b, e, hlt, hlen, hrows, hag, hsm⟩ hw)
end
end Tx

/-! text W16 -/
set_option Elab.async false
set_option linter.all false
set_option maxRecDepth 100000
set_option maxHeartbeats 2000000
/-! W16: what a walk tells. -/
namespace Tx
open PySem PySem.Spec PyProof.Rows L2 Sd C8
abbrev dWalk (K : Fg) (rows : List Row) (b e : Nat) : Sd.D := .ins (He.ga K "Walk") kWalk [.lst (rows.map dRow), .int (b : Nat), .int (e : Nat)]
/-- the rows at which x stands -/
def atRows (rows : List Row) (pl : Nat) (x : Str) (n : Nat) : List Nat := (List.range n).filter fun k => decide (x ∈ (rows.getD k ⟨[], []⟩).at_ pl)
theorem atRows_succ {rows : List Row} {pl : Nat} {x : Str} {i : Nat} {r : Row} (h : rows[i]? = some r) : atRows rows pl x (i + 1) = atRows rows pl x i ++ if decide (x ∈ r.at_ pl) = true then [i] else [] := by
  have hg : rows.getD i ⟨[], []⟩ = r := by rw [List.getD_eq_getElem?_getD, h]; rfl
  unfold atRows
  rw [List.range_succ, List.filter_append, List.filter_cons, List.filter_nil, hg]
/-- the flags a walk tells of x at pl -/
def fgs (rows : List Row) (b e : Nat) (pl : Nat) (x : Str) : List Bool := flagsL (atRows rows pl x e) (b + (e - b))
section
variable {P : Program} {w : World} {K : Fg} {mg : Str → Option Value} {base : Heap}
theorem ex1 (b e : Nat) (h : b < e) : iv ((e : Int) - (b : Int)) = iv ((e - b : Nat) : Int) := by rw [Int.ofNat_sub (Nat.le_of_lt h)]
structure WkIn where
  rows : List Row
  b : Nat
  e : Nat
  x : Str
  pl : Nat
def WkIn.Ok (z : WkIn) : Prop := z.b < z.e ∧ z.e ≤ z.rows.length ∧ z.e ≤ 5000 ∧ z.pl ≤ 1
def WkIn.fl (z : WkIn) : List Bool := fgs z.rows z.b z.e z.pl z.x
abbrev rAt (K : Fg) (z : WkIn) (s : SV) : Prop := ∃ st sz : Nat, s = .val (dLags K z.fl st sz) ∧ Formed z.fl st sz
theorem ok_lags_at (T : Txt K mg) : Met P w K mg base 5 (He.ga K "Walk") "lags_at" (Pr K (FX (fun z : WkIn => [.val (dWalk K z.rows z.b z.e), sv z.x, iv (z.pl : Nat)]) WkIn.Ok (rAt K))) [] := by
  obtain ⟨fd, F⟩ := T.f_Walk_lags_at
  refine ⟨_, fd, p_Walk_lags_at, [], T.cls _, T.meth "Walk" "lags_at", fn_pr F sc_Walk_lags_at (by rintro ow ss post ⟨_, L, rfl, _⟩; rfl) fun cdv A outer sh H E C D ow ss post hr hR hM Fn Fx => ?_, bd_Walk_lags_at F, .nil⟩
  obtain ⟨rfl, ⟨rows, b, e, x, pl⟩, rfl, ⟨h1, h2, h3, h4⟩, hp⟩ := hR
  have h1 : b < e := h1
  have h2 : e ≤ rows.length := h2
  have h3 : e ≤ 5000 := h3
  have h4 : pl ≤ 1 := h4
  have nd := sc_Walk_lags_at.nd
  refine sd_setLcD 3 [("at", 4), ("row", 5)] (fun i ds => ds = (atRows rows pl x i).map fun k => Sd.D.int (k : Nat)) (ei_enumL (ds := (rows.take e).map dRow) (ed_ofN ((en_slL (ep_fld (ed_var 0) (.val _ _ _) (T.cls _) (T.noat "Walk" "rows") rfl) eo_none (eo_some (ep_fld (ed_var 0) (.val _ _ _) (T.cls _) (T.noat "Walk" "end_row") rfl)) (.lst _)).is fun oc e => ?_)) (T.free _)) (by rw [sizeLine_eq, List.length_map, List.length_take]; omega) (fun q hq => by cases hq) rfl ?_ ?_ (by rw [hM]; simp) nd (blk (N := N_Walk_lags_at) (sc := fnScope s_Walk_lags_at) (by decide +kernel))
  · rw [e, cutS_to _ _ (by rw [List.length_map, List.length_map]; exact h2), ← List.map_take, ← List.map_take]
  · rintro C' le i s ds hi ⟨d, hd, rfl⟩ rfl
    obtain ⟨r, hr1, rfl⟩ := getE_map hd
    have hr2 : rows[i]? = some r := by
      rw [List.getElem?_take] at hr1
      split at hr1
      · exact hr1
      · cases hr1
    have ht := atRows_succ (pl := pl) (x := x) hr2
    refine ⟨[4, 5], _, (· = decide (x ∈ r.at_ pl)), by decide, fun _ _ _ _ _ => tg_tup rfl (tgs_cons (tg_name 4 nd) (tgs_cons (tg_name 5 nd) tgs_nil)), fun _ _ _ _ _ => ets_one (et_cmp (y := .val (dSs (r.at_ pl))) (ed_var 1) (ed_ixT (ss := [.val (dSs r.ends), .val (dSs r.begins)]) (ed_var 5) (ed_var 2) (.tup [dSs r.ends, dSs r.begins]) ?_) (cd_inS (seqTS _))), fun h => ?_, fun h => ⟨(· = iv (i : Nat)), fun _ _ _ _ _ => ed_var 4, fun r e => ?_⟩⟩
    · rcases (show pl = 0 ∨ pl = 1 by omega) with e | e <;> rw [e] <;> rfl
    · refine ⟨_, rfl, ?_⟩
      rw [ht, ← h, if_neg (by decide), List.append_nil]
    · subst e
      refine ⟨(atRows rows pl x (i + 1)).map fun k => Sd.D.int (k : Nat), ?_, rfl⟩
      rw [ht, ← h, if_pos rfl]
      simp
  · rintro ds rfl
    rw [List.length_map, List.length_take, Nat.min_eq_left h2]
    refine sdp_ret Fn (P := rAt K ⟨rows, b, e, x, pl⟩) (ep_callX (ok_lags_of T) hr (by decide) (ea_cons (ed_var 3) (ea_cons (ep_fld (ed_var 0) (.val _ _ _) (T.cls _) (T.noat "Walk" "begin_row") rfl) (ea_cons ((ed_sub (ep_fld (ed_var 0) (.val _ _ _) (T.cls _) (T.noat "Walk" "end_row") rfl) (ep_fld (ed_var 0) (.val _ _ _) (T.cls _) (T.noat "Walk" "begin_row") rfl)).is (ex1 b e h1)) ea_nil))) fun ss e1 => ⟨(atRows rows pl x e, b, e - b), e1, ⟨by show 1 ≤ e - b; omega, by show b + (e - b) ≤ 100000; omega, fun m hm => ?_⟩, fun s h => h⟩) fun s h => ⟨[], List.Sublist.refl _, hp _ h⟩

    · have := (List.mem_filter.mp hm).1
      rw [List.mem_range] at this
      show m < b + (e - b)
      omega
theorem ok_ends (T : Txt K mg) : Met P w K mg base 6 (He.ga K "Walk") "ends" (Pr K (FX (fun z : WkIn => [.val (dWalk K z.rows z.b z.e), sv z.x]) (fun z => z.Ok ∧ z.pl = 0) (rAt K))) [] := by
  obtain ⟨fd, F⟩ := T.f_Walk_ends
  refine ⟨_, fd, p_Walk_ends, [], T.cls _, T.meth "Walk" "ends", fn_pr F sc_Walk_ends (by rintro ow ss post ⟨_, L, rfl, _⟩; rfl) fun cdv A outer sh H E C D ow ss post hr hR hM Fn Fx => ?_, bd_Walk_ends F, .nil⟩
  obtain ⟨rfl, z, rfl, ⟨hz, h0⟩, hp⟩ := hR
  refine sdp_ret Fn (P := rAt K z) (ep_methX (ok_lags_at T) hr (by decide) (ed_var 0) (.val _ _ _) (by decide) (ea_cons (ed_var 1) (ea_cons ed_int ea_nil)) fun ts e => ⟨z, by rw [e, h0]; rfl, hz, fun s h => h⟩) fun s h => ⟨[], List.Sublist.refl _, hp _ h⟩
theorem ok_begins (T : Txt K mg) : Met P w K mg base 6 (He.ga K "Walk") "begins" (Pr K (FX (fun z : WkIn => [.val (dWalk K z.rows z.b z.e), sv z.x]) (fun z => z.Ok ∧ z.pl = 1) (rAt K))) [] := by
  obtain ⟨fd, F⟩ := T.f_Walk_begins
  refine ⟨_, fd, p_Walk_begins, [], T.cls _, T.meth "Walk" "begins", fn_pr F sc_Walk_begins (by rintro ow ss post ⟨_, L, rfl, _⟩; rfl) fun cdv A outer sh H E C D ow ss post hr hR hM Fn Fx => ?_, bd_Walk_begins F, .nil⟩
  obtain ⟨rfl, z, rfl, ⟨hz, h0⟩, hp⟩ := hR
  refine sdp_ret Fn (P := rAt K z) (ep_methX (ok_lags_at T) hr (by decide) (ed_var 0) (.val _ _ _) (by decide) (ea_cons (ed_var 1) (ea_cons ed_int ea_nil)) fun ts e => ⟨z, by rw [e, h0]; rfl, hz, fun s h => h⟩) fun s h => ⟨[], List.Sublist.refl _, hp _ h⟩
structure WdIn where
  L : Ln
  start : Str
theorem ok_walked (T : Txt K mg) : Cal P w K mg base 6 "walked" (Pr K (FX (fun z : WdIn => [.val (dLn K z.L), sv z.start]) (fun z => z.L.Low ∧ z.start ∈ z.L.names) (fun z s => ∃ (wd : Nat) (W : Went z.L wd z.start), z.L.Wide wd ∧ s = .val (dWalk K W.rows W.b W.e)))) [] := by
  obtain ⟨fd, F⟩ := T.f_walked
  refine cal_of F sc_walked (T.glo _) (bd_walked F) (by rintro ow ss post ⟨_, i, rfl, _⟩; rfl) fun cdv A outer sh H E C D ow ss post hr hR hM Fn Fx => ?_
  obtain ⟨rfl, ⟨L, start⟩, rfl, ⟨hL, hst⟩, hp⟩ := hR
  refine sdp_ret Fn (P := fun s => ∃ (wd : Nat) (W : Went L wd start), L.Wide wd ∧ s = .val (dWalk K W.rows W.b W.e)) (ep_ofN (en_make (dd := []) (A2 := fun oc => ∃ (wd : Nat) (W : Went L wd start) (dx : Addr), L.Wide wd ∧ oc = .ins (He.ga K "Walk") dx kWalk [.val (.lst (W.rows.map dRow)), iv (W.b : Nat), iv (W.e : Nat)]) (ok_Walk T) hr (by decide) (ea_cons (ed_var 0) (ea_cons (ed_var 1) ea_nil)) (fun _ => RpSL.nil) fun ss e p dx => ⟨fun s ow' => s = nv ∧ ∃ (wd : Nat) (W : Went L wd start), L.Wide wd ∧ ow' = [(p, .ins (He.ga K "Walk") dx kWalk [.val (.lst (W.rows.map dRow)), iv (W.b : Nat), iv (W.e : Nat)])], ⟨p, dx, L, start, rfl, by rw [e]; rfl, hL, hst, fun wd W hw => ⟨rfl, wd, W, hw, rfl⟩⟩, fun s ow' ⟨h1, wd, W, hw, h2⟩ => ⟨h1, _, h2, wd, W, dx, hw, rfl⟩⟩) ?_) fun s e => ⟨[], List.Sublist.refl _, hp _ e⟩
  rintro oc ⟨wd, W, dx, hw, rfl⟩
  exact ⟨_, .ins _ _ _ [.lst (W.rows.map dRow), .int (W.b : Nat), .int (W.e : Nat)], wd, W, hw, rfl⟩
end
end Tx

/-! text W17 -/
set_option Elab.async false
set_option linter.all false
set_option maxRecDepth 100000
set_option maxHeartbeats 2000000
/-! W17: Orders. -/
namespace Sd
open PySem PySem.Spec PyProof.Rows L2
theorem all_val : ∀ {l : List SV}, (∀ s ∈ l, ∃ d, s = .val d) → ∃ ds : List Sd.D, l = ds.map SV.val
  | [], _ => ⟨[], rfl⟩
  | s :: l, h => by
    obtain ⟨d, e⟩ := h s List.mem_cons_self
    obtain ⟨ds, e2⟩ := all_val fun x hx => h x (List.mem_cons_of_mem _ hx)
    exact ⟨d :: ds, by rw [e, e2]; rfl⟩
section
variable {κ : Type} [DecidableEq κ]
theorem ssPut_val (ks : List κ) (ds : List Sd.D) (k : κ) (d : Sd.D) : ∃ ds' : List Sd.D, ssPut ks (ds.map SV.val) k (.val d) = ds'.map SV.val := by
  refine all_val fun s hs => ?_
  unfold ssPut at hs
  split at hs
  · obtain ⟨q, hq, rfl⟩ := List.mem_map.mp hs
    split
    · exact ⟨d, rfl⟩
    · obtain ⟨d', _, e⟩ := List.mem_map.mp (List.of_mem_zip hq).2
      exact ⟨d', e.symm⟩
  · rcases List.mem_append.mp hs with h | h
    · obtain ⟨d', _, e⟩ := List.mem_map.mp h
      exact ⟨d', e.symm⟩
    · exact ⟨d, List.mem_singleton.mp h⟩
theorem ksPut_len (ks : List κ) (k : κ) : (ksPut ks k).length ≤ ks.length + 1 := by
  unfold ksPut
  split
  · omega
  · simp
end
end Sd
namespace Tx
open PySem PySem.Spec PyProof.Rows L2 Sd C8
def Ln.timedN (L : Ln) : List Str := (L.sts.filter (·.timed)).map (·.name)
theorem Ln.timed_names {L : Ln} {x : Str} (h : x ∈ L.timedN) : x ∈ L.names := by
  obtain ⟨s, hs, rfl⟩ := List.mem_map.mp h
  exact List.mem_map.mpr ⟨s, (List.mem_filter.mp hs).1, rfl⟩
theorem Ln.timed_len (L : Ln) : L.timedN.length ≤ L.sts.length := by
  unfold Ln.timedN
  rw [List.length_map]
  exact List.length_filter_le _ _
/-- what found says at (n, m) -/
def OrdV (K : Fg) (L : Ln) (n m : Str) (d : Sd.D) : Prop := ∃ (wd : Nat) (W : Went L wd n) (st sz : Nat), L.Wide wd ∧ d = dLags K (fgs W.rows W.b W.e 1 m) st sz ∧ Formed (fgs W.rows W.b W.e 1 m) st sz
abbrev pK (n m : Str) : List Key := [Sum.inr n, Sum.inr m]
def Cov (K : Fg) (L : Ln) (ks : List (List Key)) (ds : List Sd.D) (n m : Str) : Prop := ∃ d, valS ks (ds.map SV.val) (pK n m) = some (.val d) ∧ OrdV K L n m d
abbrev kOrd : List Str := ["known", "outlets", "found", "none"]
structure OrdD (K : Fg) (L : Ln) where
  zs : List Str
  oks : List Key
  ods : List Sd.D
  ks : List (List Key)
  ds : List Sd.D
  nn : Sd.D
  cov : ∀ n m, n ∈ L.timedN → m ∈ L.timedN → Cov K L ks ds n m
abbrev dOrd (K : Fg) {L : Ln} (o : OrdD K L) : Sd.D := .ins (He.ga K "Orders") kOrd [.tup (o.zs.map Sd.D.str), .dK o.oks o.ods, .dT o.ks o.ds, o.nn]
theorem cov_put {K : Fg} {L : Ln} {ks : List (List Key)} {ds ds' : List Sd.D} {x y : Str} {d : Sd.D} (hl : ks.length = ds.length) (e : ssPut ks (ds.map SV.val) (pK x y) (.val d) = ds'.map SV.val) (hd : OrdV K L x y d) {n m : Str} (h : Cov K L ks ds n m ∨ (n = x ∧ m = y)) : Cov K L (ksPut ks (pK x y)) ds' n m := by
  have hp := fun j => valS_put (ks := ks) (ss := ds.map SV.val) (k := pK x y) (j := j) (s := .val d) (by rw [List.length_map]; exact hl)
  by_cases e2 : pK n m = pK x y
  · obtain ⟨rfl, rfl⟩ : n = x ∧ m = y := by simpa [pK] using e2
    refine ⟨d, ?_, hd⟩
    rw [← e, hp, if_pos rfl]
  · rcases h with ⟨d', h1, h2⟩ | ⟨h1, h2⟩
    · refine ⟨d', ?_, h2⟩
      rw [← e, hp, if_neg e2]
      exact h1
    · exact absurd (by rw [h1, h2]) e2
section
variable {P : Program} {w : World} {K : Fg} {mg : Str → Option Value} {base : Heap}
abbrev owO (K : Fg) (pf po p dx : Addr) (zs : List Str) (nn : Sd.D) (oks : List Key) (ods : List Sd.D) (ks : List (List Key)) (ds : List Sd.D) : Ow := [(pf, .dT ks (ds.map SV.val)), (po, .dK oks (ods.map SV.val)), (p, .ins (He.ga K "Orders") dx kOrd [.val (.tup (zs.map Sd.D.str)), .ptr po, .ptr pf, .val nn])]
theorem went_ok {L : Ln} {wd : Nat} {n m : Str} {pl : Nat} (W : Went L wd n) (h : pl ≤ 1) : WkIn.Ok ⟨W.rows, W.b, W.e, m, pl⟩ := ⟨W.lt, by show W.e ≤ W.rows.length; rw [W.len]; omega, by show W.e ≤ 5000; have := W.small; omega, h⟩
theorem ok_Orders (T : Txt K mg) : Mak P w K mg base 7 "Orders" (He.ga K "Orders") (Pr K fun ow ss post => ∃ (p dx : Addr) (L : Ln), ow = [(p, .ins (He.ga K "Orders") dx [] [])] ∧ ss = [.ptr p, .val (dLn K L)] ∧ L.Low ∧
    ∀ o : OrdD K L, post nv [(p, .ins (He.ga K "Orders") dx kOrd [.val (.tup (o.zs.map Sd.D.str)), .val (.dK o.oks o.ods), .val (.dT o.ks o.ds), .val o.nn])]) [] := by
  obtain ⟨fd, F⟩ := T.f_Orders_init
  refine ⟨_, fd, p_Orders_init, [], T.mkr _, fn_pr F sc_Orders_init ?_ ?_, T.glo _, bd_Orders_init F, .nil⟩
  · rintro ow ss post ⟨p, dx, _, _, rfl, _⟩
    rfl
  intro cdv A outer sh H E C D ow ss post hr hR hM Fn Fx
  obtain ⟨p, dx, L, rfl, rfl, hL, hp⟩ := hR
  have nd := sc_Orders_init.nd
  have h4 := hL.few.n4
  refine sd_asg (EvP.em (P := fun s => ∃ zs : List Str, s = .val (.tup (zs.map Sd.D.str)) ∧ zs.Perm L.timedN ∧ sortedS zs = true) (ep_propX (ok_Line_timed T) hr (by decide) (ed_var 1) (.val _ _ _) ⟨L, rfl, by omega, fun s h => h⟩) ?_)
  rintro _ ⟨zs, rfl, hzs, _⟩
  refine tgm_fldE (ks' := ["known"]) (ss' := [.val (.tup (zs.map Sd.D.str))]) (ed_var 0) (T.cls _) (T.noat "Orders" "known") .here ?_
  have hzl : zs.length ≤ 4 := by have := hzs.length_eq; have := L.timed_len; omega
  have hzm : ∀ x ∈ zs, x ∈ L.timedN := fun x hx => hzs.mem_iff.mp hx
  refine sd_asg (em_tup (eaw_new (A := (· = .dK [] [])) en_dK ?_))
  rintro po _ rfl
  refine eaw_new (A := (· = .dT [] [])) en_dT ?_
  rintro pf _ rfl
  refine eaw_val (Pa := fun s => ∃ d, s = .val d) (ep_ofN (en_make0 (dd := [.val (.tup []), .val (.tup []), iv 1]) (A2 := fun oc => ∃ dx d, oc = .ins (He.ga K "Lags") dx ["form"] [.val d]) (ok_Lags T) hr (by decide) (lagsD_rp T) fun q dx => ⟨fun s ow' => s = nv ∧ ∃ d, ow' = [(q, .ins (He.ga K "Lags") dx ["form"] [.val d])], ⟨q, dx, rfl, rfl, fun d => ⟨rfl, d, rfl⟩⟩, fun s ow' ⟨h1, d, h2⟩ => ⟨h1, _, h2, dx, d, rfl⟩⟩) fun oc ⟨dx, d, e⟩ => by
    subst e
    exact ⟨_, ShOf.ins _ _ _ [d], _, rfl⟩) ?_
  rintro _ ⟨nn, rfl⟩
  refine eaw_nil ⟨by rw [sizeLine_eq]; exact Nat.le_of_ble_eq_true rfl, fun t => tgm_tup (.own t _ List.mem_cons_self) (tgsm_cons (tgm_fldE (ks' := ["known", "outlets"]) (ss' := [.val (.tup (zs.map Sd.D.str)), .ptr po]) (ed_var 0) (T.cls _) (T.noat "Orders" "outlets") (.there (.there (.there .here))) (tgsm_cons (tgm_fldE (ks' := ["known", "outlets", "found"]) (ss' := [.val (.tup (zs.map Sd.D.str)), .ptr po, .ptr pf]) (ed_var 0) (T.cls _) (T.noat "Orders" "found") (.there (.there (.there .here)))
    (tgsm_cons (tgm_fldE (ks' := kOrd) (ss' := [.val (.tup (zs.map Sd.D.str)), .ptr po, .ptr pf, .val nn]) (ed_var 0) (T.cls _) (T.noat "Orders" "none") (.there (.there (.there .here))) (tgsm_nil ?_))))))) rfl⟩
  refine SD.drop (ow' := owO K pf po p dx zs nn [] [] [] []) ?_ (List.sublist_cons_self _ _)
  refine sd_for (fun i ow en => ∃ (oks : List Key) (ods : List Sd.D) (ks : List (List Key)) (ds : List Sd.D) (x2 x3 x4 : SV), ow = owO K pf po p dx zs nn oks ods ks ds ∧ en = [.ptr p, .val (dLn K L), x2, x3, x4] ∧ oks.length ≤ i ∧ oks.length = ods.length ∧ ks.length ≤ i * 4 ∧ ks.length = ds.length ∧ ∀ n ∈ zs.take i, ∀ m ∈ zs, Cov K L ks ds n m) PassesOwn.never rfl
    (ei_tup (ep_fld (ed_var 0) (.own _ _ _ _ _ (List.mem_cons_of_mem _ (List.mem_cons_of_mem _ List.mem_cons_self))) (T.cls _) (T.noat "Orders" "known") rfl)) ⟨[], [], [], [], .un, .un, .un, rfl, rfl, Nat.le_refl _, rfl, Nat.le_refl _, rfl, fun n hn => by simp at hn⟩ (fun _ _ _ _ q hq => by cases hq) ?_ ?_
  · rintro C' le i s ow en hi ⟨oks, ods, ks, ds, x2, x3, x4, rfl, rfl, ho1, ho2, hk1, hk2, hcov⟩ ⟨d, hd, rfl⟩
    obtain ⟨x, hx, rfl⟩ := getE_map hd
    have hi : i < zs.length := by simpa using hi
    have hxz := List.mem_of_getElem? hx
    refine ⟨_, _, tg_name 2 nd, sd_setD 3 (ep_callX (ok_walked T) hr (by decide) (ea_cons (ed_var 1) (ea_cons (ed_var 2) ea_nil)) fun ss e => ⟨⟨L, x⟩, e, ⟨hL, Ln.timed_names (hzm x hxz)⟩, ?_⟩) nd⟩
    rintro _ ⟨wd, W, hw, rfl⟩
    refine sd_asg (EvP.em (P := fun s => ∃ d, s = .val d) (ep_methX (ok_ends T) hr (by decide) (ed_var 3) (.val _ _ _) (by decide) (ea_cons (ed_side (ok_Line_outlet T) hr (by decide) (ed_var 1) rfl) ea_nil) fun ts e => ⟨⟨W.rows, W.b, W.e, L.out, 0⟩, by rw [e], ⟨went_ok W (by omega), rfl⟩, fun s ⟨st, sz, e, _⟩ => ⟨_, e⟩⟩) ?_)
    rintro _ ⟨d1, rfl⟩
    obtain ⟨ods2, eods⟩ := ssPut_val oks ods (Sum.inr x) d1
    refine tgm_dK (ks := oks) (k := Sum.inr x) (ow' := owO K pf po p dx zs nn (ksPut oks (Sum.inr x)) ods2 ks ds) (hu_of hr) (ep_fld (ed_var 0) (.own _ _ _ _ _ (List.mem_cons_of_mem _ (List.mem_cons_of_mem _ List.mem_cons_self))) (T.cls _) (T.noat "Orders" "outlets") rfl) (ed_var 2) (by rw [sizeLine_eq]; omega) (by unfold owO; rw [← eods]; exact .there .here) ?_
    have ho3 : (ksPut oks (Sum.inr x : Key)).length = ods2.length := by
      have := put_len (ks := oks) (ss := ods.map SV.val) (k := (Sum.inr x : Key)) (s := .val d1) (by rw [List.length_map]; exact ho2)
      rw [this, eods, List.length_map]
    have ho4 := ksPut_len oks (Sum.inr x : Key)
    refine sd_for (fun j ow en => ∃ (ks : List (List Key)) (ds : List Sd.D) (x4 : SV), ow = owO K pf po p dx zs nn (ksPut oks (Sum.inr x)) ods2 ks ds ∧ en = [.ptr p, .val (dLn K L), sv x, .val (dWalk K W.rows W.b W.e), x4] ∧ ks.length ≤ i * 4 + j ∧ ks.length = ds.length ∧ (∀ n ∈ zs.take i, ∀ m ∈ zs, Cov K L ks ds n m) ∧ ∀ m ∈ zs.take j, Cov K L ks ds x m) PassesOwn.never rfl
      (ei_tup (ep_fld (ed_var 0) (.own _ _ _ _ _ (List.mem_cons_of_mem _ (List.mem_cons_of_mem _ List.mem_cons_self))) (T.cls _) (T.noat "Orders" "known") rfl)) ⟨ks, ds, x4, rfl, rfl, hk1, hk2, hcov, fun m hm => by simp at hm⟩ (fun _ _ _ _ q hq => by cases hq) ?_ ?_
    · rintro C2 le2 j s ow en hj ⟨ks, ds, x4, rfl, rfl, hk1, hk2, hcov, hcov2⟩ ⟨d, hd, rfl⟩
      obtain ⟨y, hy, rfl⟩ := getE_map hd
      have hj : j < zs.length := by simpa using hj
      refine ⟨_, _, tg_name 4 nd, sd_asg (EvP.em (P := fun s => ∃ d, s = .val d ∧ OrdV K L x y d) (ep_methX (ok_begins T) hr (by decide) (ed_var 3) (.val _ _ _) (by decide) (ea_cons (ed_var 4) ea_nil) fun ts e => ⟨⟨W.rows, W.b, W.e, y, 1⟩, by rw [e], ⟨went_ok W (by omega), rfl⟩, fun s ⟨st, sz, e, hf⟩ => ⟨_, e, wd, W, st, sz, hw, rfl, hf⟩⟩) ?_)⟩
      rintro _ ⟨d2, rfl, hov⟩
      obtain ⟨ds2, eds⟩ := ssPut_val ks ds (pK x y) d2
      refine tgm_dT (ks := ks) (k := pK x y) (ow' := owO K pf po p dx zs nn (ksPut oks (Sum.inr x)) ods2 (ksPut ks (pK x y)) ds2) (hu_of hr) (ep_fld (ed_var 0) (.own _ _ _ _ _ (List.mem_cons_of_mem _ (List.mem_cons_of_mem _ List.mem_cons_self))) (T.cls _) (T.noat "Orders" "found") rfl) (ed_keyT (ks := pK x y) (ea_cons (ed_var 2) (ea_cons (ed_var 4) ea_nil))) (by rw [sizeLine_eq]; omega) (by unfold owO; rw [← eds]; exact .here) ?_
      have h1 : (ksPut ks (pK x y)).length = ds2.length := by
        have := put_len (ks := ks) (ss := ds.map SV.val) (k := pK x y) (s := .val d2) (by rw [List.length_map]; exact hk2)
        rw [this, eds, List.length_map]
      have h2 := ksPut_len ks (pK x y)
      refine sd_stop rfl ⟨_, _, _, rfl, rfl, by omega, h1, fun n hn m hm => cov_put hk2 eds hov (.inl (hcov n hn m hm)), fun m hm => ?_⟩
      rw [List.take_add_one, hy] at hm
      rcases List.mem_append.mp hm with hm | hm
      · exact cov_put hk2 eds hov (.inl (hcov2 m hm))
      · exact cov_put hk2 eds hov (.inr ⟨rfl, by simpa using hm⟩)
    · rintro ow en ⟨ks, ds, x4, rfl, rfl, hk1, hk2, hcov, hcov2⟩
      rw [List.length_map] at hk1 hcov2
      rw [List.take_length] at hcov2
      refine sd_stop rfl ⟨_, _, _, _, _, _, _, rfl, rfl, by omega, ho3, by omega, hk2, fun n hn m hm => ?_⟩
      rw [List.take_add_one, hx] at hn
      rcases List.mem_append.mp hn with hn | hn
      · exact hcov n hn m hm
      · have : n = x := by simpa using hn
        rw [this]
        exact hcov2 m hm
  · rintro ow en ⟨oks, ods, ks, ds, x2, x3, x4, rfl, rfl, ho1, ho2, hk1, hk2, hcov⟩
    rw [List.length_map, List.take_length] at hcov
    refine sd_freeze .here (.dT ks ds) (by rw [hM]; simp) (ow2 := [(po, .dK oks (ods.map SV.val)), (p, .ins (He.ga K "Orders") dx kOrd [.val (.tup (zs.map Sd.D.str)), .ptr po, .val (.dT ks ds), .val nn])]) (.cons .same (.cons (.ins (.cons (.inl rfl) (.cons (.inl rfl) (.cons (.inr ⟨rfl, rfl⟩) .same)))) .nil)) .same ?_
    refine sd_freeze .here (.dK oks ods) (by rw [hM]; simp) (ow2 := [(p, .ins (He.ga K "Orders") dx kOrd [.val (.tup (zs.map Sd.D.str)), .val (.dK oks ods), .val (.dT ks ds), .val nn])]) (.cons (.ins (.cons (.inl rfl) (.cons (.inr ⟨rfl, rfl⟩) .same))) .nil) .same ?_
    exact sd_fin Fx (hp ⟨zs, oks, ods, ks, ds, nn, fun n m hn hm => hcov n (hzs.mem_iff.mpr hn) m (hzs.mem_iff.mpr hm)⟩)
end
end Tx

/-! text W18 -/
set_option Elab.async false
set_option linter.all false
set_option maxRecDepth 100000
set_option maxHeartbeats 2000000
/-! W18: between; the first lags. -/
namespace Sd
open PySem PySem.Spec PyProof.Rows L2
section
variable {C : FC} {X : Cx} {ow : Ow} {en : En} {a b c o : Expr} {pos apos cpos : Pos} {s t u : SV} {r : Option SV}
theorem DkAt.isd {K : Fg} {B H : Hp} {σ : L2.St} {v : V} (h : DkAt ow s t r) (S : Sta C K B ow en σ H) (r1 : RpS K B s v) : ∃ a, v = .ref a ∧ IsD H a := by
  cases h with
  | k h e hr =>
    obtain ⟨a, xs, e1, hq, _⟩ := h.at S r1
    exact ⟨a, e1, .inl ⟨_, hq⟩⟩
  | t h e hr =>
    obtain ⟨a, xs, e1, hq, _⟩ := h.at S r1
    exact ⟨a, e1, .inr ⟨_, hq⟩⟩
/-- d.get(k, x) -/
theorem ed_dget2 (hu : X.A.units + 1 < cLine) (ho : EvD C X ow en o s) (he : EvD C X ow en b t) (hf : EvD C X ow en c u) (h : DkAt ow s t r) (m : M2 X o "get" apos b c cpos := by exact ⟨rfl, rfl, rfl, rfl⟩) :
    EvD C X ow en (.Call (.Attribute o "get" apos) [b, c] [] cpos) (r.getD u) :=
  ⟨fun B σ H S Q q => ⟨_, pe_dget2 hu pe_we pe_we pe_we m, ho.run B σ H S _ fun v s1 B1 H1 e1 n1 r1 => by
    subst e1
    obtain ⟨a, ea, hd⟩ := h.isd n1.sta r1
    refine ⟨a, ea, hd, he.run B1 σ H1 n1.sta _ fun y t1 B2 H2 e2 n2 r2 => hf.run B2 σ H2 n2.sta _ fun z u1 B3 H3 e3 n3 r3 => ?_⟩
    subst e2 e3
    obtain ⟨a', ea', hg⟩ := h.get n3.sta ((r1.mono n2.exB).mono n3.exB) (r2.mono n3.exB)
    rw [ea] at ea'
    cases ea'
    cases r with
    | some w =>
      obtain ⟨x, hx, rx⟩ := hg
      exact ⟨_, hx, q _ _ _ _ rfl ((n1.trans n2).trans n3) rx⟩
    | none => exact ⟨_, hg, q _ _ _ _ rfl ((n1.trans n2).trans n3) r3⟩⟩⟩
end
end Sd
namespace Tx
open PySem PySem.Spec PyProof.Rows L2 Sd C8
section
variable {P : Program} {w : World} {K : Fg} {mg : Str → Option Value} {base : Heap}
structure BtIn (K : Fg) where
  L : Ln
  o : OrdD K L
  n : Str
  m : Str
theorem ok_between (T : Txt K mg) : Met P w K mg base 1 (He.ga K "Orders") "between" (Pr K (FX (fun z : BtIn K => [.val (dOrd K z.o), sv z.n, sv z.m]) (fun z => z.n ∈ z.L.timedN ∧ z.m ∈ z.L.timedN) (fun z s => ∃ d, s = .val d ∧ OrdV K z.L z.n z.m d))) [] := by
  obtain ⟨fd, F⟩ := T.f_Orders_between
  refine ⟨_, fd, p_Orders_between, [], T.cls _, T.meth "Orders" "between", fn_pr F sc_Orders_between (by rintro ow ss post ⟨_, L, rfl, _⟩; rfl) fun cdv A outer sh H E C D ow ss post hr hR hM Fn Fx => ?_, bd_Orders_between F, .nil⟩
  obtain ⟨rfl, ⟨L, o, n, m⟩, rfl, ⟨hn, hm⟩, hp⟩ := hR
  obtain ⟨d, hd, hv⟩ := o.cov n m hn hm
  refine sdp_ret Fn (P := (· = .val d)) (ed_dget2 (r := some (.val d)) (hu_of hr) (ep_fld (ed_var 0) (.val _ _ _) (T.cls _) (T.noat "Orders" "found") rfl) (ed_keyT (ks := pK n m) (ea_cons (ed_var 1) (ea_cons (ed_var 2) ea_nil))) (ep_fld (ed_var 0) (.val _ _ _) (T.cls _) (T.noat "Orders" "none") rfl) (.t (k := pK n m) (.val _ _) rfl hd)) fun s e => ⟨[], List.Sublist.refl _, hp _ ⟨d, e, hv⟩⟩
def oN : Option Nat → Sd.D
  | none => .non
  | some k => .int (k : Nat)
/-- f is the first lag from n to m -/
def FirstV (L : Ln) (n m : Str) (f : Option Nat) : Prop := ∃ (wd : Nat) (W : Went L wd n) (st sz : Nat), L.Wide wd ∧ Formed (fgs W.rows W.b W.e 1 m) st sz ∧
  ((((fgs W.rows W.b W.e 1 m).take (st + sz)).any id = false ∧ f = none) ∨ ∃ k : Nat, (trues ((fgs W.rows W.b W.e 1 m).take (st + sz)))[0]? = some k ∧ f = some k)
end
end Tx

/-! text Sd17 -/
set_option Elab.async false
set_option linter.all false
set_option maxRecDepth 100000
set_option maxHeartbeats 2000000
/-! Sd17: a dict of one's own whose keys are tuples, its values anything; walked. -/
namespace Sd
open PySem PySem.Spec PyProof.Rows L2
abbrev GEnt := Sd.D × Addr × V
def GRel (e : GEnt) (x : NestedKey × Addr × Value) : Prop := x.1 = dNK e.1 ∧ x.2.1 = e.2.1 ∧ RelV e.2.2 x.2.2
def gdO (P : Program) (w : World) (a : Addr) (es : List GEnt) : HO := .ext fun h => es.length ≤ sizeLine ∧ (a == sysModules) = false ∧ ∃ xs : List (NestedKey × Addr × Value), Paired GRel es xs ∧
  ∃ o des ep, h.get? a = some o ∧ o.ExactDict ∧ o.data = .dict des ep ∧ des.toList = xs.map (entryOfKey (nestedKind P w)) ∧ (xs.map (·.1)).Nodup
def gF (d : Sd.D) (e : GEnt) : Bool := decide (dNK e.1 = dNK d)
theorem gd_at {d : Sd.D} : ∀ {es : List GEnt} {xs : List (NestedKey × Addr × Value)}, Paired GRel es xs → match es.find? (gF d) with
    | some e => ∃ p, atKey xs (dNK d) = some p ∧ RelV e.2.2 p.2
    | none => atKey xs (dNK d) = none
  | _, _, .nil => rfl
  | e :: es, _, .cons (b := x) r t => by
    have ih := gd_at (d := d) t
    by_cases hk : dNK e.1 = dNK d
    · have h1 : (e :: es).find? (gF d) = some e := by rw [List.find?_cons, gF, decide_eq_true hk]
      rw [h1]
      refine ⟨x.2, ?_, r.2.2⟩
      simp [atKey, r.1, hk]
    · have h1 : (e :: es).find? (gF d) = es.find? (gF d) := by rw [List.find?_cons, gF, decide_eq_false hk]
      rw [h1]
      have h2 : ∀ xs, atKey (x :: xs) (dNK d) = atKey xs (dNK d) := fun xs => by simp [atKey, r.1, hk]
      rw [h2]
      exact ih
def gPutE (d : Sd.D) (v : V) (e : GEnt) : GEnt := if dNK e.1 = dNK d then (e.1, e.2.1, v) else e
def gPut (es : List GEnt) (d : Sd.D) (b : Addr) (v : V) : List GEnt := if (es.find? (gF d)).isSome = true then es.map (gPutE d v) else es ++ [(d, b, v)]
theorem gput_map {d : Sd.D} {v : V} {u : Value} (hv : RelV v u) : ∀ {es : List GEnt} {xs : List (NestedKey × Addr × Value)}, Paired GRel es xs → Paired GRel (es.map (gPutE d v)) (xs.map (putAt (dNK d) u))
  | _, _, .nil => .nil
  | e :: es, _, .cons (b := x) r t => by
    refine .cons ?_ (gput_map hv t)
    unfold gPutE putAt
    by_cases hk : dNK e.1 = dNK d
    · rw [if_pos hk, if_pos (r.1.trans hk)]
      exact ⟨r.1, r.2.1, hv⟩
    · rw [if_neg hk, if_neg fun z => hk (r.1.symm.trans z)]
      exact r
theorem gput_rel {d : Sd.D} {b : Addr} {v : V} {u : Value} (hv : RelV v u) {es : List GEnt} {xs : List (NestedKey × Addr × Value)} (r : Paired GRel es xs) : Paired GRel (gPut es d b v) (storedH xs (dNK d) b u) := by
  have q := gd_at (d := d) r
  unfold gPut
  cases hf : es.find? (gF d) with
  | some e =>
    rw [hf] at q
    obtain ⟨p, hp, _⟩ := q
    rw [storedH_old hp]
    exact gput_map hv r
  | none =>
    rw [hf] at q
    have q : atKey xs (dNK d) = none := q
    rw [storedH_new q]
    exact paired_snoc ⟨rfl, rfl, hv⟩ r
theorem gput_len (es : List GEnt) (d : Sd.D) (b : Addr) (v : V) : (gPut es d b v).length ≤ es.length + 1 := by
  unfold gPut
  split
  · rw [List.length_map]; omega
  · simp
section
variable {P : Program} {w : World} {K : Fg} {H : Hp} {h : Heap} {a : Addr} {es : List GEnt}
theorem gd_ok (hz : es.length ≤ sizeLine) (hsm : (a == sysModules) = false) {xs : List (NestedKey × Addr × Value)} (r : Paired GRel es xs) {o : Obj} {des ep} (h1 : h.get? a = some o) (h2 : o.ExactDict) (h3 : o.data = .dict des ep) (h4 : des.toList = xs.map (entryOfKey (nestedKind P w))) (h5 : (xs.map (·.1)).Nodup) : ObjOk P w H h a (gdO P w a es) := by
  refine ⟨⟨hz, hsm, xs, r, o, des, ep, h1, h2, h3, h4, h5⟩, ⟨_, h1⟩, fun g1 g2 q st => ?_⟩
  obtain ⟨z1, z2, ys, r', o', des', ep', k1, k2, k3, k4, k5⟩ := q
  exact ⟨z1, z2, ys, r', o', des', ep', st _ k1, k2, k3, k4, k5⟩
theorem gd_of (hok : HOk P w H h) (KX : K.In h) (e : Rd H a (gdO P w a es)) (hk : ∀ e ∈ es, WKey K H e.1 e.2.1) : es.length ≤ sizeLine ∧ (a == sysModules) = false ∧ ∃ xs, Paired GRel es xs ∧ h.DictOfH (nestedKind P w) a xs := by
  obtain ⟨⟨z1, z2, xs, r, o, des, ep, k1, k2, k3, k4, k5⟩, _, _⟩ := (show ObjOk P w H h a (gdO P w a es) from e.ok hok)
  refine ⟨z1, z2, xs, r, o, des, ep, k1, k2, k3, k4, fun x hx => ?_, k5⟩
  have all : ∀ {l : List GEnt} {m : List (NestedKey × Addr × Value)}, Paired GRel l m → (∀ e ∈ l, WKey K H e.1 e.2.1) → ∀ x ∈ m, (nestedKind P w).is h x.1 x.2.1 := by
    intro l m q
    induction q with
    | nil => intro _ x hx; exact nomatch hx
    | @cons p q ps qs hq t ih =>
      intro hk x hx
      rcases List.mem_cons.mp hx with e | hx
      · subst e
        obtain ⟨o1, o2, o3⟩ := hk p List.mem_cons_self
        obtain ⟨q1, q2, _⟩ := hq
        refine ⟨?_, by rw [q1]; exact o2⟩
        rw [q1, q2]
        exact nk_is hok KX _ _ _ o1 o3 rfl
      · exact ih (fun e he => hk e (List.mem_cons_of_mem _ he)) x hx
  exact all r hk x hx
end
def GDict (X : Cx) (H : Hp) (a : Addr) (es : List GEnt) : Prop := Rd H a (gdO X.prog X.w a es) ∧ ∀ e ∈ es, WKey X.K H e.1 e.2.1
section
variable {X : Cx} {pins : List (Addr × Obj)} {σ : L2.St} {H : Hp} {s : Shared} {a b : Addr} {es : List GEnt} {d : Sd.D} {A : Around} {E : Value → Shared → Prop}
theorem g_getItem {Q : Value → Shared → Prop} {e : GEnt} (hu : A.units + 9 < cLine) (I : Inv X pins σ H s) (g : GDict X H a es) (hb : WKey X.K H d b) (hf : es.find? (gF d) = some e) (h : ∀ w' s', Inv X pins σ H s' → RelV e.2.2 w' → Q w' s') :
    wpAny (model X.prog X.w) A (getItem (.ref a) (.ref b)) Q E s := by
  obtain ⟨z, hd, xs, rel, dd⟩ := gd_of I.hok I.kIn g.1 g.2
  have q := gd_at (d := d) rel
  rw [hf] at q
  obtain ⟨p, hp, rp⟩ := q
  exact wpAny_getItem_heap (nroom (X := X) hu) (wkey_is I.hok I.kIn hb) dd hp (h _ _ (I.tok _) rp)
theorem g_some {xs : List (NestedKey × Addr × Value)} (rel : Paired GRel es xs) : (atKey xs (dNK d)).isSome = (es.find? (gF d)).isSome := by
  have q := gd_at (d := d) rel
  cases hf : es.find? (gF d) with
  | some e =>
    rw [hf] at q
    obtain ⟨p, hp, _⟩ := q
    rw [hp]
    rfl
  | none =>
    rw [hf] at q
    have q : atKey xs (dNK d) = none := q
    rw [q]
    rfl
theorem g_notin {Q : Value → Shared → Prop} (hu : A.units + 9 < cLine) (I : Inv X pins σ H s) (g : GDict X H a es) (hb : WKey X.K H d b) (h : ∀ s', Inv X pins σ H s' → Q (.bool (!(es.find? (gF d)).isSome)) s') :
    wpAny (model X.prog X.w) A (compareOp .NotIn (.ref b) (.ref a)) Q E s := by
  obtain ⟨z, hd, xs, rel, dd⟩ := gd_of I.hok I.kIn g.1 g.2
  refine wpAny_notIn_heap (nroom (X := X) hu) (wkey_is I.hok I.kIn hb) hd dd ?_
  rw [g_some rel]
  exact h _ (I.tok _)
theorem g_setItem {Q : Unit → Shared → Prop} {v : V} {r : Value} (hu : A.units + 9 < cLine) (I : Inv X pins σ H s) (he : H a = some (gdO X.prog X.w a es)) (hk : ∀ e ∈ es, WKey X.K H e.1 e.2.1) (hb : WKey X.K H d b) (hl : es.length < sizeLine) (rv : RelV v r)
    (h : ∀ s', Inv X pins σ (upd H a (gdO X.prog X.w a (gPut es d b v))) s' → Q () s') : wpAny (model X.prog X.w) A (setItem (.ref a) (.ref b) r) Q E s := by
  obtain ⟨z, hd, xs, rel, dd⟩ := gd_of I.hok I.kIn (.inl he) hk
  have hz : xs.length ≤ sizeLine := by rw [← Paired.length rel]; exact z
  refine wpAny_setItem_heap (hsz := hz) (nroom (X := X) hu) (wkey_is I.hok I.kIn hb) dd fun h' dd' hs => h _ ?_
  obtain ⟨o, des, ep, h1, h2, h3, h4, _, h5⟩ := dd'
  have hl2 := gput_len es d b v
  exact d_write I (by rw [he]; exact True.intro) hs ⟨o, h1⟩ (gd_ok (by omega) hd (gput_rel rv rel) h1 h2 h3 h4 h5)
def tDNewG (X : Cx) : TE := fun _ H Q => ∀ p, H p = none → Q (.ref p) (upd H p (gdO X.prog X.w p []))
theorem pe_dnewG {pos : Pos} : PE X (.Dict [] [] pos) (tDNewG X) := ⟨fun pins s σ H Q I h =>
  wpAny_Dict_empty ⟨.ref s.heap.objs.size, _, I.laid (a := s.heap.objs.size) (o := gdO X.prog X.w s.heap.objs.size []) (t' := s.toks) (fun _ _ q => Heap.get?_push_of_some _ q) (Nat.le_refl _)
    (gd_ok (Nat.zero_le _) (beq_eq_false_iff_ne.mpr (Ne.symm (Nat.ne_of_lt I.big))) .nil (Heap.get?_push_size _ rfl) ⟨rfl, rfl, rfl⟩ rfl rfl List.nodup_nil), rfl, h _ (I.hok.fresh (Nat.le_refl _))⟩⟩
variable {o i : Expr} {pos : Pos} {td ty : TE}
def tGGet (X : Cx) (td ty : TE) : TE := fun σ H Q => td σ H fun x H1 => ty σ H1 fun y H2 => ∃ a b es d e, x = .ref a ∧ y = .ref b ∧ GDict X H2 a es ∧ WKey X.K H2 d b ∧ es.find? (gF d) = some e ∧ Q e.2.2 H2
def tGNotIn (X : Cx) (ty td : TE) : TE := fun σ H Q => ty σ H fun y H1 => td σ H1 fun x H2 => ∃ a b es d, x = .ref a ∧ y = .ref b ∧ GDict X H2 a es ∧ WKey X.K H2 d b ∧ Q (.bl (!(es.find? (gF d)).isSome)) H2
theorem pe_gget (hu : X.A.units + 9 < cLine) (ho : PE X o td) (hi : PE X i ty) (hs : NoSl i) : PE X (.Subscript o i pos) (tGGet X td ty) := by
  refine ⟨fun pins s σ H Q I h => ?_⟩
  refine subD_of PySem.F.slot_dict_getitem.lookup hs (thn (ho.run pins s σ H _ I h) fun u s1 ⟨x, H1, I1, rx, q1⟩ => thn (hi.run pins s1 σ H1 _ I1 q1) fun iv s2 ⟨y, H2, I2, ry, a, b, es, d, e, ex, ey, g, k, hf, q2⟩ => ?_)
  subst ex ey
  obtain rfl : u = Value.ref a := rx
  obtain rfl : iv = Value.ref b := ry
  obtain ⟨_, _, xs, _, dd⟩ := gd_of I2.hok I2.kIn g.1 g.2
  exact ⟨dd.typeIs, g_getItem hu I2 g k hf fun w' s3 I3 rw' => ⟨_, H2, I3, rw', q2⟩⟩
theorem pc_gnotin (hu : X.A.units + 9 < cLine) (hi : PE X i ty) (ho : PE X o td) : PC X .NotIn i o (tGNotIn X ty td) := by
  refine ⟨fun pins s σ H Q I h => ?_⟩
  refine thn (hi.run pins s σ H _ I h) fun iv s1 ⟨y, H1, I1, ry, q1⟩ => thn (ho.run pins s1 σ H1 _ I1 q1) fun u s2 ⟨x, H2, I2, rx, a, b, es, d, ex, ey, g, k, q2⟩ => ?_
  subst ex ey
  obtain rfl : u = Value.ref a := rx
  obtain rfl : iv = Value.ref b := ry
  exact g_notin hu I2 g k fun s3 I3 => ⟨.bl (!(es.find? (gF d)).isSome), H2, I3, rfl, q2⟩
theorem set_gd (hu : X.A.units + 9 < cLine) : PSet X (fun o i v H Q => ∃ a b es d, o = .ref a ∧ i = .ref b ∧ H a = some (gdO X.prog X.w a es) ∧ (∀ e ∈ es, WKey X.K H e.1 e.2.1) ∧ WKey X.K H d b ∧ es.length < sizeLine ∧ Q (upd H a (gdO X.prog X.w a (gPut es d b v)))) := by
  intro pins s σ H o i v ov iv u Q I ro ri rv h
  obtain ⟨a, b, es, d, e1, e2, he, hk, k, hl, q⟩ := h
  subst e1 e2
  obtain rfl : ov = Value.ref a := ro
  obtain rfl : iv = Value.ref b := ri
  exact g_setItem hu I he hk k hl rv fun s' I' => ⟨_, I', q⟩
/-! ### walked, locked -/
theorem Inv_frzG {dd : Addr} {ob : Obj} (I : Inv X pins σ H s) (h : H dd = some (.frz ob (gdO X.prog X.w dd es))) :
    (dd == sysModules) = false ∧ s.heap.get? dd = some ob ∧ ob.ExactDict ∧ ∃ (des : Array DictEntry) (ep : Nat), ob.data = .dict des ep ∧ des.size = es.length ∧
      ∀ (i : Nat) (e : GEnt), es[i]? = some e → ∃ en : DictEntry, des[i]? = some en ∧ en.key = .ref e.2.1 ∧ RelV e.2.2 en.val := by
  obtain ⟨hd, ⟨z1, z2, xs, r, o', des, ep, k1, k2, k3, k4, k5⟩, _, _⟩ := I.hok dd _ h
  rw [hd] at k1
  cases k1
  refine ⟨z2, hd, k2, des, ep, k3, ?_, fun i e he => ?_⟩
  · have l1 : des.size = xs.length := size_of_entries k4
    have l2 : es.length = xs.length := Paired.length r
    omega
  · obtain ⟨x, hx, _, q2, q3⟩ := paired_get r he
    have q := entry_at k4 i
    rw [hx] at q
    exact ⟨_, q, by show Value.ref x.2.1 = _; rw [q2], q3⟩
end
def ItGk (P : Program) (w : World) (dd : Addr) (ob : Obj) (es : List GEnt) : It :=
  ⟨fun i H => H dd = some (.frz ob (gdO P w dd es)) ∧ i < es.length, fun i H x H' => H' = H ∧ ∃ e, es[i]? = some e ∧ x = .ref e.2.1, fun i H => H dd = some (.frz ob (gdO P w dd es)) ∧ es.length ≤ i⟩
def ItGi (P : Program) (w : World) (dd : Addr) (ob : Obj) (es : List GEnt) : It :=
  ⟨fun i H => H dd = some (.frz ob (gdO P w dd es)) ∧ i < es.length, fun i H x H' => ∃ T e, es[i]? = some e ∧ x = .ref T ∧ H T = none ∧ H' = upd H T (.tup [.ref e.2.1, e.2.2]), fun i H => H dd = some (.frz ob (gdO P w dd es)) ∧ es.length ≤ i⟩
section
variable {P : Program} {w : World} {K : PySem.W.Frag} {tg : Expr} {dd : Addr} {ob : Obj} {des : Array DictEntry} {ep : Nat} {es : List GEnt}
theorem turn_keysG (it : Addr) (hod : ob.data = .dict des ep) : Turn P w K tg (ItGk P w dd ob es) [it] it (fun i h => h.IsKeyIter it dd i es.length ep) where
  mem := by simp
  obj := fun i h st b hb => by
    have e : b = it := by simpa using hb
    subst e
    obtain ⟨oi, e, c, d2⟩ := st
    exact ⟨oi, e, fun v z => by rw [d2] at z; cases z⟩
  keep := fun i h h' st k => st.at fun oi e => k it (by simp) oi e
  item := by
    intro X hP hw hK hc i pins s σ H E I hf st hg
    subst hP hw hK
    obtain ⟨hd, hi⟩ := hg
    obtain ⟨f0, f1, f2, f3, f4, f5⟩ := hf it (by simp)
    obtain ⟨hs, hgd, hx, es', ep', hdt, hsz, ent⟩ := Inv_frzG I hd
    obtain ⟨rfl, rfl⟩ := dict_ep hod hdt
    have hkv : es[i]? = some es[i] := List.getElem?_eq_getElem hi
    obtain ⟨en, hen, hkey, _⟩ := ent i _ hkv
    refine next_key_item st hgd hdt hsz hen fun h' st' sb => ?_
    have I1 : Inv X pins σ H { s with heap := h' } := I.turned (t' := s.toks) (fun b ob hb e => (sb.2 b hb).trans e) f0 f1 f3 f4 f5
    obtain ⟨oi, e, c, d2⟩ := id st'
    exact ⟨en.key, rfl, go_of (s := { s with heap := h' }) e c d2 (by decide) ⟨.ref es[i].2.1, H, I1, hkey, ⟨rfl, _, hkv, rfl⟩, st', fun b hb => (hf b hb).1⟩⟩
  done := by
    intro X hP hw hK hc i pins s σ H E I hf st hg
    subst hP hw hK
    obtain ⟨hd, hi⟩ := hg
    obtain ⟨f0, f1, f2, f3, f4, f5⟩ := hf it (by simp)
    obtain ⟨hs, hgd, hx, es', ep', hdt, hsz, ent⟩ := Inv_frzG I hd
    obtain ⟨rfl, rfl⟩ := dict_ep hod hdt
    exact next_key_end (I.ok.hd hc) st hgd hdt hsz hi fun h' eb => ⟨rfl, I.turned (t' := s.toks) (fun b ob hb e => eb b ob hb e) f0 f1 f3 f4 f5⟩
  self := fun A i s Q E st h => by
    refine wpAny_pyIter_slot st.typeIs F.slot_dict_keyiterator_iter (wpAny_call_entry F.slot_dict_keyiterator_iter st.typeIs F.entry_dict_keyiterator_iter ?_ (F.args_dict_keyiterator_iter_1 _))
    show wpAny _ _ (ret (.ref it)) _ _ s
    exact wpAny_pure ⟨_, rfl, "dict_keyiterator", _, st.typeIs, F.slot_dict_keyiterator_next.lookup, h⟩
theorem turn_itemsG {elts : List Expr} {kk : Nat} {tpos : Pos} (it : Addr) (hod : ob.data = .dict des ep) :
    Turn P w K (.Tuple elts kk tpos) (ItGi P w dd ob es) [it] it (fun i h => ∃ ok ov, IsItemIter h it dd i es.length ep ok ov) where
  mem := by simp
  obj := fun i h st b hb => by
    have e : b = it := by simpa using hb
    subst e
    obtain ⟨ok, ov, e⟩ := st
    exact ⟨_, e, fun v z => nomatch z⟩
  keep := fun i h h' st k => let ⟨ok, ov, e⟩ := st; ⟨ok, ov, k it (by simp) _ e⟩
  item := by
    intro X hP hw hK hc i pins s σ H E I hf st hg
    subst hP hw hK
    obtain ⟨hd, hi⟩ := hg
    obtain ⟨hs, hgd, hx, es', ep', hdt, hsz, ent⟩ := Inv_frzG I hd
    obtain ⟨rfl, rfl⟩ := dict_ep hod hdt
    have hkv : es[i]? = some es[i] := List.getElem?_eq_getElem hi
    obtain ⟨en, hen, hkey, ru⟩ := ent i _ hkv
    obtain ⟨hi2, hen2⟩ := Array.getElem?_eq_some_iff.mp hen
    obtain ⟨ok, ov, he⟩ := st
    rw [← hsz] at he
    have hlt : it < s.heap.objs.size := Heap.lt_size he
    refine DT.nextI he ⟨ob, hgd, hx, hdt⟩ hi2 fun h' ho hT hz hk => ?_
    refine ⟨_, rfl, wpAny_letOwnedTupleGo_items (s := { s with heap := h' }) ho fun h'' he' sb => ?_⟩
    have hT2 : h''.get? s.heap.objs.size = some { cls := .type "tuple", data := .seq #[en.key, en.val] } := by
      rw [← hen2]
      exact (sb.2 _ (Nat.ne_of_gt hlt)).trans hT
    have new : ObjOk X.prog X.w (upd H s.heap.objs.size (.tup [.ref es[i].2.1, es[i].2.2])) h'' s.heap.objs.size (.tup [.ref es[i].2.1, es[i].2.2]) :=
      ⟨by show 2 ≤ sizeLine; decide, [en.key, en.val], .cons hkey (.cons ru .nil), ⟨_, hT2, rfl, _, rfl⟩⟩
    have I1 : Inv X pins σ (upd H s.heap.objs.size (.tup [.ref es[i].2.1, es[i].2.2])) { s with heap := h'' } :=
      I.turnedNew (t' := s.toks) (ch := [it]) (fun b ob hb e => (sb.2 b (by simpa using hb)).trans (hk b ob (by simpa using hb) e)) hf (Nat.le_refl _) new
    refine ⟨.ref s.heap.objs.size, _, I1, rfl, ⟨_, _, hkv, rfl, I.hok.fresh (Nat.le_refl _), rfl⟩, ⟨_, _, by rw [← hsz]; exact he'⟩, fun b hb => ?_⟩
    have e : b = it := by simpa using hb
    rw [e, upd_ne (Nat.ne_of_lt hlt)]
    exact (hf it (by simp)).1
  done := by
    intro X hP hw hK hc i pins s σ H E I hf st hg
    subst hP hw hK
    obtain ⟨hd, hi⟩ := hg
    obtain ⟨f0, f1, f2, f3, f4, f5⟩ := hf it (by simp)
    obtain ⟨hs, hgd, hx, es', ep', hdt, hsz, ent⟩ := Inv_frzG I hd
    obtain ⟨rfl, rfl⟩ := dict_ep hod hdt
    obtain ⟨ok, ov, he⟩ := st
    rw [← hsz] at he
    exact DT.endI (I.ok.hd hc) he ⟨ob, hgd, hx, hdt⟩ (by rw [hsz]; exact hi) fun h' eb => ⟨rfl, I.turned (t' := s.toks) (fun b ob hb e => eb b ob hb e) f0 f1 f3 f4 f5⟩
  self := fun A i s Q E st h => let ⟨_, _, e⟩ := st; PySem.W.kcp_self e h
end
def iKeysG (P : Program) (w : World) (td : TE) : TI := fun σ H R => td σ H fun x H1 => ∃ d o es, x = .ref d ∧ H1 d = some (.frz o (gdO P w d es)) ∧ R (ItGk P w d o es) H1
def iItemsG (P : Program) (w : World) (td : TE) : TI := fun σ H R => td σ H fun x H1 => ∃ d o es, x = .ref d ∧ H1 d = some (.frz o (gdO P w d es)) ∧ R (ItGi P w d o es) H1
section
variable {X : Cx} {tg e : Expr} {td : TE} {apos cpos : Pos}
theorem pi_keysG (he : PE X e td) : PI X tg e (iKeysG X.prog X.w td) := by
  refine ⟨fun pins s σ H R I h => ?_⟩
  refine thn (he.run pins s σ H _ I h) fun u s1 ⟨x, H1, I1, rx, d, o, es, ex, hd, q⟩ => ?_
  subst ex
  obtain rfl : u = Value.ref d := rx
  obtain ⟨hs, hgd, hx, des, ep, hdt, hsz, ent⟩ := Inv_frzG I1 hd
  refine iter_keys hs hgd hx hdt (pi_one (tk := s1.toks) I1 _ (turn_keysG _ hdt) ⟨_, Heap.get?_push_size _ rfl, rfl, ?_⟩ q)
  rw [hsz] <;> rfl
theorem pi_itemsG {elts : List Expr} {kk : Nat} {tpos : Pos} (he : PE X e td) (hbase : attributeBase e "items" X.env (eval e X.env) = eval e X.env := by rfl) (hline : (apos.endLine == cpos.line) = true := by rfl) :
    PI X (.Tuple elts kk tpos) (.Call (.Attribute e "items" apos) [] [] cpos) (iItemsG X.prog X.w td) := by
  refine ⟨fun pins s σ H R I h => ?_⟩
  refine wpAny_Call_method (T := "dict") (id := "dict.items") hbase rfl hline F.plainAttrs_dict F.slot_dict_items F.type_dict_items (thn (he.run pins s σ H _ I h) fun u s1 ⟨x, H1, I1, rx, d, o, es, ex, hd, q⟩ => ?_)
  subst ex
  obtain rfl : u = Value.ref d := rx
  obtain ⟨hs, hgd, hx, des, ep, hdt, hsz, ent⟩ := Inv_frzG I1 hd
  have hr : DT.Raw s1.heap d des ep := ⟨o, hgd, hx, hdt⟩
  refine ⟨hr.typeIs, fun b eb => by
    cases eb
    exact ⟨o, hgd, hx.2.1⟩, ?_⟩
  have I2 : Inv X pins σ H1 { s1 with heap := s1.heap.push { cls := .type "dict_items", data := .fields #[.ref d] } } := I1.kept (t' := s1.toks) fun b ob q => Heap.get?_push_of_some _ q
  have fin : wpAny (model X.prog X.w) X.A (pyIter (.ref s1.heap.objs.size)) (PIE X pins σ (.Tuple elts kk tpos) R) X.xe { s1 with heap := s1.heap.push { cls := .type "dict_items", data := .fields #[.ref d] } } := by
    refine DT.iterI (d := d) (es := des) (ep := ep) ⟨_, Heap.get?_push_size _ rfl, rfl, rfl⟩ (hr.push _) (pi_one (tk := s1.toks) I2 _ (turn_itemsG _ hdt) ⟨.none, .none, ?_⟩ q)
    rw [← hsz]
    exact Heap.get?_push_size _ rfl
  show wpAny _ _ (callWith cpos (.builtin "dict.items") [.ref d] [] []) _ X.xe s1
  exact method_meetsIn F.slot_dict_items F.entry_dict_items rfl (PySem.evalArgs_none ⟨rfl, hr.typeIs, F.args_dict_items_1 _, _, DT.meetsItems (es := des) (ep := ep) hs, hr, fin⟩)
end
end Sd

/-! text Sd18 -/
set_option Elab.async false
set_option linter.all false
set_option maxRecDepth 100000
set_option maxHeartbeats 2000000
/-! Sd18: the dict of Sd17 by data: one's own, locked, read, stored, walked. -/
namespace Sd
open PySem PySem.Spec PyProof.Rows L2
def gHas (ks : List Sd.D) (d : Sd.D) : Bool := ks.any fun k => decide (dNK k = dNK d)
def gAt : List Sd.D → List Sd.D → Sd.D → Option Sd.D
  | k :: ks, z :: ds, d => if dNK k = dNK d then some z else gAt ks ds d
  | _, _, _ => none
def gKs (ks : List Sd.D) (d : Sd.D) : List Sd.D := if gHas ks d = true then ks else ks ++ [d]
def gRep : List Sd.D → List Sd.D → Sd.D → Sd.D → List Sd.D
  | k :: ks, z :: ds, d, y => (if dNK k = dNK d then y else z) :: gRep ks ds d y
  | _, _, _, _ => []
def gDs (ks ds : List Sd.D) (d y : Sd.D) : List Sd.D := if gHas ks d = true then gRep ks ds d y else ds ++ [y]
/-- what is known of the entries -/
structure GFac (K : Fg) (B : Hp) (es : List GEnt) (ks ds : List Sd.D) : Prop where
  ks : es.map (·.1) = ks
  key : ∀ e ∈ es, WKey K B e.1 e.2.1
  val : RpL K B ds (es.map (·.2.2))
theorem GFac.mono {K : Fg} {B B' : Hp} {es : List GEnt} {ks ds : List Sd.D} (x : Ex B B') (h : GFac K B es ks ds) : GFac K B' es ks ds := ⟨h.ks, fun e he => (h.key e he).mono x, h.val.mono x⟩
theorem g_look {K : Fg} {B : Hp} {d : Sd.D} : ∀ {es : List GEnt} {ds : List Sd.D}, RpL K B ds (es.map (·.2.2)) → match es.find? (gF d) with
    | some e => ∃ z, gAt (es.map (·.1)) ds d = some z ∧ Rp K B z e.2.2
    | none => gAt (es.map (·.1)) ds d = none
  | [], ds, _ => by cases ds <;> rfl
  | e :: es, ds, h => by
    cases ds with
    | nil => simp only [RpL, List.map_cons] at h; cases h
    | cons z ds =>
      simp only [RpL, List.map_cons] at h
      obtain ⟨y, ys, e1, r1, r2⟩ := h
      cases e1
      by_cases hk : dNK e.1 = dNK d
      · have h1 : (e :: es).find? (gF d) = some e := by rw [List.find?_cons, gF, decide_eq_true hk]
        rw [h1, List.map_cons, gAt, if_pos hk]
        exact ⟨z, rfl, r1⟩
      · have h1 : (e :: es).find? (gF d) = es.find? (gF d) := by rw [List.find?_cons, gF, decide_eq_false hk]
        rw [h1, List.map_cons, gAt, if_neg hk]
        exact g_look r2
theorem g_has {es : List GEnt} {d : Sd.D} : gHas (es.map (·.1)) d = (es.find? (gF d)).isSome := by
  induction es with
  | nil => rfl
  | cons e es ih =>
    unfold gHas at ih ⊢
    rw [List.map_cons, List.any_cons, ih, List.find?_cons]
    unfold gF
    by_cases hk : dNK e.1 = dNK d
    · simp [hk]
    · simp [hk]
theorem gAt_has : ∀ {ks ds : List Sd.D} {d : Sd.D}, ks.length = ds.length → (gAt ks ds d).isSome = gHas ks d
  | [], [], _, _ => rfl
  | [], _ :: _, _, h => by simp at h
  | _ :: _, [], _, h => by simp at h
  | k :: ks, z :: ds, d, h => by
    have ih := gAt_has (ks := ks) (ds := ds) (d := d) (by simpa using h)
    rw [gAt, gHas, List.any_cons]
    by_cases e : dNK k = dNK d
    · rw [if_pos e]; simp [e]
    · rw [if_neg e, ih]; simp [e, gHas]
theorem g_rep {K : Fg} {B : Hp} {d y : Sd.D} {v : V} (hv : Rp K B y v) : ∀ {es : List GEnt} {ds : List Sd.D}, RpL K B ds (es.map (·.2.2)) → RpL K B (gRep (es.map (·.1)) ds d y) ((es.map (gPutE d v)).map (·.2.2)) ∧ (es.map (gPutE d v)).map (·.1) = es.map (·.1)
  | [], ds, _ => by
    refine ⟨?_, rfl⟩
    cases ds <;> exact RpL.nil
  | e :: es, ds, h => by
    cases ds with
    | nil => simp only [RpL, List.map_cons] at h; cases h
    | cons z ds =>
      simp only [RpL, List.map_cons] at h
      obtain ⟨y', ys, e1, r1, r2⟩ := h
      cases e1
      obtain ⟨i1, i2⟩ := g_rep (d := d) (y := y) hv r2
      simp only [List.map_cons, gRep]
      by_cases hk : dNK e.1 = dNK d
      · have e0 : gPutE d v e = (e.1, e.2.1, v) := if_pos hk
        rw [if_pos hk, e0]
        exact ⟨RpL.cons hv i1, congrArg (e.1 :: ·) i2⟩
      · have e0 : gPutE d v e = e := if_neg hk
        rw [if_neg hk, e0]
        exact ⟨RpL.cons r1 i1, congrArg (e.1 :: ·) i2⟩
theorem GFac.put {K : Fg} {B : Hp} {es : List GEnt} {ks ds : List Sd.D} {d y : Sd.D} {b : Addr} {v : V} (h : GFac K B es ks ds) (hb : WKey K B d b) (hv : Rp K B y v) : GFac K B (gPut es d b v) (gKs ks d) (gDs ks ds d y) := by
  obtain ⟨rfl, hk, hl⟩ := h
  unfold gPut gKs gDs
  rw [g_has]
  by_cases hf : (es.find? (gF d)).isSome = true
  · rw [if_pos hf, if_pos hf, if_pos hf]
    obtain ⟨i1, i2⟩ := g_rep (d := d) (y := y) hv hl
    refine ⟨i2, fun e he => ?_, i1⟩
    obtain ⟨e0, h0, rfl⟩ := List.mem_map.mp he
    have := hk e0 h0
    unfold gPutE
    split <;> exact this
  · rw [if_neg hf, if_neg hf, if_neg hf]
    refine ⟨by simp, fun e he => ?_, by rw [List.map_append]; exact hl.append (RpL.cons hv RpL.nil)⟩
    rcases List.mem_append.mp he with he | he
    · exact hk e he
    · rw [List.mem_singleton.mp he]
      exact hb
/-- one's own; locked -/
def gdC (P : Program) (w : World) (K : Fg) (a : Addr) (ks ds : List Sd.D) : OC := .mon (fun B o => ∃ es, o = gdO P w a es ∧ GFac K B es ks ds) fun _ _ _ x ⟨es, h1, h2⟩ => ⟨es, h1, h2.mono x⟩
def gdL (P : Program) (w : World) (K : Fg) (a : Addr) (od : Obj) (es : List GEnt) (ks ds : List Sd.D) : OC := .mon (fun B o => o = .frz od (gdO P w a es) ∧ GFac K B es ks ds) fun _ _ _ x ⟨h1, h2⟩ => ⟨h1, h2.mono x⟩
inductive GOf (X : Cx) (ow : Ow) (p : Addr) (ks ds : List Sd.D) : Prop where
  | own (h : (p, gdC X.prog X.w X.K p ks ds) ∈ ow)
  | lck (od : Obj) (es : List GEnt) (h : (p, gdL X.prog X.w X.K p od es ks ds) ∈ ow)
section
variable {C : FC} {X : Cx} {ow ow' : Ow} {en : En} {a b o : Expr} {pos apos cpos : Pos} {p : Addr} {ks ds : List Sd.D} {d : Sd.D} {dl : List Sd.D} {Q' : SV → Ow → Prop} {Kk : Ow → En → Prop} {st : List Stmt} {D : Ends}
theorem GOf.at {B : Hp} {σ : L2.St} {H : Hp} (h : GOf X ow p ks ds) (S : Sta C X.K B ow en σ H) : ∃ es, GDict X H p es ∧ GFac X.K B es ks ds := by
  cases h with
  | own h =>
    obtain ⟨_, _, o, h1, es, h2, h3⟩ := S.own _ h
    subst h2
    exact ⟨es, ⟨.inl h1, fun e he => (h3.key e he).mono S.sub⟩, h3⟩
  | lck od es h =>
    obtain ⟨_, _, o, h1, h2, h3⟩ := S.own _ h
    subst h2
    exact ⟨es, ⟨.inr ⟨od, h1⟩, fun e he => (h3.key e he).mono S.sub⟩, h3⟩
/-- {} -/
theorem em_gd (h : ∀ p, Q' (.ptr p) ((p, gdC X.prog X.w X.K p [] []) :: ow)) : EvM C X ow en (.Dict [] [] pos) Q' :=
  ⟨fun B σ H S Q q => ⟨_, pe_dnewG, fun p hp => q _ _ _ B _ (h p) (S.hold hp (oc := gdC X.prog X.w X.K p [] []) ⟨_, upd_same, [], rfl, rfl, (fun _ z => nomatch z), RpL.nil⟩) rfl⟩⟩
theorem rp_tup_ref {K : Fg} {B : Hp} {v : V} (r : Rp K B (.tup dl) v) : ∃ b, v = .ref b := by
  simp only [Rp] at r
  obtain ⟨b, _, e, _⟩ := r
  exact ⟨b, e⟩
/-- d[k] -/
theorem ed_gget (hu : X.A.units + 9 < cLine) {z : Sd.D} (ha : EvD C X ow en a (.ptr p)) (hb : EvD C X ow en b (.val (.tup dl))) (hm : GOf X ow p ks ds) (hk : dOk (.tup dl) = true) (hd : (dNK (.tup dl)).depth ≤ 8) (hat : gAt ks ds (.tup dl) = some z) (hs : NoSl b := by intro _ _; rfl) : EvD C X ow en (.Subscript a b pos) (.val z) :=
  ⟨fun B σ H S Q q => ⟨_, pe_gget hu pe_we pe_we hs, ev_bin ha hb S fun v u x y B' H' px py nx r1 r2 => by
    subst px py
    obtain ⟨es, g, f⟩ := hm.at nx.sta
    have r2' : Rp X.K B' (.tup dl) u := r2
    obtain ⟨bb, eb⟩ := rp_tup_ref r2'
    subst eb
    have q1 := g_look (d := .tup dl) f.val
    cases hf : es.find? (gF (.tup dl)) with
    | none =>
      rw [hf] at q1
      have q1 : gAt (es.map (·.1)) ds (.tup dl) = none := q1
      rw [f.ks, hat] at q1
      cases q1
    | some e =>
      rw [hf] at q1
      obtain ⟨z', hz, rz⟩ := q1
      rw [f.ks, hat] at hz
      cases hz
      exact ⟨p, bb, es, .tup dl, e, rs_ptr.mp r1, rfl, g, ⟨hk, hd, r2'.mono nx.sta.sub⟩, hf, q _ _ B' H' rfl nx rz⟩⟩⟩
/-- k not in d -/
theorem et_gnotin (hu : X.A.units + 9 < cLine) (hb : EvD C X ow en b (.val (.tup dl))) (ha : EvD C X ow en a (.ptr p)) (hm : GOf X ow p ks ds) (hk : dOk (.tup dl) = true) (hd : (dNK (.tup dl)).depth ≤ 8) (hmk : behindInMarks .NotIn a = false := by first | exact nomark _ | rfl) : EvT C X ow en (.Compare b [.NotIn] [a] pos) (!gHas ks (.tup dl)) :=
  ⟨fun B σ H S Q q => ⟨_, pt_cmp (pc_gnotin hu pe_we pe_we) hmk, ev_bin hb ha S fun v u x y B' H' px py n r1 r2 => by
    subst px py
    obtain ⟨es, g, f⟩ := hm.at n.sta
    have r1' : Rp X.K B' (.tup dl) v := r1
    obtain ⟨bb, eb⟩ := rp_tup_ref r1'
    subst eb
    refine ⟨p, bb, es, .tup dl, rs_ptr.mp r2, rfl, g, ⟨hk, hd, r1'.mono n.sta.sub⟩, _, rfl, ?_⟩
    have e2 : gHas ks (.tup dl) = (es.find? (gF (.tup dl))).isSome := by rw [← f.ks, g_has]
    rw [← e2]
    exact q _ B' H' rfl n⟩⟩
/-- d[k] = v -/
theorem tgm_gd (hu : X.A.units + 9 < cLine) {y : Sd.D} (ho : EvD C X ow en o (.ptr p)) (hi : EvD C X ow en b (.val (.tup dl))) (hk : dOk (.tup dl) = true) (hd : (dNK (.tup dl)).depth ≤ 8) (hl : ks.length < sizeLine)
    (hput : Put p (gdC X.prog X.w X.K p ks ds) (gdC X.prog X.w X.K p (gKs ks (.tup dl)) (gDs ks ds (.tup dl) y)) ow ow') (h : Kk ow' en)
    (ha : ∀ v, assign (.Subscript o b pos) X.env v = (do
      let ov ← holding [v] (eval o X.env)
      let iv ← holding [v, ov] (eval b X.env)
      standAt pos
      holding [v, ov, iv] (setItem ov iv v)
      release [v, ov, iv] []) := by intro _; rfl) : TgM C X ow en (.Subscript o b pos) (.val y) Kk :=
  ⟨fun B σ H v S r Q q => ⟨_, pg_sub pe_we pe_we (set_gd hu) ha, ho.run B σ H S _ fun w t B' H' e n1 rv => hi.run B' σ H' n1.sta _ fun w2 t2 B2 H2 e2 n2 rv2 => by
    subst e e2
    obtain ⟨_, _, o', h1, es, h2, h3⟩ := n2.sta.own _ hput.mem
    subst h2
    have r2' : Rp X.K B2 (.tup dl) w2 := rv2
    obtain ⟨bb, eb⟩ := rp_tup_ref r2'
    subst eb
    have hel : es.length < sizeLine := by rw [← h3.ks, List.length_map] at hl; exact hl
    have ry : Rp X.K B2 y v := (show Rp X.K B y v from r).mono (n1.exB.trans n2.exB)
    exact ⟨p, bb, es, .tup dl, rs_ptr.mp rv, rfl, h1, fun e he => (h3.key e he).mono n2.sta.sub, ⟨hk, hd, r2'.mono n2.sta.sub⟩, hel, q _ _ _ _ _ h (n2.sta.write hput ⟨_, upd_same, _, rfl, h3.put ⟨hk, hd, r2'⟩ ry⟩) (n1.exB.trans n2.exB)⟩⟩⟩
/-- locked for good -/
def tLk (t : TS) : TS := fun D σ H => ∃ d u, H d = some u ∧ Mut (some u) ∧ ∀ od, t D σ (upd H d (.frz od u))
theorem pss_lk {t : TS} (h : PSs X st t) : PSs X st (tLk t) := ⟨fun pins s σ H D I hw => by
  obtain ⟨d, u, hd, mu, hw⟩ := hw
  obtain ⟨od, I1⟩ := I.lock hd mu
  exact h.run pins s σ _ D I1 (hw od)⟩
theorem sd_lock (hmem : (p, gdC X.prog X.w X.K p ks ds) ∈ ow) (k : ∀ od es, es.length = ks.length → ∃ ow', Put p (gdC X.prog X.w X.K p ks ds) (gdL X.prog X.w X.K p od es ks ds) ow ow' ∧ SD C X ow' en st D) : SD C X ow en st D := ⟨fun B σ H S => by
  obtain ⟨_, _, o', h1, es, h2, h3⟩ := S.own _ hmem
  subst h2
  refine ⟨_, pss_lk pss_ws, p, _, h1, True.intro, fun od => ?_⟩
  obtain ⟨ow', hput, hk⟩ := k od es (by rw [← h3.ks, List.length_map])
  exact hk.run B σ _ (S.write hput ⟨_, upd_same, rfl, h3⟩)⟩
variable {tg : Expr}
/-- for k in d -/
theorem ei_gkeys {od : Obj} {es : List GEnt} (h : EvD C X ow en a (.ptr p)) (hm : (p, gdL X.prog X.w X.K p od es ks ds) ∈ ow) : EvI C X ow en tg a [(p, gdL X.prog X.w X.K p od es ks ds)] ks.length (fun i s => ∃ k, ks[i]? = some k ∧ s = .val k) :=
  ⟨fun B σ H S R q => ⟨_, pi_keysG pe_we, h.run B σ H S _ fun v s B' H' e1 n r => by
    subst e1
    obtain rfl := rs_ptr.mp r
    obtain ⟨_, _, o', h1, h2, h3⟩ := n.sta.own _ hm
    subst h2
    have hlen : es.length = ks.length := by rw [← h3.ks, List.length_map]
    refine ⟨p, od, es, rfl, h1, q _ [] B' H' n (fun z hz => by cases hz) fun B2 H2 hg sub hn => ?_⟩
    obtain ⟨o2, g1, g2, g3⟩ := hn _ (List.mem_singleton.mpr rfl)
    subst g2
    refine ⟨fun i hi => ⟨⟨g1, by omega⟩, fun x' H' y => ?_⟩, g1, by omega⟩
    obtain ⟨eH, e, he, ex⟩ := y
    subst eH ex
    refine ⟨.val e.1, B2, ⟨e.1, ?_, rfl⟩, Grow.refl sub, (g3.key e (List.mem_of_getElem? he)).2.2⟩
    rw [← g3.ks, List.getElem?_map, he]
    rfl⟩⟩
/-- for k, v in d.items() -/
theorem ei_gitems {elts : List Expr} {kk : Nat} {tpos : Pos} {od : Obj} {es : List GEnt} (h : EvD C X ow en a (.ptr p)) (hm : (p, gdL X.prog X.w X.K p od es ks ds) ∈ ow) (hbase : attributeBase a "items" X.env (eval a X.env) = eval a X.env := by rfl) (hline : (apos.endLine == cpos.line) = true := by rfl) :
    EvI C X ow en (.Tuple elts kk tpos) (.Call (.Attribute a "items" apos) [] [] cpos) [(p, gdL X.prog X.w X.K p od es ks ds)] ks.length (fun i s => ∃ k z, ks[i]? = some k ∧ ds[i]? = some z ∧ s = .val (.tup [k, z])) :=
  ⟨fun B σ H S R q => ⟨_, pi_itemsG pe_we hbase hline, h.run B σ H S _ fun v s B' H' e1 n r => by
    subst e1
    obtain rfl := rs_ptr.mp r
    obtain ⟨_, _, o', h1, h2, h3⟩ := n.sta.own _ hm
    subst h2
    have hlen : es.length = ks.length := by rw [← h3.ks, List.length_map]
    refine ⟨p, od, es, rfl, h1, q _ [] B' H' n (fun z hz => by cases hz) fun B2 H2 hg sub hn => ?_⟩
    obtain ⟨o2, g1, g2, g3⟩ := hn _ (List.mem_singleton.mpr rfl)
    subst g2
    refine ⟨fun i hi => ⟨⟨g1, by omega⟩, fun x' H' y => ?_⟩, g1, by omega⟩
    obtain ⟨T, e, he, ex, hT, eH⟩ := y
    subst eH ex
    obtain ⟨z, hz, rz⟩ := g3.val.get' (i := i) (v := e.2.2) (by rw [List.getElem?_map, he]; rfl)
    have hb : B2 T = none := by
      cases q : B2 T with
      | none => rfl
      | some u =>
        rw [sub T u q] at hT
        cases hT
    have eB : Ex B2 (upd B2 T (.tup [.ref e.2.1, e.2.2])) := fun x u h => by
      rw [upd_ne (ne_of_none h hb)]
      exact h
    refine ⟨.val (.tup [e.1, z]), upd B2 T (.tup [.ref e.2.1, e.2.2]), ⟨e.1, z, ?_, hz, rfl⟩, ⟨eB, fun x u h => ?_, fun x u h => ?_, fun x hx => ?_⟩, ?_⟩
    · rw [← g3.ks, List.getElem?_map, he]
      rfl
    · rw [upd_ne (ne_of_none h hT)]
      exact h
    · by_cases e0 : x = T
      · subst e0
        rw [upd_same] at h ⊢
        exact h
      · rw [upd_ne e0] at h ⊢
        exact sub x u h
    · by_cases e0 : x = T
      · subst e0
        exact .inr hT
      · rw [upd_ne e0] at hx
        exact .inl hx
    · show Rp X.K _ (.tup [e.1, z]) (.ref T)
      simp only [Rp]
      exact ⟨T, _, rfl, SqT.of upd_same, RpL.cons ((g3.key e (List.mem_of_getElem? he)).2.2.mono eB) (RpL.cons (rz.mono eB) RpL.nil)⟩⟩⟩
end
end Sd

/-! text Sd19 -/
set_option Elab.async false
set_option linter.all false
set_option maxRecDepth 100000
set_option maxHeartbeats 2000000
/-! Sd19: {k: v}, k a tuple. -/
namespace Sd
open PySem PySem.Spec PyProof.Rows L2
section
variable {X : Cx} {k v : Expr} {pos : Pos} {tk tv : TE}
def tDispG (X : Cx) (tk tv : TE) : TE := fun σ H Q => ∀ p, H p = none → tk σ (upd H p (gdO X.prog X.w p [])) fun y H1 => tv σ H1 fun z H2 => ∃ b d, y = .ref b ∧ H2 p = some (gdO X.prog X.w p []) ∧ WKey X.K H2 d b ∧ Q (.ref p) (upd H2 p (gdO X.prog X.w p [(d, b, z)]))
theorem pe_dispG (hu : X.A.units + 9 < cLine) (hk : PE X k tk) (hv : PE X v tv) : PE X (.Dict [some k] [v] pos) (tDispG X tk tv) := by
  refine ⟨fun pins s σ H Q I q => ?_⟩
  have hn := I.hok.fresh (Nat.le_refl s.heap.objs.size)
  have hsm : (s.heap.objs.size == sysModules) = false := beq_eq_false_iff_ne.mpr (Ne.symm (Nat.ne_of_lt I.big))
  have I1 := I.laid (a := s.heap.objs.size) (o := gdO X.prog X.w s.heap.objs.size []) (h' := s.heap.push { cls := .type "dict", data := .dict #[] }) (t' := s.toks) (fun _ _ q => Heap.get?_push_of_some _ q) (Nat.le_refl _)
    (gd_ok (Nat.zero_le _) hsm .nil (Heap.get?_push_size _ rfl) ⟨rfl, rfl, rfl⟩ rfl rfl List.nodup_nil)
  have hr : (nestedKind X.prog X.w).room X.A := by
    show X.A.units + 8 < cLine
    omega
  rw [arm_eval_Dict, zip_pairTrees [some k] [v] X.env pos rfl rfl, dictDisplay_pairs _ (by simp [pairTrees]) (by simp [pairTrees])]
  refine wpAny_bind (wpAny_standAt (wpAny_bind (wpAny_subDictH (knd := nestedKind X.prog X.w) hr (by simp [pairTrees]) ?_)))
  refine pairTrees_cons_walk (thn (hk.run pins _ σ _ _ I1 (q _ hn)) fun u s1 ⟨y, H1, I2, ry, q1⟩ => thn (hv.run pins s1 σ H1 _ I2 q1) fun w2 s2 ⟨z, H2, I3, rz, b, d, ey, hp, hkey, q2⟩ => pairTrees_nil_walk ?_)
  subst ey
  obtain rfl : u = Value.ref b := ry
  obtain ⟨_, _, xs, rel, dd⟩ := gd_of I3.hok I3.kIn (.inl hp) (fun _ z => nomatch z)
  cases rel
  refine ⟨[(dNK d, b, w2)], ⟨rfl, rfl, wkey_is I3.hok I3.kIn hkey, trivial⟩, dd, fun h' tk' dd' hs => wpAny_pure ?_⟩
  have e9 : storedAllH [] [(dNK d, b, w2)] = [(dNK d, b, w2)] := by simp [storedAllH, storedH, atKey]
  rw [e9] at dd'
  obtain ⟨o, des, ep, h1, h2, h3, h4, _, h5⟩ := dd'
  exact ⟨.ref s.heap.objs.size, _, d_write I3 (by rw [hp]; exact True.intro) hs ⟨o, h1⟩ (gd_ok (by rw [sizeLine_eq]; simp) hsm (.cons ⟨rfl, rfl, rz⟩ .nil) h1 h2 h3 h4 h5), rfl, q2⟩
end
section
variable {C : FC} {X : Cx} {ow : Ow} {en : En} {a b : Expr} {pos : Pos} {dl : List Sd.D} {Q' : SV → Ow → Prop}
/-- {k: v} -/
theorem em_gd1 (hu : X.A.units + 9 < cLine) {z : Sd.D} (ha : EvD C X ow en a (.val (.tup dl))) (hb : EvD C X ow en b (.val z)) (hk : dOk (.tup dl) = true) (hd : (dNK (.tup dl)).depth ≤ 8) (h : ∀ p, Q' (.ptr p) ((p, gdC X.prog X.w X.K p [.tup dl] [z]) :: ow)) : EvM C X ow en (.Dict [some a] [b] pos) Q' :=
  ⟨fun B σ H S Q q => ⟨_, pe_dispG hu pe_we pe_we, fun p hp => by
    have S0 : Sta C X.K B ((p, gdC X.prog X.w X.K p [] []) :: ow) en σ (upd H p (gdO X.prog X.w p [])) := S.hold hp ⟨_, upd_same, [], rfl, rfl, (fun _ z => nomatch z), RpL.nil⟩
    refine ha.more.run B σ _ S0 _ fun v s1 B1 H1 e1 n1 r1 => hb.more.run B1 σ H1 n1.sta _ fun w s2 B2 H2 e2 n2 r2 => ?_
    subst e1 e2
    have r1' : Rp X.K B2 (.tup dl) v := (show Rp X.K B1 (.tup dl) v from r1).mono n2.exB
    obtain ⟨bb, eb⟩ := rp_tup_ref r1'
    subst eb
    obtain ⟨_, _, o', h1, es, h2, h3⟩ := n2.sta.own _ List.mem_cons_self
    subst h2
    have he : es = [] := by
      have := h3.ks
      cases es with
      | nil => rfl
      | cons _ _ => cases this
    subst he
    exact ⟨bb, .tup dl, rfl, h1, ⟨hk, hd, r1'.mono n2.sta.sub⟩, q _ _ _ B2 _ (h p) (n2.sta.write .here ⟨_, upd_same, _, rfl, rfl, (fun e he => by rw [List.mem_singleton.mp he]; exact ⟨hk, hd, r1'⟩), RpL.cons r2 RpL.nil⟩) rfl⟩⟩⟩
end
end Sd

/-! text M1 -/
set_option Elab.async false
set_option linter.all false
set_option maxRecDepth 100000
set_option maxHeartbeats 2000000
/-! M1: what an exchange costs, in plain words. -/
namespace Tx
open PySem
/-- the lags of names exchanged for mates, added -/
def tot (F : Str → Str → Option Nat) : List Str → List Str → Option Nat
  | [], [] => some 0
  | n :: ns, m :: ms => match F n m, tot F ns ms with
    | some a, some b => some (a + b)
    | _, _ => none
  | _, _ => none
theorem tot_len {F : Str → Str → Option Nat} : ∀ {ns ms : List Str} {c : Nat}, tot F ns ms = some c → ns.length = ms.length
  | [], [], _, _ => rfl
  | [], _ :: _, _, h => by cases h
  | _ :: _, [], _, h => by cases h
  | n :: ns, m :: ms, c, h => by
    unfold tot at h
    cases h1 : F n m with
    | none => rw [h1] at h; cases h
    | some a =>
      cases h2 : tot F ns ms with
      | none => rw [h1, h2] at h; cases h
      | some b => rw [List.length_cons, List.length_cons, tot_len h2]
theorem tot_cons {F : Str → Str → Option Nat} {n m : Str} {ns ms : List Str} {c : Nat} : tot F (n :: ns) (m :: ms) = some c ↔ ∃ a b, F n m = some a ∧ tot F ns ms = some b ∧ c = a + b := by
  constructor
  · intro h
    unfold tot at h
    cases h1 : F n m with
    | none => rw [h1] at h; cases h
    | some a =>
      cases h2 : tot F ns ms with
      | none => rw [h1, h2] at h; cases h
      | some b =>
        rw [h1, h2] at h
        simp only [Option.some.injEq] at h
        exact ⟨a, b, rfl, rfl, h.symm⟩
  · rintro ⟨a, b, h1, h2, rfl⟩
    unfold tot
    rw [h1, h2]
theorem tot_snoc {F : Str → Str → Option Nat} {n m : Str} : ∀ {ns ms : List Str} {c : Nat}, tot F (ns ++ [n]) (ms ++ [m]) = some c ↔ ∃ a b, tot F ns ms = some a ∧ F n m = some b ∧ c = a + b
  | [], [], c => by
    show tot F (n :: []) (m :: []) = some c ↔ _
    rw [tot_cons]
    constructor
    · rintro ⟨a, b, h1, h2, rfl⟩
      cases h2
      exact ⟨0, a, rfl, h1, by omega⟩
    · rintro ⟨a, b, h1, h2, rfl⟩
      cases h1
      exact ⟨b, 0, h2, rfl, by omega⟩
  | [], m1 :: ms, c => by
    constructor
    · intro h
      have := tot_len h
      simp at this
    · rintro ⟨a, b, h1, _⟩
      cases h1
  | n1 :: ns, [], c => by
    constructor
    · intro h
      have := tot_len h
      simp at this
    · rintro ⟨a, b, h1, _⟩
      cases h1
  | n1 :: ns, m1 :: ms, c => by
    rw [List.cons_append, List.cons_append, tot_cons]
    constructor
    · rintro ⟨a, b, h1, h2, rfl⟩
      obtain ⟨a2, b2, h3, h4, rfl⟩ := tot_snoc.mp h2
      exact ⟨a + a2, b2, tot_cons.mpr ⟨a, a2, h1, h3, rfl⟩, h4, by omega⟩
    · rintro ⟨a, b, h1, h2, rfl⟩
      obtain ⟨a2, b2, h3, h4, rfl⟩ := tot_cons.mp h1
      exact ⟨a2, b2 + b, h3, tot_snoc.mpr ⟨b2, b, h4, h2, rfl⟩, by omega⟩
theorem tot_same {F : Str → Str → Option Nat} : ∀ {ns : List Str}, (∀ n ∈ ns, ∃ a, F n n = some a) → ∃ c, tot F ns ns = some c
  | [], _ => ⟨0, rfl⟩
  | n :: ns, h => by
    obtain ⟨a, ha⟩ := h n List.mem_cons_self
    obtain ⟨b, hb⟩ := tot_same fun x hx => h x (List.mem_cons_of_mem _ hx)
    exact ⟨a + b, tot_cons.mpr ⟨a, b, ha, hb, rfl⟩⟩
/-- ms is the dearest to save: an exchange of ns, the least -/
structure Least (F : Str → Str → Option Nat) (ns ms : List Str) (c : Nat) : Prop where
  perm : ms.Perm ns
  cost : tot F ns ms = some c
  least : ∀ ms' c', ms'.Perm ns → tot F ns ms' = some c' → c ≤ c'
end Tx

/-! text M2 -/
set_option Elab.async false
set_option linter.all false
set_option maxRecDepth 100000
set_option maxHeartbeats 2000000
/-! M2: the table of cheapest ways, in plain words. -/
namespace Sd
open PySem
theorem gAt_mem : ∀ {ks ds : List Sd.D} {d z : Sd.D}, gAt ks ds d = some z → ∃ k, (k, z) ∈ ks.zip ds ∧ dNK k = dNK d
  | [], _, _, _, h => by simp [gAt] at h
  | _ :: _, [], _, _, h => by simp [gAt] at h
  | k :: ks, y :: ds, d, z, h => by
    rw [gAt] at h
    by_cases e : dNK k = dNK d
    · rw [if_pos e] at h
      cases h
      exact ⟨k, by rw [List.zip_cons_cons]; exact List.mem_cons_self, e⟩
    · rw [if_neg e] at h
      obtain ⟨k2, h1, h2⟩ := gAt_mem h
      exact ⟨k2, by rw [List.zip_cons_cons]; exact List.mem_cons_of_mem _ h1, h2⟩
theorem gRep_at {d y : Sd.D} : ∀ {ks ds : List Sd.D} {j : Sd.D}, ks.length = ds.length → gAt ks (gRep ks ds d y) j = if gHas ks j = true then (if dNK j = dNK d then some y else gAt ks ds j) else none
  | [], [], j, _ => rfl
  | [], _ :: _, _, h => by simp at h
  | _ :: _, [], _, h => by simp at h
  | k :: ks, z :: ds, j, h => by
    have ih := gRep_at (d := d) (y := y) (ks := ks) (ds := ds) (j := j) (by simpa using h)
    rw [gRep, gAt, gAt]
    by_cases e : dNK k = dNK j
    · have hh : gHas (k :: ks) j = true := by simp [gHas, e]
      rw [if_pos e, if_pos hh, if_pos e, e]
      split <;> rfl
    · have hh : gHas (k :: ks) j = gHas ks j := by simp [gHas, e]
      rw [if_neg e, if_neg e, hh, ih]
theorem gAt_none : ∀ {ks ds : List Sd.D} {d : Sd.D}, gHas ks d = false → gAt ks ds d = none
  | [], _, _, _ => by simp [gAt]
  | _ :: _, [], _, _ => by simp [gAt]
  | k :: ks, z :: ds, d, h => by
    simp only [gHas, List.any_cons, Bool.or_eq_false_iff, decide_eq_false_iff_not] at h
    rw [gAt, if_neg h.1]
    exact gAt_none h.2
theorem gAt_snoc {d y : Sd.D} : ∀ {ks ds : List Sd.D} {j : Sd.D}, ks.length = ds.length → gAt (ks ++ [d]) (ds ++ [y]) j = if gHas ks j = true then gAt ks ds j else if dNK d = dNK j then some y else none
  | [], [], j, _ => by simp [gAt, gHas]
  | [], _ :: _, _, h => by simp at h
  | _ :: _, [], _, h => by simp at h
  | k :: ks, z :: ds, j, h => by
    have ih := gAt_snoc (d := d) (y := y) (ks := ks) (ds := ds) (j := j) (by simpa using h)
    rw [List.cons_append, List.cons_append, gAt, gAt, ih]
    by_cases e : dNK k = dNK j
    · have hh : gHas (k :: ks) j = true := by simp [gHas, e]
      rw [if_pos e, if_pos hh, if_pos e]
    · have hh : gHas (k :: ks) j = gHas ks j := by simp [gHas, e]
      rw [if_neg e, if_neg e, hh]
/-- a look behind a store -/
theorem gAt_put {ks ds : List Sd.D} {d y j : Sd.D} (h : ks.length = ds.length) : gAt (gKs ks d) (gDs ks ds d y) j = if dNK j = dNK d then some y else gAt ks ds j := by
  unfold gKs gDs
  by_cases hd : gHas ks d = true
  · rw [if_pos hd, if_pos hd, gRep_at h]
    by_cases e : dNK j = dNK d
    · have : gHas ks j = true := by unfold gHas at hd ⊢; rw [e]; exact hd
      rw [if_pos this]
    · rw [if_neg e]
      by_cases hj : gHas ks j = true
      · rw [if_pos hj]
      · rw [if_neg hj, gAt_none (by simpa using hj)]
  · rw [if_neg hd, if_neg hd, gAt_snoc h]
    by_cases e : dNK j = dNK d
    · have : ¬ gHas ks j = true := by unfold gHas at hd ⊢; rw [e]; exact hd
      rw [if_neg this, if_pos (show dNK d = dNK j from e.symm), if_pos e]
    · rw [if_neg e, if_neg (show ¬ dNK d = dNK j from fun z => e z.symm)]
      by_cases hj : gHas ks j = true
      · rw [if_pos hj]
      · rw [if_neg hj, gAt_none (by simpa using hj)]
theorem gRep_len {d y : Sd.D} : ∀ {ks ds : List Sd.D}, ks.length = ds.length → (gRep ks ds d y).length = ds.length
  | [], [], _ => rfl
  | [], _ :: _, h => by simp at h
  | _ :: _, [], h => by simp at h
  | k :: ks, z :: ds, h => by rw [gRep, List.length_cons, gRep_len (by simpa using h), List.length_cons]
theorem gput_lens {ks ds : List Sd.D} {d y : Sd.D} (h : ks.length = ds.length) : (gKs ks d).length = (gDs ks ds d y).length ∧ (gKs ks d).length ≤ ks.length + 1 := by
  unfold gKs gDs
  split
  · rw [gRep_len h]; omega
  · simp [h]
theorem gRep_mem {d y : Sd.D} : ∀ {ks ds : List Sd.D} {q : Sd.D × Sd.D}, q ∈ ks.zip (gRep ks ds d y) → q ∈ ks.zip ds ∨ (dNK q.1 = dNK d ∧ q.2 = y)
  | [], _, _, h => by simp at h
  | _ :: _, [], _, h => by simp [gRep] at h
  | k :: ks, z :: ds, q, h => by
    rw [gRep, List.zip_cons_cons] at h
    rw [List.zip_cons_cons]
    rcases List.mem_cons.mp h with h | h
    · subst h
      by_cases e : dNK k = dNK d
      · exact .inr ⟨e, by simp [e]⟩
      · exact .inl (by simp [e])
    · rcases gRep_mem h with h | h
      · exact .inl (List.mem_cons_of_mem _ h)
      · exact .inr h
theorem gput_mem {ks ds : List Sd.D} {d y : Sd.D} (hl : ks.length = ds.length) {q : Sd.D × Sd.D} (h : q ∈ (gKs ks d).zip (gDs ks ds d y)) : q ∈ ks.zip ds ∨ (dNK q.1 = dNK d ∧ q.2 = y) := by
  unfold gKs gDs at h
  split at h
  · exact gRep_mem h
  · rw [List.zip_append hl] at h
    rcases List.mem_append.mp h with h | h
    · exact .inl h
    · have := List.mem_singleton.mp h
      rw [this]
      exact .inr ⟨rfl, rfl⟩
end Sd
namespace Tx
open PySem PySem.Spec PyProof.Rows L2 Sd C8
abbrev dCost (c : Nat) (ms : List Str) : Sd.D := .tup [.int (c : Nat), dSs ms]
def Part (F : Str → Str → Option Nat) (cs : List Str) (i : Nat) (ms : List Str) (c : Nat) : Prop := ms.Nodup ∧ (∀ m ∈ ms, m ∈ cs) ∧ tot F (cs.take i) ms = some c
/-- the entry says a way of the first i names -/
def WayE (F : Str → Str → Option Nat) (cs : List Str) (i : Nat) (q : Sd.D × Sd.D) : Prop := ∃ us ms c, q = (dSs us, dCost c ms) ∧ Part F cs i ms c ∧ us.Perm ms ∧ sortedS us = true
def Dear (ks ds : List Sd.D) (us : List Str) (c : Nat) : Prop := ∃ c' ms', gAt ks ds (dSs us) = some (dCost c' ms') ∧ c' ≤ c
structure Ways (F : Str → Str → Option Nat) (cs : List Str) (i : Nat) (ks ds : List Sd.D) : Prop where
  len : ks.length = ds.length
  small : ks.length ≤ 4 ^ i
  sound : ∀ q ∈ ks.zip ds, WayE F cs i q
  full : ∀ ms c, Part F cs i ms c → ∃ us, us.Perm ms ∧ sortedS us = true ∧ Dear ks ds us c
end Tx

/-! text M3 -/
set_option Elab.async false
set_option linter.all false
set_option maxRecDepth 100000
set_option maxHeartbeats 2000000
/-! M3: the table grows by one name. -/
namespace Tx
open PySem PySem.Spec PyProof.Rows L2 Sd C8
theorem dCost_inj {c c' : Nat} {ms ms' : List Str} (h : dCost c ms = dCost c' ms') : c = c' ∧ ms = ms' := by
  simp only [dCost, Sd.D.tup.injEq, List.cons.injEq, Sd.D.int.injEq] at h
  refine ⟨by omega, ?_⟩
  exact (List.map_inj_right fun x y e => by cases e; rfl).mp h.2.1
theorem Dear.put {ks ds : List Sd.D} {us us' : List Str} {c c1 : Nat} {ms1 : List Str} (h : Dear ks ds us c) (hl : ks.length = ds.length) (hc : ∀ c' ms', gAt ks ds (dSs us') = some (dCost c' ms') → c1 < c') : Dear (gKs ks (dSs us')) (gDs ks ds (dSs us') (dCost c1 ms1)) us c := by
  obtain ⟨c', ms', h1, h2⟩ := h
  unfold Dear
  rw [gAt_put hl]
  by_cases e : dNK (dSs us) = dNK (dSs us')
  · rw [if_pos e]
    have e2 := dSs_inj e
    subst e2
    have := hc _ _ h1
    exact ⟨c1, ms1, rfl, by omega⟩
  · rw [if_neg e]
    exact ⟨c', ms', h1, h2⟩
theorem Dear.new {ks ds : List Sd.D} {us : List Str} {c1 : Nat} {ms1 : List Str} (hl : ks.length = ds.length) : Dear (gKs ks (dSs us)) (gDs ks ds (dSs us) (dCost c1 ms1)) us c1 := by
  refine ⟨c1, ms1, ?_, Nat.le_refl _⟩
  rw [gAt_put hl, if_pos rfl]
theorem WayE.at {F : Str → Str → Option Nat} {cs : List Str} {i : Nat} {ks ds : List Sd.D} (h : ∀ q ∈ ks.zip ds, WayE F cs i q) {us : List Str} {z : Sd.D} (hz : gAt ks ds (dSs us) = some z) : ∃ ms c, z = dCost c ms ∧ Part F cs i ms c ∧ us.Perm ms := by
  obtain ⟨k, hk, e⟩ := gAt_mem hz
  obtain ⟨us2, ms, c, e2, h1, h2, _⟩ := h _ hk
  simp only [Prod.mk.injEq] at e2
  obtain ⟨rfl, rfl⟩ := e2
  have := dSs_inj e
  subst this
  exact ⟨ms, c, rfl, h1, h2⟩
/-- one more name -/
theorem Part.snoc {F : Str → Str → Option Nat} {cs : List Str} {i : Nat} {n m : Str} {ms : List Str} {c l : Nat} (h : Part F cs i ms c) (hn : cs[i]? = some n) (hm : m ∈ cs) (hnm : m ∉ ms) (hl : F n m = some l) : Part F cs (i + 1) (ms ++ [m]) (c + l) := by
  obtain ⟨h1, h2, h3⟩ := h
  refine ⟨?_, fun x hx => ?_, ?_⟩
  · rw [List.nodup_append]
    refine ⟨h1, by simp, fun a ha b hb => ?_⟩
    rw [List.mem_singleton] at hb
    intro e
    exact hnm (by rw [← hb, ← e]; exact ha)
  · rcases List.mem_append.mp hx with hx | hx
    · exact h2 x hx
    · rw [List.mem_singleton.mp hx]
      exact hm
  · rw [List.take_add_one, hn]
    exact tot_snoc.mpr ⟨c, l, h3, hl, rfl⟩
theorem Part.back {F : Str → Str → Option Nat} {cs : List Str} {i : Nat} {n : Str} {ms : List Str} {c : Nat} (hn : cs[i]? = some n) (h : Part F cs (i + 1) ms c) : ∃ ms0 m c0 l, ms = ms0 ++ [m] ∧ c = c0 + l ∧ Part F cs i ms0 c0 ∧ m ∈ cs ∧ m ∉ ms0 ∧ F n m = some l := by
  obtain ⟨h1, h2, h3⟩ := h
  rw [List.take_add_one, hn] at h3
  have h3 : tot F (cs.take i ++ [n]) ms = some c := h3
  have hl := tot_len h3
  have hne : ms ≠ [] := fun e => by rw [e] at hl; simp at hl
  obtain ⟨ms0, m, rfl⟩ : ∃ ms0 m, ms = ms0 ++ [m] := ⟨ms.dropLast, ms.getLast hne, (List.dropLast_concat_getLast hne).symm⟩
  obtain ⟨c0, l, h4, h5, rfl⟩ := tot_snoc.mp h3
  rw [List.nodup_append] at h1
  refine ⟨ms0, m, c0, l, rfl, rfl, ⟨h1.1, fun x hx => h2 x (List.mem_append_left _ hx), h4⟩, h2 m (by simp), fun hm => ?_, h5⟩
  exact h1.2.2 m hm m (by simp) rfl
/-- the table of the next name as it grows: entries below t are done, of entry t the mates below j -/
structure Later (F : Str → Str → Option Nat) (cs : List Str) (i : Nat) (n : Str) (wks wds : List Sd.D) (t j : Nat) (ks ds : List Sd.D) : Prop where
  len : ks.length = ds.length
  small : ks.length ≤ t * 4 + j
  sound : ∀ q ∈ ks.zip ds, WayE F cs (i + 1) q
  done : ∀ t' us c ms, t' < t → wks[t']? = some (dSs us) → wds[t']? = some (dCost c ms) → ∀ m ∈ cs, m ∉ us → ∀ l, F n m = some l → ∀ us', us'.Perm (us ++ [m]) → sortedS us' = true → Dear ks ds us' (c + l)
  part : ∀ us c ms, wks[t]? = some (dSs us) → wds[t]? = some (dCost c ms) → ∀ m ∈ cs.take j, m ∉ us → ∀ l, F n m = some l → ∀ us', us'.Perm (us ++ [m]) → sortedS us' = true → Dear ks ds us' (c + l)
theorem Later.nil {F : Str → Str → Option Nat} {cs : List Str} {i : Nat} {n : Str} {wks wds : List Sd.D} : Later F cs i n wks wds 0 0 [] [] :=
  ⟨rfl, Nat.le_refl _, fun q hq => by simp at hq, fun t' _ _ _ h => by omega, fun us c ms _ _ m hm => by simp at hm⟩
theorem Later.turn {F : Str → Str → Option Nat} {cs : List Str} {i : Nat} {n : Str} {wks wds ks ds : List Sd.D} {t : Nat} (hc : cs.length ≤ 4) (h : Later F cs i n wks wds t cs.length ks ds) : Later F cs i n wks wds (t + 1) 0 ks ds :=
  ⟨h.len, by have := h.small; omega, h.sound, fun t' us c ms ht h1 h2 m hm hmu => by
    by_cases e : t' < t
    · exact h.done t' us c ms e h1 h2 m hm hmu
    · have : t' = t := by omega
      subst this
      exact h.part us c ms h1 h2 m (by rw [List.take_length]; exact hm) hmu, fun us c ms _ _ m hm => by simp at hm⟩
/-- nothing stored -/
theorem Later.skip {F : Str → Str → Option Nat} {cs : List Str} {i : Nat} {n m : Str} {wks wds ks ds : List Sd.D} {t j : Nat} (hj : cs[j]? = some m) (h : Later F cs i n wks wds t j ks ds)
    (hs : ∀ us c ms, wks[t]? = some (dSs us) → wds[t]? = some (dCost c ms) → m ∉ us → ∀ l, F n m = some l → ∀ us', us'.Perm (us ++ [m]) → sortedS us' = true → Dear ks ds us' (c + l)) : Later F cs i n wks wds t (j + 1) ks ds :=
  ⟨h.len, by have := h.small; omega, h.sound, h.done, fun us c ms h1 h2 m' hm' => by
    rw [List.take_add_one, hj] at hm'
    rcases List.mem_append.mp hm' with hm' | hm'
    · exact h.part us c ms h1 h2 m' hm'
    · have : m' = m := by simpa using hm'
      subst this
      exact hs us c ms h1 h2⟩
theorem sorted_perm_eq {us us' vs : List Str} (h : us.Perm vs) (h' : us'.Perm vs) (hn : vs.Nodup) (s : sortedS us = true) (s' : sortedS us' = true) : us = us' :=
  sorted_eq s s' (h.nodup_iff.mpr hn) (h'.nodup_iff.mpr hn) fun x => by rw [h.mem_iff, h'.mem_iff]
/-- a way stored -/
theorem Later.store {F : Str → Str → Option Nat} {cs : List Str} {i : Nat} {n m : Str} {wks wds ks ds : List Sd.D} {t j : Nat} {us us1 ms : List Str} {c l : Nat} (hn : cs[i]? = some n) (hj : cs[j]? = some m) (h : Later F cs i n wks wds t j ks ds)
    (hw1 : wks[t]? = some (dSs us)) (hw2 : wds[t]? = some (dCost c ms)) (hp : Part F cs i ms c) (hpm : us.Perm ms) (hmu : m ∉ us) (hl : F n m = some l) (hu1 : us1.Perm (us ++ [m])) (hu2 : sortedS us1 = true)
    (hc : ∀ c' ms', gAt ks ds (dSs us1) = some (dCost c' ms') → c + l < c') : Later F cs i n wks wds t (j + 1) (gKs ks (dSs us1)) (gDs ks ds (dSs us1) (dCost (c + l) (ms ++ [m]))) := by
  have hmc : m ∈ cs := List.mem_of_getElem? hj
  have hnu : (us ++ [m]).Nodup := by
    rw [List.nodup_append]
    refine ⟨hpm.nodup_iff.mpr hp.1, by simp, fun a ha b hb e => ?_⟩
    rw [List.mem_singleton] at hb
    exact hmu (by rw [← hb, ← e]; exact ha)
  obtain ⟨g1, g2⟩ := gput_lens (d := dSs us1) (y := dCost (c + l) (ms ++ [m])) h.len
  refine ⟨g1, by have := h.small; omega, fun q hq => ?_, fun t' us2 c2 ms2 ht h1 h2 m2 hm2 hmu2 l2 hl2 us3 h3 h4 => (h.done t' us2 c2 ms2 ht h1 h2 m2 hm2 hmu2 l2 hl2 us3 h3 h4).put h.len hc, fun us2 c2 ms2 h1 h2 m2 hm2 hmu2 l2 hl2 us3 h3 h4 => ?_⟩
  · rcases gput_mem h.len hq with hq | ⟨e1, e2⟩
    · exact h.sound q hq
    · obtain ⟨k, hk⟩ : ∃ k, k ∈ gKs ks (dSs us1) ∧ k = q.1 := ⟨q.1, (List.of_mem_zip hq).1, rfl⟩
      have hkk : q.1 = dSs us1 := by
        have h0 := (List.of_mem_zip hq).1
        unfold gKs at h0
        split at h0
        · obtain ⟨j2, hj2, e3⟩ := List.mem_iff_getElem.mp h0
          have hz : (ks[j2], ds[j2]'(by rw [← h.len]; exact hj2)) ∈ ks.zip ds := List.mem_iff_getElem.mpr ⟨j2, by rw [List.length_zip, ← h.len]; omega, by simp⟩
          obtain ⟨us4, _, _, e4, _⟩ := h.sound _ hz
          simp only [Prod.mk.injEq] at e4
          rw [e3] at e4
          rw [e4.1] at e1 ⊢
          rw [dSs_inj e1]
        · rcases List.mem_append.mp h0 with h0 | h0
          · obtain ⟨j2, hj2, e3⟩ := List.mem_iff_getElem.mp h0
            have hz : (ks[j2], ds[j2]'(by rw [← h.len]; exact hj2)) ∈ ks.zip ds := List.mem_iff_getElem.mpr ⟨j2, by rw [List.length_zip, ← h.len]; omega, by simp⟩
            obtain ⟨us4, _, _, e4, _⟩ := h.sound _ hz
            simp only [Prod.mk.injEq] at e4
            rw [e3] at e4
            rw [e4.1] at e1 ⊢
            rw [dSs_inj e1]
          · exact List.mem_singleton.mp h0
      exact ⟨us1, ms ++ [m], c + l, Prod.ext hkk e2, hp.snoc hn hmc (fun z => hmu (hpm.mem_iff.mpr z)) hl, hu1.trans (hpm.append_right _), hu2⟩
  · rw [hw1] at h1
    have e1 : us2 = us := (List.map_inj_right (f := Sd.D.str) fun x y e => by cases e; rfl).mp (by
      have := Option.some.inj h1
      simp only [dSs, Sd.D.tup.injEq] at this
      exact this.symm)
    subst e1
    rw [hw2] at h2
    obtain ⟨rfl, rfl⟩ := dCost_inj (Option.some.inj h2)
    rw [List.take_add_one, hj] at hm2
    rcases List.mem_append.mp hm2 with hm2 | hm2
    · exact (h.part us2 c ms hw1 hw2 m2 hm2 hmu2 l2 hl2 us3 h3 h4).put h.len hc
    · have : m2 = m := by simpa using hm2
      subst this
      rw [hl] at hl2
      cases hl2
      have : us3 = us1 := sorted_perm_eq h3 hu1 hnu h4 hu2
      subst this
      exact Dear.new h.len
end Tx

/-! text M4 -/
set_option Elab.async false
set_option linter.all false
set_option maxRecDepth 100000
set_option maxHeartbeats 2000000
/-! M4: the table, from one name to the next. -/
namespace Tx
open PySem PySem.Spec PyProof.Rows L2 Sd C8
theorem later_ways {F : Str → Str → Option Nat} {cs : List Str} {i : Nat} {n : Str} {wks wds ks ds : List Sd.D} (hn : cs[i]? = some n) (hW : Ways F cs i wks wds) (h : Later F cs i n wks wds wks.length 0 ks ds) : Ways F cs (i + 1) ks ds := by
  refine ⟨h.len, ?_, h.sound, fun ms c hp => ?_⟩
  · have := h.small
    have := hW.small
    rw [Nat.pow_succ]
    omega
  · obtain ⟨ms0, m, c0, l, rfl, rfl, hp0, hm, hm0, hl⟩ := Part.back hn hp
    obtain ⟨us, hu1, hu2, c', ms', hg, hle⟩ := hW.full ms0 c0 hp0
    obtain ⟨k, hk, ek⟩ := gAt_mem hg
    obtain ⟨t, ht, et⟩ := List.mem_iff_getElem.mp hk
    rw [List.length_zip] at ht
    rw [List.getElem_zip] at et
    simp only [Prod.mk.injEq] at et
    obtain ⟨us4, ms4, c4, e4, _, _, _⟩ := hW.sound _ hk
    simp only [Prod.mk.injEq] at e4
    have e5 : us4 = us := dSs_inj (by rw [← e4.1]; exact ek)
    subst e5
    have k1 : wks[t]? = some (dSs us4) := by rw [List.getElem?_eq_getElem (by omega), et.1, e4.1]
    have k2 : wds[t]? = some (dCost c' ms') := by rw [List.getElem?_eq_getElem (by omega), et.2]
    obtain ⟨us1, s1, s2⟩ : ∃ us1 : List Str, us1.Perm (us4 ++ [m]) ∧ sortedS us1 = true := by
      refine ⟨(us4 ++ [m]).mergeSort (fun a b => !decide (b.cps.toList < a.cps.toList)), List.mergeSort_perm _ _, sortedS_of_pairwise _ ?_⟩
      have := List.pairwise_mergeSort (le := fun a b : Str => !decide (b.cps.toList < a.cps.toList)) (fun a b c h1 h2 => by
        simp only [Bool.not_eq_true', decide_eq_false_iff_not] at h1 h2 ⊢
        exact leS_trans h1 h2) (fun a b => by
        simp only [Bool.or_eq_true, Bool.not_eq_true', decide_eq_false_iff_not]
        rcases Classical.em (b.cps.toList < a.cps.toList) with h | h
        · exact .inr (List.not_lt.mpr (List.le_of_lt h))
        · exact .inl h) (us4 ++ [m])
      refine this.imp fun h => ?_
      simp only [Bool.not_eq_true', decide_eq_false_iff_not] at h
      rw [ltCps_eq]
      exact decide_eq_false h
    have hd := h.done t us4 c' ms' (by omega) k1 k2 m hm (fun z => hm0 (hu1.mem_iff.mp z)) l hl us1 s1 s2
    obtain ⟨c'', ms'', g1, g2⟩ := hd
    exact ⟨us1, s1.trans (hu1.append_right _), s2, c'', ms'', g1, by omega⟩
theorem ways_nil {F : Str → Str → Option Nat} {cs : List Str} : Ways F cs 0 [dSs []] [dCost 0 []] := by
  refine ⟨rfl, Nat.le_refl _, fun q hq => ?_, fun ms c hp => ?_⟩
  · rw [List.mem_singleton.mp hq]
    exact ⟨[], [], 0, rfl, ⟨List.nodup_nil, (fun _ h => nomatch h), rfl⟩, .refl _, rfl⟩
  · have hl := tot_len hp.2.2
    have : ms = [] := by cases ms with
      | nil => rfl
      | cons _ _ => simp at hl
    subst this
    exact ⟨[], .refl _, rfl, 0, [], by simp [gAt], Nat.zero_le _⟩
theorem ways_end {F : Str → Str → Option Nat} {cs : List Str} {ks ds : List Sd.D} (hW : Ways F cs cs.length ks ds) (hn : cs.Nodup) (hF : ∀ n ∈ cs, F n n ≠ none) {ys : List Str} (hy : ys.Perm cs) (hs : sortedS ys = true) : ∃ c ms, gAt ks ds (dSs ys) = some (dCost c ms) ∧ Least F cs ms c := by
  obtain ⟨c0, h0⟩ := tot_same (F := F) (ns := cs) fun n h => Option.ne_none_iff_exists'.mp (hF n h)
  have hPart : ∀ ms c, ms.Perm cs → tot F cs ms = some c → Part F cs cs.length ms c := fun ms c h1 h2 => ⟨h1.nodup_iff.mpr hn, fun m hm => h1.mem_iff.mp hm, by rw [List.take_length]; exact h2⟩
  obtain ⟨us, u1, u2, c', ms', g1, g2⟩ := hW.full cs c0 (hPart _ _ (.refl _) h0)
  have e1 : us = ys := sorted_perm_eq u1 hy hn u2 hs
  subst e1
  obtain ⟨ms2, c2, ez, hp, hpp⟩ := WayE.at hW.sound g1
  obtain ⟨rfl, rfl⟩ := dCost_inj ez
  refine ⟨c', ms', g1, hpp.symm.trans u1, ?_, fun ms3 c3 h3 h4 => ?_⟩
  · have := hp.2.2
    rwa [List.take_length] at this
  · obtain ⟨us3, v1, v2, c4, ms4, w1, w2⟩ := hW.full ms3 c3 (hPart _ _ h3 h4)
    have e3 : us3 = us := sorted_perm_eq (v1.trans h3) u1 hn v2 u2
    subst e3
    rw [g1] at w1
    obtain ⟨rfl, _⟩ := dCost_inj (Option.some.inj w1)
    exact w2
end Tx

/-! text Sd20 -/
set_option Elab.async false
set_option linter.all false
set_option maxRecDepth 100000
set_option maxHeartbeats 2000000
/-! Sd20: sorted(a tuple of texts). -/
namespace Sd
open PySem PySem.Spec PyProof.Rows L2
section
variable {X : Cx}
def rSortedTS (K : PySem.W.Frag) : List V → Hp → VK → Prop := fun vs H Q => ∃ (a : Addr) (xs : List Str), vs = [V.ref a] ∧ SqT K H a (xs.map V.str) ∧ xs.length < 64 ∧
  ∀ (ys : List Str) (p : Addr), ys.Perm xs → sortedS ys = true → H p = none → Q (.ref p) (upd H p (.lst (ys.map V.str)))
theorem cr_sortedTS : CallR X (.builtin "sorted") (rSortedTS X.K) := by
  intro pins s σ H vs us Q I r h
  obtain ⟨a, ks, rfl, hs, h64, q⟩ := h
  obtain ⟨its, rv, ⟨o, ho, hc, n, hd⟩, hsz⟩ := I.tuple hs
  rw [Vals.ref1 r]
  have hS := rv.strs
  have hal : its.length = ks.length := by
    have := rv.length
    rw [List.length_map] at this
    exact this.symm
  refine Calls.call_function_entry PyProof.Rows.kind_sorted PyProof.Rows.plain_sorted PyProof.Rows.entry_sorted (PyProof.Rows.args_sorted1 _) ?_
  unfold Builtin.«sorted»
  refine wpAny_bind (m := checkCount "sorted" 1 1 _) (wpAny_pure ?_)
  refine wpAny_bind (wpAny_collect_seq a (T := "tuple") (.inr rfl) ho hc hd (hsz := by rw [List.size_toArray, hal, sizeLine_eq]; omega) fun h' hk => ?_)
  have I1 : Inv X pins σ H { s with heap := h' } := I.kept (t' := s.toks) hk
  rw [List.toList_toArray]
  refine wpAny_bind (wpAny_newList ?_ (by rw [hal, sizeLine_eq]; omega))
  have hoL : (h'.push (seqObj "list" its.toArray 0)).get? h'.objs.size = some (seqObj "list" its.toArray 0) := Heap.get?_push_size _ rfl
  show wpAny _ _ _ _ _ { s with heap := h'.push (seqObj "list" its.toArray 0) }
  refine wpAny_bind (wpAny_holding (wpAny_call_entry PyProof.Rows.slot_list_sort ⟨_, hoL, rfl⟩ PyProof.Rows.entry_list_sort
    (list_sort_treeK strKind_oneLt (s := { s with heap := h'.push (seqObj "list" its.toArray 0) }) hoL hS.keysOf (fun v₁ v₂ rest e => keyKind_strs (by rw [← e]; exact hS)) (by rw [hal]; exact h64) fun st' hp hs => ⟨_, rfl, ?_⟩)
    (PyProof.Rows.args_list_sort _)))
  obtain ⟨ys, g1, g2, g3⟩ := sorted_out_str hS hp hs
  obtain ⟨e', he'⟩ := PyProof.Rows.sortedHeap_at (vs := its) (out := (arrOf st').map (·.2)) hoL
  have hlen : (ys.map V.str).length ≤ sizeLine := by
    rw [List.length_map, g2.length_eq]
    exact Nat.le_trans (Nat.le_of_lt h64) (by decide)
  refine wpAny_pure ⟨_, rfl, .ref h'.objs.size, upd H h'.objs.size (.lst (ys.map V.str)), I1.laid (t' := s.toks) (fun b u e => ?_) (Nat.le_refl _)
    (show ObjOk X.prog X.w _ _ _ (.lst (ys.map V.str)) from ⟨hlen, ((arrOf st').map (·.2)).toList, e', vals_of_strs g1, by rw [Array.toArray_toList]; exact he'⟩), rfl, q ys _ g2 g3 (I1.hok.fresh (Nat.le_refl _))⟩
  have hb : b < h'.objs.size := Heap.lt_size e
  rw [PyProof.Rows.sortedHeap_old (Nat.ne_of_lt hb) (by rw [size_push']; exact Nat.lt_succ_of_lt hb)]
  exact Heap.get?_push_of_some _ e
end
section
variable {C : FC} {X : Cx} {ow : Ow} {s : SV} {en : En}
theorem cn_sortedTS {zs : List Str} (h : TupOf ow s (zs.map sv)) (hl : zs.length < 64) : ClN C X ow en (.builtin "sorted") [s] (fun oc => ∃ ys : List Str, oc = .lst (ys.map sv) ∧ ys.Perm zs ∧ sortedS ys = true) := ⟨_, cr_sortedTS, fun B σ H vs S rs Q q => by
  obtain ⟨v, e, r⟩ := sl1 rs
  obtain ⟨a, xs, e1, hq, l⟩ := h.at S r
  have e2 := Sd.strs_at l
  subst e e1 e2
  exact ⟨a, zs, rfl, hq, hl, fun ys p h1 h2 hp => q p _ _ _ ⟨ys, rfl, h1, h2⟩ (NxN.hold S hp ⟨_, upd_same, Sd.cn_sortedS.vals_strs ys⟩)⟩⟩
theorem tupS {ow : Ow} (zs : List Str) : TupOf ow (.val (.tup (zs.map Sd.D.str))) (zs.map sv) := by
  have := TupOf.tup (ow := ow) (zs.map Sd.D.str)
  rwa [List.map_map] at this
end
end Sd

/-! text W19 -/
set_option Elab.async false
set_option linter.all false
set_option maxRecDepth 100000
set_option maxHeartbeats 2000000
/-! W19: cheapest. -/
namespace Sd
open PySem PySem.Spec PyProof.Rows L2
section
variable {C : FC} {X : Cx} {ow : Ow} {en : En} {a b : Expr} {pos : Pos} {p : Addr} {ks ds : List Sd.D} {P Pb : SV → Prop}
theorem ep_gget (hu : X.A.units + 9 < cLine) (ha : EvD C X ow en a (.ptr p)) (hb : EvP C X ow en b Pb) (hm : GOf X ow p ks ds) (h : ∀ t, Pb t → ∃ dl z, t = .val (.tup dl) ∧ dOk (.tup dl) = true ∧ (dNK (.tup dl)).depth ≤ 8 ∧ gAt ks ds (.tup dl) = some z ∧ P (.val z)) (hs : NoSl b := by intro _ _; rfl) : EvP C X ow en (.Subscript a b pos) P :=
  ⟨fun B σ H S Q q => ⟨_, pe_gget hu pe_we pe_we hs, ev_bin ha hb S fun v u x y B' H' px py nx r1 r2 => by
    obtain ⟨dl, z, e1, hk, hd, hat, pz⟩ := h y py
    subst px e1
    obtain ⟨es, g, f⟩ := hm.at nx.sta
    have r2' : Rp X.K B' (.tup dl) u := r2
    obtain ⟨bb, eb⟩ := rp_tup_ref r2'
    subst eb
    have q1 := g_look (d := .tup dl) f.val
    cases hf : es.find? (gF (.tup dl)) with
    | none =>
      rw [hf] at q1
      have q1 : gAt (es.map (·.1)) ds (.tup dl) = none := q1
      rw [f.ks, hat] at q1
      cases q1
    | some e =>
      rw [hf] at q1
      obtain ⟨z', hz, rz⟩ := q1
      rw [f.ks, hat] at hz
      cases hz
      exact ⟨p, bb, es, .tup dl, e, rs_ptr.mp r1, rfl, g, ⟨hk, hd, r2'.mono nx.sta.sub⟩, hf, q _ _ B' H' pz nx rz⟩⟩⟩
end
end Sd
namespace Tx
open PySem PySem.Spec PyProof.Rows L2 Sd C8
theorem dSs_key (us : List Str) : dOk (dSs us) = true ∧ (dNK (dSs us)).depth ≤ 8 := ⟨(dSs_ok us).1, Nat.le_trans (dSs_ok us).2 (by omega)⟩
section
variable {P : Program} {w : World} {K : Fg} {mg : Str → Option Value} {base : Heap}
abbrev kEx : List Str := ["chosen", "firsts", "cost", "mates"]
abbrev owX (K : Fg) (p dx : Addr) (cs : List Str) (fk : List (List Key)) (fd : List Sd.D) (x3 x4 : SV) : Addr × OC := (p, .ins (He.ga K "Exchange") dx kEx [.val (dSs cs), .val (.dT fk fd), x3, x4])
/-- what firsts says -/
def Fst (fk : List (List Key)) (fd : List Sd.D) (cs : List Str) (F : Str → Str → Option Nat) : Prop := ∀ n ∈ cs, ∀ m ∈ cs, valS fk (fd.map SV.val) (pK n m) = some (.val (oN (F n m)))
theorem ok_cheapest (T : Txt K mg) : Met P w K mg base 1 (He.ga K "Exchange") "cheapest" (Pr K (fun ow ss post => ∃ (p dx : Addr) (cs : List Str) (fk : List (List Key)) (fd : List Sd.D) (F : Str → Str → Option Nat) (x3 x4 : SV), ow = [owX K p dx cs fk fd x3 x4] ∧ ss = [.ptr p] ∧ cs.Nodup ∧ cs.length ≤ 4 ∧ Fst fk fd cs F ∧ (∀ n ∈ cs, F n n ≠ none) ∧
    ∀ ms c, Least F cs ms c → post (.val (dCost c ms)) [owX K p dx cs fk fd x3 x4])) [] := by
  obtain ⟨fd0, F0⟩ := T.f_Exchange_cheapest
  refine ⟨_, fd0, p_Exchange_cheapest, [], T.cls _, T.meth "Exchange" "cheapest", fn_pr F0 sc_Exchange_cheapest (by rintro ow ss post ⟨_, _, _, _, _, _, _, _, _, rfl, _⟩; rfl) fun cdv A outer sh H E C D ow ss post hr hR hM Fn Fx => ?_, bd_Exchange_cheapest F0, .nil⟩
  obtain ⟨p, dx, cs, fk, fd, F, x3, x4, rfl, rfl, hcn, hc4, hfst, hFn, hp⟩ := hR
  have nd := sc_Exchange_cheapest.nd
  refine sd_setM 1 (em_gd1 (dl := []) (z := dCost 0 []) (hu9_of hr) (ed_tup (ds := []) ea_nil) (ed_tup (ds := [.int 0, .tup []]) (ea_cons ed_int (ea_cons (ed_tup (ds := []) ea_nil) ea_nil))) (dSs_key []).1 (dSs_key []).2 fun pw => ?_) nd
  refine sd_lock (p := pw) (ks := [dSs []]) (ds := [dCost 0 []]) List.mem_cons_self fun od es _ => ⟨_, .here, ?_⟩
  refine sd_for (fun i ow en => ∃ (pw : Addr) (od : Obj) (es : List GEnt) (ks ds : List Sd.D) (y2 y3 y4 y5 y6 y7 y8 y9 : SV), ow = [(pw, gdL P w K pw od es ks ds), owX K p dx cs fk fd x3 x4] ∧ en = [.ptr p, .ptr pw, y2, y3, y4, y5, y6, y7, y8, y9] ∧ Ways F cs i ks ds) PassesOwn.never rfl
    (ei_tup (ep_fld (ed_var 0) (.own _ _ _ _ _ (List.mem_cons_of_mem _ List.mem_cons_self)) (T.cls _) (T.noat "Exchange" "chosen") rfl)) ⟨pw, od, es, _, _, .un, .un, .un, .un, .un, .un, .un, .un, rfl, rfl, ways_nil⟩ (fun _ _ _ _ q hq => by cases hq) ?_ ?_
  · rintro C' le i s ow en hi ⟨pw, od, es, ks, ds, y2, y3, y4, y5, y6, y7, y8, y9, rfl, rfl, hW⟩ ⟨d, hd, rfl⟩
    obtain ⟨n, hn, rfl⟩ := getE_map hd
    have hi : i < cs.length := by simpa using hi
    have hnc := List.mem_of_getElem? hn
    refine ⟨_, _, tg_name 2 nd, sd_setM 3 (em_gd fun pl => ?_) nd⟩
    refine sd_for (fun t ow en => ∃ (lk ld : List Sd.D) (z4 z5 z6 z7 z8 z9 : SV), ow = [(pl, gdC P w K pl lk ld), (pw, gdL P w K pw od es ks ds), owX K p dx cs fk fd x3 x4] ∧ en = [.ptr p, .ptr pw, sv n, .ptr pl, z4, z5, z6, z7, z8, z9] ∧ Later F cs i n ks ds t 0 lk ld) PassesOwn.never rfl
      (ei_gitems (ed_var 1) (List.mem_cons_of_mem _ List.mem_cons_self)) ⟨[], [], y4, y5, y6, y7, y8, y9, rfl, rfl, Later.nil⟩ (fun t ow en hI q hq => ?_) ?_ ?_
    · obtain ⟨lk, ld, z4, z5, z6, z7, z8, z9, rfl, _⟩ := hI
      rw [List.mem_singleton.mp hq]
      exact List.mem_cons_of_mem _ List.mem_cons_self
    · rintro C2 le2 t s ow en ht ⟨lk, ld, z4, z5, z6, z7, z8, z9, rfl, rfl, hL⟩ ⟨k, z, hk, hz, rfl⟩
      have hkz : (k, z) ∈ ks.zip ds := List.mem_iff_getElem?.mpr ⟨t, by rw [List.getElem?_zip_eq_some]; exact ⟨hk, hz⟩⟩
      obtain ⟨us, ms, c, ekz, hpart, hus, hsort⟩ := hW.sound _ hkz
      simp only [Prod.mk.injEq] at ekz
      obtain ⟨rfl, rfl⟩ := ekz
      refine ⟨_, _, tg_tup rfl (tgs_cons (tg_name 4 nd) (tgs_cons (tg_tup rfl (tgs_cons (tg_name 5 nd) (tgs_cons (tg_name 6 nd) tgs_nil))) tgs_nil)), ?_⟩
      have hmR : ∀ (q : Addr × OC) (r : Addr × OC), owX K p dx cs fk fd x3 x4 ∈ [q, r, owX K p dx cs fk fd x3 x4] := fun q r => by simp
      refine sd_for (fun j ow en => ∃ (lk ld : List Sd.D) (z7 z8 z9 : SV), ow = [(pl, gdC P w K pl lk ld), (pw, gdL P w K pw od es ks ds), owX K p dx cs fk fd x3 x4] ∧ en = [.ptr p, .ptr pw, sv n, .ptr pl, .val (dSs us), iv (c : Nat), .val (dSs ms), z7, z8, z9] ∧ Later F cs i n ks ds t j lk ld) PassesOwn.never rfl
        (ei_tup (ep_fld (ed_var 0) (.own _ _ _ _ _ (hmR _ _)) (T.cls _) (T.noat "Exchange" "chosen") rfl)) ⟨lk, ld, z7, z8, z9, rfl, rfl, hL⟩ (fun _ _ _ _ q hq => by cases hq) ?_ ?_
      · rintro C3 le3 j s ow en hj ⟨lk, ld, z7, z8, z9, rfl, rfl, hL⟩ ⟨d, hd, rfl⟩
        obtain ⟨m, hm, rfl⟩ := getE_map hd
        have hmc := List.mem_of_getElem? hm
        refine ⟨_, _, tg_name 7 nd, sd_set 8 (s := .val (oN (F n m))) (ed_dget (hu_of hr) (ep_fld (ed_var 0) (.own _ _ _ _ _ (hmR _ _)) (T.cls _) (T.noat "Exchange" "firsts") rfl) (ed_keyT (ks := pK n m) (ea_cons (ed_var 2) (ea_cons (ed_var 7) ea_nil))) (.t (k := pK n m) (.val _ _) rfl (hfst n hnc m hmc))) ?_ nd⟩
        cases hF : F n m with
        | none =>
          refine sd_no ((et_and2 (k := false) (j := false) ((et_cmp (ed_var 8) ed_non cd_notN).to rfl) fun z => by cases z).to rfl) (sd_stop rfl ⟨_, _, _, _, _, rfl, rfl, hL.skip hm fun us2 c2 ms2 _ _ _ l hl => by rw [hF] at hl; cases hl⟩)
        | some l =>
          by_cases hmu : m ∈ us
          · refine sd_no ((et_and2 (k := true) (j := false) ((et_cmp (ed_var 8) ed_non cd_notN).to rfl) fun _ => (et_cmp (ed_var 7) (ed_var 4) (cd_notInS (seqTS us))).to (by simp [hmu])).to rfl) (sd_stop rfl ⟨_, _, _, _, _, rfl, rfl, hL.skip hm fun us2 c2 ms2 h1 _ h3 => ?_⟩)
            rw [hk] at h1
            have e1 : us = us2 := (List.map_inj_right (f := Sd.D.str) fun x y e => by cases e; rfl).mp (by
              have := Option.some.inj h1
              simpa only [dSs, Sd.D.tup.injEq] using this)
            exact absurd (e1 ▸ hmu) h3
          · refine sd_if (k := true) ((et_and2 (k := true) (j := true) ((et_cmp (ed_var 8) ed_non cd_notN).to rfl) fun _ => (et_cmp (ed_var 7) (ed_var 4) (cd_notInS (seqTS us))).to (by simp [hmu])).to rfl) (fun _ => ?_) (fun z => by cases z)
            have hul : us.length ≤ 4 := by
              have h1 := hus.length_eq
              have h2 := tot_len hpart.2.2
              rw [List.length_take] at h2
              omega
            refine sdp_set 9 (P := fun s => ∃ ys, s = .val (dSs ys) ∧ ys.Perm (us ++ [m]) ∧ sortedS ys = true) (ep_callTy (A := fun ss => ∃ ys : List Str, ss = [.val (.lst (ys.map Sd.D.str))] ∧ ys.Perm (us ++ [m]) ∧ sortedS ys = true) (eap_cons (ep_ofN (P := fun s => ∃ ys : List Str, s = .val (.lst (ys.map Sd.D.str)) ∧ ys.Perm (us ++ [m]) ∧ sortedS ys = true) (en_callB (A2 := fun oc => ∃ ys : List Str, oc = .lst (ys.map sv) ∧ ys.Perm (us ++ [m]) ∧ sortedS ys = true) (ea_cons (ed_tup (ds := (us ++ [m]).map Sd.D.str) ((ea_star (ed_var 4) (.tup _) (ea_cons (ed_var 7) ea_nil)).is (by simp)) (by rw [sizeLine_eq, List.length_map, List.length_append, List.length_singleton]; omega)) ea_nil) (fun ss e => by rw [e]; exact cn_sortedTS (tupS (us ++ [m])) (by rw [List.length_append, List.length_singleton]; omega)) (T.free _) bb_sorted) fun oc ⟨ys, e, h1, h2⟩ => ⟨.lst (ys.map Sd.D.str), by rw [e, ← map_val_str]; exact .lst _, ys, rfl, h1, h2⟩) ea_nil fun s ss ⟨ys, e, h1, h2⟩ h3 => ⟨ys, by rw [e, h3], h1, h2⟩) (fun ss ⟨ys, e, h1, h2⟩ => by
              rw [e]
              exact ⟨(cl_tuple (.lst _)).ex.imp fun r h => ⟨h.1, fun B σ H vs S rs Q q => h.2 B σ H vs S rs Q fun z s B' H' p n r => q z s B' H' ⟨ys, p, h1, h2⟩ n r⟩⟩) (T.free _) bt_tuple) (fun s hs => ?_) nd
            obtain ⟨ys, rfl, hy1, hy2⟩ := hs
            have hskip : ∀ c', c' ≤ c + l → (∃ ms', gAt lk ld (dSs ys) = some (dCost c' ms')) → Later F cs i n ks ds t (j + 1) lk ld := fun c' hc' ⟨ms', hg⟩ => hL.skip hm fun us2 c2 ms2 h1 h2 h3 l2 h4 us3 h5 h6 => by
              rw [hk] at h1
              have e1 : us = us2 := (List.map_inj_right (f := Sd.D.str) fun x y e => by cases e; rfl).mp (by
                have := Option.some.inj h1
                simpa only [dSs, Sd.D.tup.injEq] using this)
              subst e1
              rw [hz] at h2
              obtain ⟨rfl, rfl⟩ := dCost_inj (Option.some.inj h2)
              rw [hF] at h4
              cases h4
              have hnu : (us ++ [m]).Nodup := by
                rw [List.nodup_append]
                refine ⟨hus.nodup_iff.mpr hpart.1, by simp, fun a ha b hb e => ?_⟩
                rw [List.mem_singleton] at hb
                exact hmu (by rw [← hb, ← e]; exact ha)
              have : us3 = ys := sorted_perm_eq h5 hy1 hnu h6 hy2
              subst this
              exact ⟨c', ms', hg, hc'⟩
            have hsm := hL.small
            have hWs := hW.small
            have hstore : (∀ c' ms', gAt lk ld (dSs ys) = some (dCost c' ms') → c + l < c') → Later F cs i n ks ds t (j + 1) (gKs lk (dSs ys)) (gDs lk ld (dSs ys) (dCost (c + l) (ms ++ [m]))) := fun hc => hL.store hn hm hk hz hpart hus hmu hF hy1 hy2 hc
            have hp4 : 4 ^ i ≤ 4 ^ 4 := Nat.pow_le_pow_right (by omega) (by omega)
            have hjl : j < cs.length := by simpa using hj
            have htl : t < ks.length := ht
            have hsz : lk.length < sizeLine := by
              rw [sizeLine_eq]
              have : (4 : Nat) ^ 4 = 256 := rfl
              omega
            cases hg : gAt lk ld (dSs ys) with
            | none =>
              have hh : gHas lk (dSs ys) = false := by
                have := gAt_has (d := dSs ys) hL.len
                rw [hg] at this
                exact this.symm
              refine sd_if (k := true) ((et_or2 (k := true) (j := false) ((et_gnotin (ks := lk) (ds := ld) (hu9_of hr) (ed_var 9) (ed_var 3) (.own List.mem_cons_self) (dSs_key ys).1 (dSs_key ys).2).to (by rw [hh]; rfl)) fun z => by cases z).to rfl) (fun _ => ?_) (fun z => by cases z)
              refine sd_asg (EvP.em (P := (· = .val (dCost (c + l) (ms ++ [m])))) (ed_tup (ds := [.int ((c + l : Nat) : Int), dSs (ms ++ [m])]) (ea_cons (EvD.is (s := iv ((c : Int) + (l : Int))) (ed_add (ed_var 5) (ed_var 8)) (by simp)) (ea_cons (ed_tup (ds := (ms ++ [m]).map Sd.D.str) ((ea_star (ed_var 6) (.tup _) (ea_cons (ed_var 7) ea_nil)).is (by simp)) (by rw [sizeLine_eq, List.length_map, List.length_append, List.length_singleton, ← hus.length_eq]; omega)) ea_nil))) ?_)
              rintro _ rfl
              refine tgm_gd (ks := lk) (ds := ld) (y := dCost (c + l) (ms ++ [m])) (hu9_of hr) (ed_var 3) (ed_var 9) (dSs_key ys).1 (dSs_key ys).2 hsz .here ?_
              exact sd_back rfl (sd_back rfl (sd_stop rfl ⟨_, _, _, _, _, rfl, rfl, hstore fun c' ms' h => by rw [hg] at h; cases h⟩))
            | some z =>
              obtain ⟨ms', c', rfl, _, _⟩ := WayE.at hL.sound hg
              have hh : gHas lk (dSs ys) = true := by
                have := gAt_has (d := dSs ys) hL.len
                rw [hg] at this
                exact this.symm
              refine sd_if (k := decide ((c : Int) + (l : Int) < (c' : Int))) ((et_or2 (k := false) (j := decide ((c : Int) + (l : Int) < (c' : Int))) ((et_gnotin (ks := lk) (ds := ld) (hu9_of hr) (ed_var 9) (ed_var 3) (.own List.mem_cons_self) (dSs_key ys).1 (dSs_key ys).2).to (by rw [hh]; rfl)) fun _ => et_cmp (x := iv ((c : Int) + (l : Int))) (y := iv (c' : Nat)) (ed_add (ed_var 5) (ed_var 8)) (ed_ixT (ed_gget (z := dCost c' ms') (hu9_of hr) (ed_var 3) (ed_var 9) (.own List.mem_cons_self) (dSs_key ys).1 (dSs_key ys).2 hg) ed_int (.tup [.int (c' : Nat), dSs ms']) (atI_nat (j := 0) rfl)) cd_lt).to (by simp)) (fun hk9 => ?_) (fun hk9 => ?_)
              · have hlt := of_decide_eq_true hk9
                refine sd_asg (EvP.em (P := (· = .val (dCost (c + l) (ms ++ [m])))) (ed_tup (ds := [.int ((c + l : Nat) : Int), dSs (ms ++ [m])]) (ea_cons (EvD.is (s := iv ((c : Int) + (l : Int))) (ed_add (ed_var 5) (ed_var 8)) (by simp)) (ea_cons (ed_tup (ds := (ms ++ [m]).map Sd.D.str) ((ea_star (ed_var 6) (.tup _) (ea_cons (ed_var 7) ea_nil)).is (by simp)) (by rw [sizeLine_eq, List.length_map, List.length_append, List.length_singleton, ← hus.length_eq]; omega)) ea_nil))) ?_)
                rintro _ rfl
                refine tgm_gd (ks := lk) (ds := ld) (y := dCost (c + l) (ms ++ [m])) (hu9_of hr) (ed_var 3) (ed_var 9) (dSs_key ys).1 (dSs_key ys).2 hsz .here ?_
                refine sd_back rfl (sd_back rfl (sd_stop rfl ⟨_, _, _, _, _, rfl, rfl, hstore fun c2 ms2 h => ?_⟩))
                rw [hg] at h
                obtain ⟨rfl, _⟩ := dCost_inj (Option.some.inj h)
                omega
              · have hge := of_decide_eq_false hk9
                exact sd_back rfl (sd_back rfl (sd_stop rfl ⟨_, _, _, _, _, rfl, rfl, hskip c' (by omega) ⟨ms', hg⟩⟩))
      · rintro ow en ⟨lk, ld, z7, z8, z9, rfl, rfl, hL⟩
        rw [List.length_map] at hL
        exact sd_stop rfl ⟨_, _, _, _, _, _, _, _, rfl, rfl, hL.turn hc4⟩
    · rintro ow en ⟨lk, ld, z4, z5, z6, z7, z8, z9, rfl, rfl, hL⟩
      refine sd_set 1 (s := .ptr pl) (ed_var 3) ?_ nd
      refine SD.drop (ow' := [(pl, gdC P w K pl lk ld), owX K p dx cs fk fd x3 x4]) ?_ (.cons_cons _ (List.sublist_cons_self _ _))
      refine sd_lock (p := pl) (ks := lk) (ds := ld) List.mem_cons_self fun od2 es2 _ => ⟨_, .here, ?_⟩
      exact sd_stop rfl ⟨pl, od2, es2, lk, ld, _, _, _, _, _, _, _, _, rfl, rfl, later_ways hn hW hL⟩
  · rintro ow en ⟨pw, od, es, ks, ds, y2, y3, y4, y5, y6, y7, y8, y9, rfl, rfl, hW⟩
    rw [List.length_map] at hW
    refine sdp_ret Fn (P := fun s => ∃ c ms, s = .val (dCost c ms) ∧ Least F cs ms c) (ep_gget (ks := ks) (ds := ds) (Pb := fun s => ∃ ys, s = .val (dSs ys) ∧ ys.Perm cs ∧ sortedS ys = true) (hu9_of hr) (ed_var 1) (ep_callTy (A := fun ss => ∃ ys : List Str, ss = [.val (.lst (ys.map Sd.D.str))] ∧ ys.Perm cs ∧ sortedS ys = true) (eap_cons (ep_ofN (P := fun s => ∃ ys : List Str, s = .val (.lst (ys.map Sd.D.str)) ∧ ys.Perm cs ∧ sortedS ys = true) (en_callB (A2 := fun oc => ∃ ys : List Str, oc = .lst (ys.map sv) ∧ ys.Perm cs ∧ sortedS ys = true) (ea_cons (ep_fld (ed_var 0) (.own _ _ _ _ _ (List.mem_cons_of_mem _ List.mem_cons_self)) (T.cls _) (T.noat "Exchange" "chosen") rfl) ea_nil) (fun ss e => by rw [e]; exact cn_sortedTS (tupS cs) (by omega)) (T.free _) bb_sorted) fun oc ⟨ys, e, h1, h2⟩ => ⟨.lst (ys.map Sd.D.str), by rw [e, ← map_val_str]; exact .lst _, ys, rfl, h1, h2⟩) ea_nil fun s ss ⟨ys, e, h1, h2⟩ h3 => ⟨ys, by rw [e, h3], h1, h2⟩) (fun ss ⟨ys, e, h1, h2⟩ => by
      rw [e]
      exact ⟨(cl_tuple (.lst _)).ex.imp fun r h => ⟨h.1, fun B σ H vs S rs Q q => h.2 B σ H vs S rs Q fun z s B' H' p n r => q z s B' H' ⟨ys, p, h1, h2⟩ n r⟩⟩) (T.free _) bt_tuple) (.lck od es List.mem_cons_self) fun t ⟨ys, e, h1, h2⟩ => ?_) fun s ⟨c, ms, e, hL⟩ => ⟨[owX K p dx cs fk fd x3 x4], List.sublist_cons_self _ _, ?_⟩
    · obtain ⟨c, ms, g1, g2⟩ := ways_end hW hcn hFn h1 h2
      exact ⟨ys.map Sd.D.str, dCost c ms, e, (dSs_key ys).1, (dSs_key ys).2, g1, c, ms, rfl, g2⟩
    · rw [e]
      exact hp ms c hL
end
end Tx

/-! text M5 -/
set_option Elab.async false
set_option linter.all false
set_option maxRecDepth 100000
set_option maxHeartbeats 2000000
/-! M5: no ring of exchanges saves anything: the floors are right. -/
namespace Tx
open PySem
theorem tot_perm {F : Str → Str → Option Nat} {ns ns0 : List Str} (h : ns.Perm ns0) : ∀ {ms : List Str} {c : Nat}, tot F ns ms = some c → ∃ ms0, ms0.Perm ms ∧ tot F ns0 ms0 = some c := by
  induction h with
  | nil => intro ms c h; exact ⟨ms, .refl _, h⟩
  | @cons x l l' _ ih =>
    intro ms c h
    cases ms with
    | nil => cases h
    | cons m ms =>
      obtain ⟨a, b, h1, h2, rfl⟩ := tot_cons.mp h
      obtain ⟨ms0, p, q⟩ := ih h2
      exact ⟨m :: ms0, p.cons m, tot_cons.mpr ⟨a, b, h1, q, rfl⟩⟩
  | @swap x y l =>
    intro ms c h
    cases ms with
    | nil => cases h
    | cons m ms =>
      obtain ⟨a, b, h1, h2, rfl⟩ := tot_cons.mp h
      cases ms with
      | nil => cases h2
      | cons m2 ms =>
        obtain ⟨a2, b2, h3, h4, rfl⟩ := tot_cons.mp h2
        exact ⟨m2 :: m :: ms, .swap _ _ _, tot_cons.mpr ⟨a2, a + b2, h3, tot_cons.mpr ⟨a, b2, h1, h4, rfl⟩, by omega⟩⟩
  | trans _ _ ih1 ih2 =>
    intro ms c h
    obtain ⟨m1, p1, q1⟩ := ih1 h
    obtain ⟨m2, p2, q2⟩ := ih2 q1
    exact ⟨m2, p2.trans p1, q2⟩
theorem tot_permMap {F : Str → Str → Option Nat} {π : Str → Str} {ns ns0 : List Str} (h : ns.Perm ns0) : ∀ {c : Nat}, tot F ns (ns.map π) = some c → tot F ns0 (ns0.map π) = some c := by
  induction h with
  | nil => intro c h; exact h
  | @cons x l l' _ ih =>
    intro c h
    obtain ⟨a, b, h1, h2, rfl⟩ := tot_cons.mp h
    exact tot_cons.mpr ⟨a, b, h1, ih h2, rfl⟩
  | @swap x y l =>
    intro c h
    obtain ⟨a, b, h1, h2, rfl⟩ := tot_cons.mp h
    obtain ⟨a2, b2, h3, h4, rfl⟩ := tot_cons.mp h2
    exact tot_cons.mpr ⟨a2, a + b2, h3, tot_cons.mpr ⟨a, b2, h1, h4, rfl⟩, by omega⟩
  | trans _ _ ih1 ih2 => intro c h; exact ih2 (ih1 h)
theorem tot_app {F : Str → Str → Option Nat} : ∀ {n1 m1 : List Str} {a : Nat} {n2 m2 : List Str} {b : Nat}, tot F n1 m1 = some a → tot F n2 m2 = some b → tot F (n1 ++ n2) (m1 ++ m2) = some (a + b)
  | [], [], a, n2, m2, b, h1, h2 => by
    cases h1
    rw [Nat.zero_add]
    exact h2
  | [], _ :: _, _, _, _, _, h1, _ => by cases h1
  | _ :: _, [], _, _, _, _, h1, _ => by cases h1
  | n :: n1, m :: m1, a, n2, m2, b, h1, h2 => by
    obtain ⟨x, y, q1, q2, rfl⟩ := tot_cons.mp h1
    exact tot_cons.mpr ⟨x, y + b, q1, tot_app q2 h2, by omega⟩
theorem tot_split {F : Str → Str → Option Nat} : ∀ {n1 m1 : List Str} {n2 m2 : List Str} {c : Nat}, n1.length = m1.length → tot F (n1 ++ n2) (m1 ++ m2) = some c → ∃ a b, tot F n1 m1 = some a ∧ tot F n2 m2 = some b ∧ c = a + b
  | [], [], n2, m2, c, _, h => ⟨0, c, rfl, h, by omega⟩
  | [], _ :: _, _, _, _, hl, _ => by cases hl
  | _ :: _, [], _, _, _, hl, _ => by cases hl
  | n :: n1, m :: m1, n2, m2, c, hl, h => by
    obtain ⟨x, y, q1, q2, rfl⟩ := tot_cons.mp h
    obtain ⟨a, b, q3, q4, rfl⟩ := tot_split (by simpa using hl) q2
    exact ⟨x + a, b, tot_cons.mpr ⟨x, a, q1, q3, rfl⟩, q4, by omega⟩
/-- what name x saves by leaving its mate to o -/
def Wg (F : Str → Str → Option Nat) (π : Str → Str) (o x : Str) (d : Int) : Prop := ∃ a b, F o (π x) = some a ∧ F x (π x) = some b ∧ d = (a : Int) - (b : Int)
/-- a trail of such steps, the last name first -/
inductive Trail (F : Str → Str → Option Nat) (π : Str → Str) (cs : List Str) : List Str → Int → Prop
  | one {x : Str} (h : x ∈ cs) : Trail F π cs [x] 0
  | step {x o : Str} {l : List Str} {c d : Int} (h : x ∈ cs) (t : Trail F π cs (o :: l) c) (w : Wg F π o x d) : Trail F π cs (x :: o :: l) (c + d)
theorem Trail.mem {F : Str → Str → Option Nat} {π : Str → Str} {cs l : List Str} {c : Int} (t : Trail F π cs l c) : ∀ x ∈ l, x ∈ cs := by
  induction t with
  | one h => intro x hx; rw [List.mem_singleton.mp hx]; exact h
  | step h _ _ ih =>
    intro x hx
    rcases List.mem_cons.mp hx with rfl | hx
    · exact h
    · exact ih x hx
/-- a trail is cut at a name -/
theorem Trail.cut {F : Str → Str → Option Nat} {π : Str → Str} {cs : List Str} {y : Str} {B : List Str} : ∀ {A : List Str} {c : Int}, Trail F π cs (A ++ y :: B) c → ∃ a b, Trail F π cs (A ++ [y]) a ∧ Trail F π cs (y :: B) b ∧ c = a + b
  | [], c, t => ⟨0, c, .one (t.mem y List.mem_cons_self), t, by omega⟩
  | [x], c, t => by
    cases t with
    | step h t w => exact ⟨_, _, .step h (.one (t.mem y List.mem_cons_self)) w, t, by omega⟩
  | x :: x2 :: A, c, t => by
    cases t with
    | step h t w =>
      obtain ⟨a, b, t1, t2, rfl⟩ := Trail.cut (A := x2 :: A) t
      exact ⟨_, _, .step h t1 w, t2, by omega⟩
theorem Trail.tot {F : Str → Str → Option Nat} {π : Str → Str} {cs : List Str} {y : Str} : ∀ {x : Str} {l : List Str} {c : Int}, Trail F π cs (x :: l ++ [y]) c → ∃ a b : Nat, Tx.tot F (l ++ [y]) ((x :: l).map π) = some a ∧ Tx.tot F (x :: l) ((x :: l).map π) = some b ∧ c = (a : Int) - (b : Int)
  | x, [], c, t => by
    cases t with
    | step h t w =>
      cases t with
      | one h2 =>
        obtain ⟨a, b, h3, h4, rfl⟩ := w
        exact ⟨a, b, tot_cons.mpr ⟨a, 0, h3, rfl, rfl⟩, tot_cons.mpr ⟨b, 0, h4, rfl, rfl⟩, by omega⟩
  | x, x2 :: l, c, t => by
    cases t with
    | step h t w =>
      obtain ⟨a, b, h1, h2, rfl⟩ := Trail.tot (x := x2) (l := l) t
      obtain ⟨a2, b2, h3, h4, rfl⟩ := w
      exact ⟨a2 + a, b2 + b, tot_cons.mpr ⟨a2, a, h3, h1, rfl⟩, tot_cons.mpr ⟨b2, b, h4, h2, rfl⟩, by omega⟩
theorem nodup_cover {l cs : List Str} (hl : l.Nodup) (hs : ∀ x ∈ l, x ∈ cs) (hc : cs.Nodup) : ∃ rest, cs.Perm (l ++ rest) := by
  refine ⟨cs.filter fun x => decide (x ∉ l), ?_⟩
  have hn : (l ++ cs.filter fun x => decide (x ∉ l)).Nodup := by
    rw [List.nodup_append]
    refine ⟨hl, hc.sublist List.filter_sublist, fun a ha b hb e => ?_⟩
    have := (List.mem_filter.mp hb).2
    rw [decide_eq_true_eq] at this
    exact this (e ▸ ha)
  refine (List.perm_ext_iff_of_nodup hc hn).mpr fun x => ?_
  rw [List.mem_append, List.mem_filter, decide_eq_true_eq]
  constructor
  · intro h
    by_cases hx : x ∈ l
    · exact .inl hx
    · exact .inr ⟨h, hx⟩
  · rintro (h | h)
    · exact hs x h
    · exact h.1
/-- no ring saves -/
theorem ring_pos {F : Str → Str → Option Nat} {π : Str → Str} {cs : List Str} {c0 : Nat} (hcs : cs.Nodup) (hL : Least F cs (cs.map π) c0) {x : Str} {l : List Str} {c : Int} (hn : (x :: l).Nodup) (t : Trail F π cs (x :: l ++ [x]) c) : 0 ≤ c := by
  obtain ⟨a, b, h1, h2, rfl⟩ := t.tot
  obtain ⟨rest, hp⟩ := nodup_cover hn (fun y hy => t.mem y (List.mem_append_left _ hy)) hcs
  have h3 := tot_permMap hp hL.cost
  rw [List.map_append] at h3
  obtain ⟨b', r, h4, h5, rfl⟩ := tot_split (by simp) h3
  rw [h2] at h4
  cases h4
  have h6 := tot_app h1 h5
  have hp2 : (l ++ [x] ++ rest).Perm cs := (List.Perm.append_right rest (List.perm_append_singleton x l)).trans hp.symm
  obtain ⟨ms0, p, q⟩ := tot_perm hp2 h6
  have p2 : ms0.Perm cs := by
    refine p.trans ?_
    rw [← List.map_append]
    exact (hp.symm.map π).trans hL.perm
  have := hL.least ms0 _ p2 q
  omega
/-- a trail may be taken without repeats -/
theorem Trail.short {F : Str → Str → Option Nat} {π : Str → Str} {cs : List Str} {c0 : Nat} (hcs : cs.Nodup) (hL : Least F cs (cs.map π) c0) {l : List Str} {c : Int} (t : Trail F π cs l c) : ∃ l' c', l'.head? = l.head? ∧ l'.Nodup ∧ Trail F π cs l' c' ∧ c' ≤ c := by
  induction t with
  | @one x h => exact ⟨[x], 0, rfl, by simp, .one h, Int.le_refl _⟩
  | @step x o l c d h t w ih =>
    obtain ⟨l', c', h1, h2, h3, h4⟩ := ih
    cases l' with
    | nil => cases h1
    | cons o' l' =>
      simp only [List.head?_cons, Option.some.injEq] at h1
      subst h1
      by_cases hx : x ∈ o' :: l'
      · obtain ⟨A, B, e⟩ := List.append_of_mem hx
        have t2 : Trail F π cs (x :: o' :: l') (c' + d) := .step h h3 w
        rw [e] at t2
        obtain ⟨a, b, t3, t4, e5⟩ := Trail.cut (A := x :: A) t2
        rw [e] at h2
        have hxA : (x :: A).Nodup := by
          have h2' := List.nodup_append.mp h2
          refine List.nodup_cons.mpr ⟨fun hm => h2'.2.2 x hm x List.mem_cons_self rfl, h2'.1⟩
        have := ring_pos hcs hL hxA t3
        exact ⟨x :: B, b, rfl, (List.nodup_append.mp h2).2.1, t4, by omega⟩
      · exact ⟨x :: o' :: l', c' + d, rfl, List.nodup_cons.mpr ⟨hx, h2⟩, .step h h3 w, by omega⟩
theorem nodup_lenS {l cs : List Str} (hl : l.Nodup) (hs : ∀ x ∈ l, x ∈ cs) : l.length ≤ cs.length := by
  induction l generalizing cs with
  | nil => exact Nat.zero_le _
  | cons a l ih =>
    obtain ⟨A, B, e⟩ := List.append_of_mem (hs a List.mem_cons_self)
    rw [List.nodup_cons] at hl
    have := ih (cs := A ++ B) hl.2 fun x hx => by
      have h1 := hs x (List.mem_cons_of_mem _ hx)
      rw [e] at h1
      have ne : x ≠ a := fun z => hl.1 (z ▸ hx)
      simp only [List.mem_append, List.mem_cons] at h1 ⊢
      rcases h1 with h1 | h1 | h1
      · exact .inl h1
      · exact absurd h1 ne
      · exact .inr h1
    rw [e]
    simp only [List.length_append, List.length_cons] at this ⊢
    omega
/-- the loop's word: f tells trails, and is below all of at most r steps (those to names before i of r + 1 steps, and so on) -/
structure Flo (F : Str → Str → Option Nat) (π : Str → Str) (cs : List Str) (r i j : Nat) (f : Str → Int) : Prop where
  sound : ∀ x ∈ cs, ∃ l, Trail F π cs (x :: l) (f x)
  all : ∀ x l c, Trail F π cs (x :: l) c → l.length ≤ r → f x ≤ c
  upto : ∀ x ∈ cs.take i, ∀ l c, Trail F π cs (x :: l) c → l.length ≤ r + 1 → f x ≤ c
  here : ∀ x, cs[i]? = some x → ∀ o ∈ cs.take j, ∀ l c d, Trail F π cs (o :: l) c → l.length ≤ r → Wg F π o x d → f x ≤ c + d
theorem Flo.zero {F : Str → Str → Option Nat} {π : Str → Str} {cs : List Str} : Flo F π cs 0 0 0 fun _ => 0 where
  sound x h := ⟨[], .one h⟩
  all x l c t hl := by
    cases t with
    | one h => exact Int.le_refl _
    | step _ _ _ => simp at hl
  upto x h := by simp at h
  here x _ o ho := by simp at ho
theorem Flo.turn {F : Str → Str → Option Nat} {π : Str → Str} {cs : List Str} {r : Nat} {f : Str → Int} (h : Flo F π cs r cs.length 0 f) : Flo F π cs (r + 1) 0 0 f where
  sound := h.sound
  all x l c t hl := h.upto x (by rw [List.take_length]; exact t.mem x List.mem_cons_self) l c t hl
  upto x h := by simp at h
  here x _ o ho := by simp at ho
theorem Flo.next {F : Str → Str → Option Nat} {π : Str → Str} {cs : List Str} {r i : Nat} {f : Str → Int} (hi : i < cs.length) (h : Flo F π cs r i cs.length f) : Flo F π cs r (i + 1) 0 f where
  sound := h.sound
  all := h.all
  upto x hx l c t hl := by
    rw [List.take_succ_eq_append_getElem hi, List.mem_append, List.mem_singleton] at hx
    rcases hx with hx | rfl
    · exact h.upto x hx l c t hl
    · cases t with
      | one hh => exact h.all _ _ _ (.one hh) (Nat.zero_le _)
      | step hh t w => exact h.here _ (List.getElem?_eq_getElem hi) _ (by rw [List.take_length]; exact t.mem _ List.mem_cons_self) _ _ _ t (by simpa using hl) w
  here x _ o ho := by simp at ho
def upF (f : Str → Int) (x : Str) (v : Int) : Str → Int := fun y => if y = x then v else f y
theorem Flo.skip {F : Str → Str → Option Nat} {π : Str → Str} {cs : List Str} {r i j : Nat} {f : Str → Int} {x o : Str} (hi : cs[i]? = some x) (hj : cs[j]? = some o) (h : Flo F π cs r i j f) (hF : F o (π x) = none) : Flo F π cs r i (j + 1) f where
  sound := h.sound
  all := h.all
  upto := h.upto
  here y hy o' ho' l c d t hl w := by
    obtain ⟨hj1, hj2⟩ := List.getElem?_eq_some_iff.mp hj
    rw [List.take_succ_eq_append_getElem hj1, List.mem_append, List.mem_singleton] at ho'
    rcases ho' with ho' | rfl
    · exact h.here y hy o' ho' l c d t hl w
    · rw [hi] at hy
      cases hy
      obtain ⟨a, b, h1, _⟩ := w
      rw [hj2, hF] at h1
      cases h1
theorem Flo.step {F : Str → Str → Option Nat} {π : Str → Str} {cs : List Str} {r i j : Nat} {f : Str → Int} {x o : Str} {a b : Nat} (hi : cs[i]? = some x) (hj : cs[j]? = some o) (h : Flo F π cs r i j f) (hF : F o (π x) = some a) (hG : F x (π x) = some b) : Flo F π cs r i (j + 1) (upF f x (min (f x) (f o + a - b))) := by
  have hxc := List.mem_of_getElem? hi
  have hoc := List.mem_of_getElem? hj
  have hle : ∀ y, upF f x (min (f x) (f o + a - b)) y ≤ f y := fun y => by
    unfold upF
    split
    · rename_i e; subst e; omega
    · exact Int.le_refl _
  refine ⟨fun y hy => ?_, fun y l c t hl => Int.le_trans (hle y) (h.all y l c t hl), fun y hy l c t hl => Int.le_trans (hle y) (h.upto y hy l c t hl), fun y hy o' ho' l c d t hl w => ?_⟩
  · by_cases e : y = x
    · subst e
      show ∃ l, Trail F π cs (y :: l) (if y = y then min (f y) (f o + a - b) else f y)
      rw [if_pos rfl]
      by_cases hm : f y ≤ f o + a - b
      · rw [Int.min_eq_left hm]; exact h.sound y hy
      · rw [Int.min_eq_right (by omega)]
        obtain ⟨l, t⟩ := h.sound o hoc
        refine ⟨o :: l, ?_⟩
        have : f o + (a : Int) - (b : Int) = f o + ((a : Int) - (b : Int)) := by omega
        rw [this]
        exact .step hy t ⟨a, b, hF, hG, rfl⟩
    · obtain ⟨l, t⟩ := h.sound y hy
      refine ⟨l, ?_⟩
      show Trail F π cs (y :: l) (if y = x then min (f x) (f o + a - b) else f y)
      rw [if_neg e]
      exact t
  · obtain ⟨hj1, hj2⟩ := List.getElem?_eq_some_iff.mp hj
    rw [List.take_succ_eq_append_getElem hj1, List.mem_append, List.mem_singleton] at ho'
    rcases ho' with ho' | rfl
    · exact Int.le_trans (hle y) (h.here y hy o' ho' l c d t hl w)
    · rw [hi] at hy
      cases hy
      rw [hj2] at t w
      obtain ⟨a', b', h1, h2, rfl⟩ := w
      rw [hF] at h1
      rw [hG] at h2
      cases h1
      cases h2
      have := h.all o l c t hl
      show (if x = x then min (f x) (f o + a - b) else f x) ≤ _
      rw [if_pos rfl]
      omega
/-- the floors settle -/
theorem Flo.fix {F : Str → Str → Option Nat} {π : Str → Str} {cs : List Str} {c0 : Nat} {f : Str → Int} (hcs : cs.Nodup) (hL : Least F cs (cs.map π) c0) (h : Flo F π cs cs.length 0 0 f) {x o : Str} {d : Int} (hx : x ∈ cs) (ho : o ∈ cs) (w : Wg F π o x d) : f x ≤ f o + d := by
  obtain ⟨l, t⟩ := h.sound o ho
  obtain ⟨l', c', h1, h2, h3, h4⟩ := (Trail.step hx t w).short hcs hL
  cases l' with
  | nil => cases h1
  | cons y l' =>
    simp only [List.head?_cons, Option.some.injEq] at h1
    subst h1
    have := nodup_lenS h2 h3.mem
    have := h.all _ _ _ h3 (by rw [List.length_cons] at this; omega)
    omega
end Tx

/-! text M6 -/
set_option Elab.async false
set_option linter.all false
set_option maxRecDepth 100000
set_option maxHeartbeats 2000000
/-! M6: what is reached from a work, and how far behind; the first lag is the least. -/
namespace Tx
open PySem
/-- y's begin (place 1) or end (place 0) waits for the end of a, d numbers back -/
inductive Reach (L : Ln) (a : Str) : Nat → Nat → Str → Prop
  | start : Reach L a 0 0 a
  | beg {d : Nat} {x : Str} {e : Ent} (hx : x ∈ L.names) (he : e ∈ L.entOf x) (h : Reach L a d e.pl e.src) : Reach L a (d + e.lag) 1 x
  | fin {d : Nat} {x : Str} (h : Reach L a d 1 x) : Reach L a d 0 x
theorem Reach.le {L : Ln} {a : Str} {d pl : Nat} {y : Str} (h : Reach L a d pl y) : pl ≤ 1 := by
  cases h <;> omega
theorem now_reach {L : Ln} {a : Str} {rows : List Row} (hR : Rows L a rows) : ∀ {d : Nat}, d ≤ rows.length → ∀ {pl : Nat} {y : Str}, Now L a (rows.take d) pl y → Reach L a d pl y := by
  intro d
  induction d using Nat.strongRecOn with
  | ind d ih =>
    intro hd pl y h
    have hl : (rows.take d).length = d := by rw [List.length_take]; omega
    induction h with
    | start h =>
      rw [h] at hl
      subst hl
      exact .start
    | @beg x e hx he h0 hle hm =>
      rw [hl] at hle hm
      have hlt : d - e.lag < d := by omega
      have hg : (rows.take d)[d - e.lag]? = some rows[d - e.lag] := by
        rw [List.getElem?_take, if_pos hlt]
        exact List.getElem?_eq_getElem (by omega)
      rw [List.getD_eq_getElem?_getD, hg, Option.getD_some] at hm
      have hr := hR (d - e.lag) _ (List.getElem?_eq_getElem (by omega))
      have hp := ent_pl e he
      have hn : Now L a (rows.take (d - e.lag)) e.pl e.src := by
        unfold Row.at_ at hm
        by_cases h1 : e.pl = 0
        · rw [if_pos h1] at hm
          rw [h1]
          exact (hr.ends _).mp hm
        · rw [if_neg h1] at hm
          have : e.pl = 1 := by omega
          rw [this]
          exact (hr.begins _).mp hm
      have := Reach.beg hx he (ih _ hlt (by omega) hn)
      rw [Nat.sub_add_cancel hle] at this
      exact this
    | @beg0 x e hx he h0 h ih2 =>
      have := Reach.beg hx he ih2
      rw [h0] at this
      exact this
    | fin h ih2 => exact .fin ih2
theorem reach_now {L : Ln} {a : Str} {rows : List Row} (hR : Rows L a rows) {d pl : Nat} {y : Str} (h : Reach L a d pl y) : d ≤ rows.length → Now L a (rows.take d) pl y := by
  induction h with
  | start => intro _; exact .start rfl
  | @beg d x e hx he h ih =>
    intro hd
    by_cases h0 : e.lag = 0
    · rw [h0]
      exact .beg0 hx he h0 (ih (by omega))
    · have hl : (rows.take (d + e.lag)).length = d + e.lag := by rw [List.length_take]; omega
      refine .beg hx he h0 (by omega) ?_
      rw [hl, Nat.add_sub_cancel]
      have hg : (rows.take (d + e.lag))[d]? = some rows[d] := by
        rw [List.getElem?_take, if_pos (by omega)]
        exact List.getElem?_eq_getElem (by omega)
      rw [List.getD_eq_getElem?_getD, hg, Option.getD_some]
      have hr := hR d _ (List.getElem?_eq_getElem (by omega))
      have hn := ih (by omega)
      have hp := ent_pl e he
      unfold Row.at_
      by_cases h1 : e.pl = 0
      · rw [if_pos h1]
        rw [h1] at hn
        exact (hr.ends _).mpr hn
      · rw [if_neg h1]
        have : e.pl = 1 := by omega
        rw [this] at hn
        exact (hr.begins _).mpr hn
  | fin h ih => intro hd; exact .fin (ih hd)
/-- a row tells what is reached -/
theorem reach_row {L : Ln} {a : Str} {rows : List Row} (hR : Rows L a rows) {d : Nat} {r : Row} (hr : rows[d]? = some r) {pl : Nat} (hp : pl ≤ 1) {y : Str} : y ∈ r.at_ pl ↔ Reach L a d pl y := by
  have hd := (List.getElem?_eq_some_iff.mp hr).1
  have h := hR d r hr
  have key : y ∈ r.at_ pl ↔ Now L a (rows.take d) pl y := by
    unfold Row.at_
    by_cases h1 : pl = 0
    · rw [if_pos h1, h1]; exact h.ends _
    · rw [if_neg h1]
      have : pl = 1 := by omega
      rw [this]; exact h.begins _
  rw [key]
  exact ⟨now_reach hR (by omega), fun q => reach_now hR q (by omega)⟩
/-- two reaches one behind the other -/
theorem Reach.trans {L : Ln} {a b : Str} {d d2 : Nat} {pl : Nat} {y : Str} (h : Reach L a d 1 b) (k : Reach L b d2 pl y) : Reach L a (d + d2) pl y := by
  induction k with
  | start => exact .fin h
  | beg hx he _ ih =>
    rw [← Nat.add_assoc]
    exact .beg hx he ih
  | fin _ ih => exact .fin ih
theorem ent_lag {L : Ln} {w : Nat} (hW : L.Wide w) {x : Str} : ∀ e ∈ L.entOf x, e.lag ≤ w := by
  unfold Ln.entOf
  split
  · rename_i s hs
    have hs := List.mem_of_find?_eq_some hs
    intro e he
    unfold entK at he
    rcases List.mem_append.mp he with he | he
    · unfold St3.ent at he
      split at he
      · cases he
      · rename_i h hh
        rw [List.mem_singleton.mp he]
        have := hW.hands s hs h hh
        show h.toNat ≤ w
        omega
    · obtain ⟨l, hl, rfl⟩ := List.mem_map.mp he
      have := hW.stocks l (List.mem_filter.mp hl).1
      show l.stock.toNat ≤ w
      omega
  · intro e he
    cases he
theorem reach_shift {L : Ln} {w : Nat} {a : Str} {rows : List Row} (hW : L.Wide w) (hR : Rows L a rows) {i k : Nat} (hk : k + w ≤ rows.length) (hi : i + w ≤ rows.length) (e : win rows w i = win rows w k) {d pl : Nat} {y : Str} (h : Reach L a d pl y) : ∀ j, d = i + j → Reach L a (k + j) pl y := by
  have near : ∀ {d pl : Nat} {y : Str}, Reach L a d pl y → ∀ j, j < w → d = i + j → Reach L a (k + j) pl y := by
    intro d pl y h j hj ed
    have h1 := win_get (rows := rows) (w := w) (i := i) hj
    have h2 := win_get (rows := rows) (w := w) (i := k) hj
    rw [e] at h1
    have e3 : rows[i + j]? = rows[k + j]? := h1.symm.trans h2
    have hr : rows[k + j]? = some rows[k + j] := List.getElem?_eq_getElem (by omega)
    subst ed
    exact (reach_row hR hr h.le).mp ((reach_row hR (e3.trans hr) h.le).mpr h)
  induction h with
  | start => intro j e2; exact near .start j (by have := hW.one; omega) e2
  | @beg d x e2 hx he h ih =>
    intro j e3
    by_cases hj : j < w
    · exact near (.beg hx he h) j hj e3
    · have hlag := ent_lag hW e2 he
      have := Reach.beg hx he (ih (j - e2.lag) (by omega))
      rw [Nat.add_assoc, Nat.sub_add_cancel (by omega)] at this
      exact this
  | @fin d x h ih => intro j e2; exact .fin (ih j e2)
theorem reach_small {L : Ln} {w : Nat} {a : Str} (hW : L.Wide w) (W : Went L w a) {pl : Nat} {y : Str} : ∀ {d : Nat}, Reach L a d pl y → ∃ d', d' ≤ d ∧ d' < W.e ∧ Reach L a d' pl y := by
  intro d
  induction d using Nat.strongRecOn with
  | ind d ih =>
    intro h
    by_cases hd : d < W.e
    · exact ⟨d, Nat.le_refl _, hd, h⟩
    · have hb := W.lt
      have hl := W.len
      have := reach_shift hW W.is (i := W.e) (k := W.b) (by omega) (by omega) W.again.symm h (d - W.e) (by omega)
      obtain ⟨d', h1, h2, h3⟩ := ih (W.b + (d - W.e)) (by omega) this
      exact ⟨d', by omega, h2, h3⟩
theorem fgs_at {L : Ln} {w : Nat} {a : Str} (W : Went L w a) {y : Str} {k : Nat} : (fgs W.rows W.b W.e 1 y)[k]? = some true ↔ k < W.e ∧ Reach L a k 1 y := by
  have hb := W.lt
  have hl := W.len
  have he : W.b + (W.e - W.b) = W.e := by omega
  unfold fgs
  rw [he]
  by_cases hk : k < W.e
  · rw [flagsL_get _ _ _ hk]
    have hr : W.rows[k]? = some W.rows[k] := List.getElem?_eq_getElem (by omega)
    rw [← reach_row W.is hr (Nat.le_refl 1)]
    unfold atRows
    rw [Option.some.injEq, decide_eq_true_iff, List.mem_filter, List.mem_range, decide_eq_true_iff, List.getD_eq_getElem?_getD, hr, Option.getD_some]
  · have : (flagsL (atRows W.rows 1 y W.e) W.e)[k]? = none := List.getElem?_eq_none (by rw [flagsL_len]; omega)
    rw [this]
    constructor
    · intro h; cases h
    · intro h; exact absurd h.1 hk
theorem trues_mem {fl : List Bool} {k : Nat} : k ∈ trues fl ↔ fl[k]? = some true := by
  unfold trues
  rw [List.mem_filter, List.mem_range, List.getD_eq_getElem?_getD]
  constructor
  · rintro ⟨h1, h2⟩
    rw [List.getElem?_eq_getElem h1] at h2 ⊢
    rw [Option.getD_some] at h2
    rw [h2]
  · intro h
    rw [h]
    exact ⟨(List.getElem?_eq_some_iff.mp h).1, rfl⟩
theorem trues_first {fl : List Bool} {k : Nat} (h : (trues fl)[0]? = some k) : fl[k]? = some true ∧ ∀ j, fl[j]? = some true → k ≤ j := by
  refine ⟨trues_mem.mp (List.mem_of_getElem? h), fun j hj => ?_⟩
  have hj := trues_mem.mpr hj
  have hs : (trues fl).Pairwise (· < ·) := by
    unfold trues
    exact List.Pairwise.filter _ List.pairwise_lt_range
  cases e : trues fl with
  | nil => rw [e] at h; cases h
  | cons a l =>
    rw [e] at h hj hs
    cases h
    rcases List.mem_cons.mp hj with q | q
    · omega
    · exact Nat.le_of_lt ((List.pairwise_cons.mp hs).1 j q)
/-- the first true flag stays under the least form -/
theorem formed_first {fl : List Bool} {st sz : Nat} (h : Formed fl st sz) {k : Nat} (hk : fl[k]? = some true) : ∃ j, j ≤ k ∧ j < st + sz ∧ fl[j]? = some true := by
  induction k using Nat.strongRecOn with
  | ind k ih =>
    by_cases hl : k < st + sz
    · exact ⟨k, Nat.le_refl _, hl, hk⟩
    · have hlen := (List.getElem?_eq_some_iff.mp hk).1
      have hsz : 1 ≤ sz := h.one
      have := h.again (k - sz) (by omega) (by omega)
      rw [Nat.sub_add_cancel (by omega), hk] at this
      obtain ⟨j, h1, h2, h3⟩ := ih (k - sz) (by omega) this
      exact ⟨j, by omega, h2, h3⟩
/-- the first lag is the least -/
theorem first_reach {L : Ln} {n m : Str} {f : Option Nat} (h : FirstV L n m f) : (∀ l, f = some l → Reach L n l 1 m) ∧ ∀ d, Reach L n d 1 m → ∃ l, l ≤ d ∧ f = some l := by
  obtain ⟨wd, W, st, sz, hW, hF, h⟩ := h
  have sound : ∀ k, ((fgs W.rows W.b W.e 1 m).take (st + sz))[k]? = some true → k < st + sz ∧ (fgs W.rows W.b W.e 1 m)[k]? = some true := fun k hk => by
    rw [List.getElem?_take] at hk
    split at hk
    · exact ⟨by assumption, hk⟩
    · cases hk
  have compl : ∀ d, Reach L n d 1 m → ∃ j, j ≤ d ∧ ((fgs W.rows W.b W.e 1 m).take (st + sz))[j]? = some true := fun d hd => by
    obtain ⟨d', h1, h2, h3⟩ := reach_small hW W hd
    obtain ⟨j, h4, h5, h6⟩ := formed_first hF ((fgs_at W).mpr ⟨h2, h3⟩)
    refine ⟨j, by omega, ?_⟩
    rw [List.getElem?_take, if_pos h5]
    exact h6
  rcases h with ⟨h1, rfl⟩ | ⟨k, hk, rfl⟩
  · refine ⟨fun l hl => (nomatch hl), fun d hd => ?_⟩
    obtain ⟨j, _, h2⟩ := compl d hd
    rw [List.any_eq_false] at h1
    exact absurd rfl (h1 true (List.mem_of_getElem? h2))
  · obtain ⟨h1, h2⟩ := trues_first hk
    refine ⟨fun l hl => ?_, fun d hd => ?_⟩
    · cases hl
      exact ((fgs_at W).mp (sound k h1).2).2
    · obtain ⟨j, h3, h4⟩ := compl d hd
      exact ⟨k, Nat.le_trans (h2 j h4) h3, rfl⟩
end Tx

/-! text M7 -/
set_option Elab.async false
set_option linter.all false
set_option maxRecDepth 100000
set_option maxHeartbeats 2000000
/-! M7: plays: never more at once than an exchange costs; the shown tasks begin at once. -/
namespace Tx
open PySem
abbrev pv (bg en : Str → Nat → Int) (pl : Nat) : Str → Nat → Int := if pl = 0 then en else bg
/-- each work begins when all it waits for is done -/
structure IsPlay (L : Ln) (K : Nat) (bg en : Str → Nat → Int) : Prop where
  nn : ∀ x ∈ L.names, ∀ k, 1 ≤ k → k ≤ K → 0 ≤ bg x k
  span : ∀ x ∈ L.names, ∀ k, 1 ≤ k → k ≤ K → bg x k ≤ en x k
  wait : ∀ x ∈ L.names, ∀ k, 1 ≤ k → k ≤ K → ∀ e ∈ L.entOf x, e.lag < k → pv bg en e.pl e.src (k - e.lag) ≤ bg x k
  due : ∀ x ∈ L.names, ∀ k, 1 ≤ k → k ≤ K → bg x k = 0 ∨ ∃ e ∈ L.entOf x, e.lag < k ∧ pv bg en e.pl e.src (k - e.lag) = bg x k
theorem Reach.mem1 {L : Ln} {a : Str} {d : Nat} {y : Str} (h : Reach L a d 1 y) : y ∈ L.names := by
  cases h with
  | beg hx _ _ => exact hx
theorem play_reach {L : Ln} {K : Nat} {bg en : Str → Nat → Int} (hP : IsPlay L K bg en) {a : Str} {d pl : Nat} {y : Str} (h : Reach L a d pl y) : ∀ k, 1 ≤ k → k + d ≤ K → en a k ≤ pv bg en pl y (k + d) := by
  induction h with
  | start => intro k _ _; exact Int.le_refl _
  | @beg d x e hx he h ih =>
    intro k h1 h2
    have i1 := ih k h1 (by omega)
    have i2 := hP.wait x hx (k + (d + e.lag)) (by omega) h2 e he (by omega)
    have e3 : k + (d + e.lag) - e.lag = k + d := by omega
    rw [e3] at i2
    exact Int.le_trans i1 i2
  | @fin d x h ih =>
    intro k h1 h2
    exact Int.le_trans (ih k h1 h2) (hP.span x h.mem1 (k + d) (by omega) h2)
/-! ### counting -/
theorem cnt_shift {g e : Nat → Bool} {l : Nat} : ∀ K, (∀ k, k + l < K → g (k + l) = true → e k = true) → (List.range K).countP g ≤ l + (List.range (K - l)).countP e
  | 0, _ => by simp
  | K + 1, h => by
    have ih := cnt_shift K fun k hk => h k (by omega)
    rw [List.range_succ, List.countP_append, List.countP_singleton]
    by_cases hl : K < l
    · have h1 : (List.range K).countP g ≤ K := by
        have := List.countP_le_length (p := g) (l := List.range K)
        rwa [List.length_range] at this
      have h2 : (if g K = true then 1 else 0) ≤ 1 := by split <;> omega
      omega
    · have e1 : K + 1 - l = K - l + 1 := by omega
      rw [e1, List.range_succ, List.countP_append, List.countP_singleton]
      have h2 := h (K - l) (by omega)
      rw [Nat.sub_add_cancel (by omega)] at h2
      by_cases hg : g K = true
      · rw [if_pos hg, if_pos (h2 hg)]; omega
      · rw [if_neg hg]; omega
theorem cnt_more {e : Nat → Bool} {a b : Nat} (h : a ≤ b) : (List.range a).countP e ≤ (List.range b).countP e := by
  have : (List.range a).Sublist (List.range b) := by
    have e1 : List.range a = (List.range b).take a := by rw [List.take_range, Nat.min_eq_left h]
    rw [e1]
    exact List.take_sublist _ _
  exact this.countP_le
/-- how many of the first K numbers -/
def cnt (p : Str → Nat → Bool) (K : Nat) (x : Str) : Nat := (List.range K).countP fun k => p x (k + 1)
theorem cnt_pair {p q : Str → Nat → Bool} {K l : Nat} {n m : Str} (h : ∀ k, 1 ≤ k → k + l ≤ K → p m (k + l) = true → q n k = true) : cnt p K m ≤ l + cnt q K n := by
  have h1 := cnt_shift (g := fun k => p m (k + 1)) (e := fun k => q n (k + 1)) (l := l) K fun k hk hg => h (k + 1) (by omega) (by omega) (by
    have e : k + 1 + l = k + l + 1 := by omega
    rw [e]
    exact hg)
  exact Nat.le_trans h1 (Nat.add_le_add_left (cnt_more (Nat.sub_le _ _)) _)
theorem cnt_tot {F : Str → Str → Option Nat} {p q : Str → Nat → Bool} {K : Nat} (h : ∀ n m l, F n m = some l → ∀ k, 1 ≤ k → k + l ≤ K → p m (k + l) = true → q n k = true) : ∀ {ns ms : List Str} {c : Nat}, tot F ns ms = some c → (ms.map (cnt p K)).sum ≤ c + (ns.map (cnt q K)).sum
  | [], [], c, hc => by simp
  | [], _ :: _, _, hc => by cases hc
  | _ :: _, [], _, hc => by cases hc
  | n :: ns, m :: ms, c, hc => by
    obtain ⟨a, b, h1, h2, rfl⟩ := tot_cons.mp hc
    have i1 := cnt_pair (h n m a h1)
    have i2 := cnt_tot h h2
    rw [List.map_cons, List.map_cons, List.sum_cons, List.sum_cons]
    omega
theorem cnt_tot' {F : Str → Str → Option Nat} {p q : Str → Nat → Bool} {K : Nat} {cs : List Str} (h : ∀ n ∈ cs, ∀ m ∈ cs, ∀ l, F n m = some l → ∀ k, 1 ≤ k → k + l ≤ K → p m (k + l) = true → q n k = true) : ∀ {ns ms : List Str} {c : Nat}, (∀ n ∈ ns, n ∈ cs) → (∀ m ∈ ms, m ∈ cs) → tot F ns ms = some c → (ms.map (cnt p K)).sum ≤ c + (ns.map (cnt q K)).sum
  | [], [], c, _, _, hc => by simp
  | [], _ :: _, _, _, _, hc => by cases hc
  | _ :: _, [], _, _, _, hc => by cases hc
  | n :: ns, m :: ms, c, hn, hm, hc => by
    obtain ⟨a, b, h1, h2, rfl⟩ := tot_cons.mp hc
    have i1 := cnt_pair (h n (hn n List.mem_cons_self) m (hm m List.mem_cons_self) a h1)
    have i2 := cnt_tot' h (fun x hx => hn x (List.mem_cons_of_mem _ hx)) (fun x hx => hm x (List.mem_cons_of_mem _ hx)) h2
    rw [List.map_cons, List.map_cons, List.sum_cons, List.sum_cons]
    omega
theorem cnt_add {p q r : Str → Nat → Bool} {K : Nat} {x : Str} (h : ∀ k, 1 ≤ k → k ≤ K → p x k = (q x k && !r x k)) (hr : ∀ k, 1 ≤ k → k ≤ K → r x k = true → q x k = true) : cnt p K x + cnt r K x = cnt q K x := by
  unfold cnt
  have key : ∀ n, n ≤ K → (List.range n).countP (fun k => p x (k + 1)) + (List.range n).countP (fun k => r x (k + 1)) = (List.range n).countP (fun k => q x (k + 1)) := fun n => by
    induction n with
    | zero => intro _; rfl
    | succ n ih =>
      intro hn
      have ih := ih (by omega)
      rw [List.range_succ, List.countP_append, List.countP_append, List.countP_append, List.countP_singleton, List.countP_singleton, List.countP_singleton]
      have h1 := h (n + 1) (by omega) hn
      have h2 := hr (n + 1) (by omega) hn
      simp only [h1]
      cases hq : q x (n + 1) <;> cases hr2 : r x (n + 1) <;> simp_all <;> omega
  exact key K (Nat.le_refl _)
theorem sum_perm {f : Str → Nat} {a b : List Str} (h : a.Perm b) : (a.map f).sum = (b.map f).sum := by
  induction h with
  | nil => rfl
  | cons x _ ih => simp only [List.map_cons, List.sum_cons]; omega
  | swap x y l => simp only [List.map_cons, List.sum_cons]; omega
  | trans _ _ i1 i2 => omega
/-- the weak half: never more at a moment than an exchange costs -/
theorem play_most {L : Ln} {K : Nat} {bg en : Str → Nat → Int} (hP : IsPlay L K bg en) {F : Str → Str → Option Nat} {cs ms : List Str} {c : Nat} (hcs : ∀ n ∈ cs, n ∈ L.names) (hF : ∀ n ∈ cs, ∀ m ∈ cs, ∀ l, F n m = some l → Reach L n l 1 m) (hp : ms.Perm cs) (hc : tot F cs ms = some c) (t : Int) :
    (cs.map (cnt (fun x k => decide (bg x k ≤ t) && decide (t < en x k)) K)).sum ≤ c := by
  have h1 := cnt_tot' (F := F) (p := fun x k => decide (bg x k ≤ t)) (q := fun x k => decide (en x k ≤ t)) (K := K) (cs := cs) (fun n hn m hm l hl k h1 h2 hg => by
    have hg := of_decide_eq_true hg
    have := play_reach hP (hF n hn m hm l hl) k h1 h2
    have this : en n k ≤ bg m (k + l) := this
    exact decide_eq_true (by omega)) (fun n hn => hn) (fun m hm => hp.mem_iff.mp hm) hc
  rw [sum_perm hp] at h1
  have h2 : ∀ l : List Str, (∀ n ∈ l, n ∈ L.names) → (l.map (cnt (fun x k => decide (bg x k ≤ t) && decide (t < en x k)) K)).sum + (l.map (cnt (fun x k => decide (en x k ≤ t)) K)).sum = (l.map (cnt (fun x k => decide (bg x k ≤ t)) K)).sum := fun l => by
    induction l with
    | nil => intro _; rfl
    | cons x l ih =>
      intro hl
      have ih := ih fun y hy => hl y (List.mem_cons_of_mem _ hy)
      have := cnt_add (p := fun x k => decide (bg x k ≤ t) && decide (t < en x k)) (q := fun x k => decide (bg x k ≤ t)) (r := fun x k => decide (en x k ≤ t)) (K := K) (x := x) (fun k _ _ => by
        show _ = (decide (bg x k ≤ t) && !decide (en x k ≤ t))
        congr 1
        rw [← decide_not, decide_eq_decide]
        omega) (fun k h1 h2 h => by
        have := hP.span x (hl x List.mem_cons_self) k h1 h2
        have h := of_decide_eq_true h
        exact decide_eq_true (by omega))
      rw [List.map_cons, List.map_cons, List.map_cons, List.sum_cons, List.sum_cons, List.sum_cons]
      omega
  have := h2 cs hcs
  omega
/-! ### the shown tasks -/
theorem ent_zero {L : Ln} (hL : L.Low) {rk : Nat → Nat} (hrk : ∀ l ∈ L.lks, l.stock = 0 → rk (L.names.idxOf l.src) < rk (L.names.idxOf l.tgt)) {x : Str} {e : Ent} (he : e ∈ L.entOf x) : e.lag = 0 → rk (L.names.idxOf e.src) < rk (L.names.idxOf x) := by
  unfold Ln.entOf at he
  split at he
  · rename_i s hs
    have hn : s.name = x := by
      have := List.find?_some hs
      exact of_decide_eq_true this
    have hs := List.mem_of_find?_eq_some hs
    unfold entK at he
    rcases List.mem_append.mp he with he | he
    · unfold St3.ent at he
      split at he
      · cases he
      · rename_i h hh
        rw [List.mem_singleton.mp he]
        intro h0
        have := hL.hands s hs h hh
        have h0 : h.toNat = 0 := h0
        omega
    · obtain ⟨l, hl, rfl⟩ := List.mem_map.mp he
      intro h0
      have h0 : l.stock.toNat = 0 := h0
      have hl2 := List.mem_filter.mp hl
      have := hL.stocks l hl2.1
      have ht := of_decide_eq_true hl2.2
      have := hrk l hl2.1 (by omega)
      rw [ht, hn] at this
      exact this
  · cases he
theorem ent_src {L : Ln} (hL : L.Low) {x : Str} {e : Ent} (he : e ∈ L.entOf x) : e.src ∈ L.names := by
  unfold Ln.entOf at he
  split at he
  · rename_i s hs
    have hs := List.mem_of_find?_eq_some hs
    unfold entK at he
    rcases List.mem_append.mp he with he | he
    · unfold St3.ent at he
      split at he
      · cases he
      · rw [List.mem_singleton.mp he]
        exact List.mem_map.mpr ⟨s, hs, rfl⟩
    · obtain ⟨l, hl, rfl⟩ := List.mem_map.mp he
      exact (hL.few.ok.ends l (List.mem_filter.mp hl).1).1
  · cases he
/-- in a play where only the tasks of T take time, what is late waits for one of T -/
theorem play_late {L : Ln} (hL : L.Low) (hK : L.Ranked) {K : Nat} {bg en : Str → Nat → Int} (hP : IsPlay L K bg en) {T : List (Str × Nat)} (hS : ∀ x ∈ L.names, ∀ k, 1 ≤ k → k ≤ K → (x, k) ∉ T → en x k = bg x k) :
    ∀ j, 1 ≤ j → j ≤ K → ∀ m ∈ L.names, ∀ pl, pl ≤ 1 → 0 < pv bg en pl m j → ∃ s k, (s, k) ∈ T ∧ 1 ≤ k ∧ k ≤ j ∧ Reach L s (j - k) pl m := by
  obtain ⟨_, rk, hrk⟩ := hK
  have fin : ∀ j, 1 ≤ j → j ≤ K → ∀ m ∈ L.names, (0 < bg m j → ∃ s k, (s, k) ∈ T ∧ 1 ≤ k ∧ k ≤ j ∧ Reach L s (j - k) 1 m) → ∀ pl, pl ≤ 1 → 0 < pv bg en pl m j → ∃ s k, (s, k) ∈ T ∧ 1 ≤ k ∧ k ≤ j ∧ Reach L s (j - k) pl m := by
    intro j h1 h2 m hm hb pl hpl h
    by_cases h0 : pl = 0
    · subst h0
      have h : 0 < en m j := h
      by_cases ht : (m, j) ∈ T
      · refine ⟨m, j, ht, h1, Nat.le_refl _, ?_⟩
        rw [Nat.sub_self]
        exact .start
      · rw [hS m hm j h1 h2 ht] at h
        obtain ⟨s, k, q1, q2, q3, q4⟩ := hb h
        exact ⟨s, k, q1, q2, q3, .fin q4⟩
    · have e1 : pl = 1 := by omega
      subst e1
      exact hb h
  intro j
  induction j using Nat.strongRecOn with
  | ind j ih =>
    intro h1 h2
    have : ∀ r, ∀ m ∈ L.names, rk (L.names.idxOf m) = r → ∀ pl, pl ≤ 1 → 0 < pv bg en pl m j → ∃ s k, (s, k) ∈ T ∧ 1 ≤ k ∧ k ≤ j ∧ Reach L s (j - k) pl m := by
      intro r
      induction r using Nat.strongRecOn with
      | ind r ih2 =>
        intro m hm hr
        refine fin j h1 h2 m hm fun hb => ?_
        rcases hP.due m hm j h1 h2 with q | ⟨e, he, hl, q⟩
        · omega
        · have hpe := ent_pl e he
          have hse := ent_src hL he
          have : ∃ s k, (s, k) ∈ T ∧ 1 ≤ k ∧ k ≤ j - e.lag ∧ Reach L s (j - e.lag - k) e.pl e.src := by
            by_cases h0 : e.lag = 0
            · rw [h0, Nat.sub_zero] at q ⊢
              have hlt := ent_zero hL hrk he h0
              exact ih2 _ (hr ▸ hlt) e.src hse rfl e.pl hpe (by rw [q]; exact hb)
            · exact ih (j - e.lag) (by omega) (by omega) (by omega) e.src hse e.pl hpe (by rw [q]; exact hb)
          obtain ⟨s, k, q1, q2, q3, q4⟩ := this
          refine ⟨s, k, q1, q2, by omega, ?_⟩
          have := Reach.beg hm he q4
          have e5 : j - e.lag - k + e.lag = j - k := by omega
          rw [e5] at this
          exact this
    exact fun m hm => this _ m hm rfl
/-- the tasks apart: of each mate the numbers above its floor, up to name's floor and the lag -/
def apart (g : Str → Nat) (F : Str → Str → Option Nat) : List Str → List Str → List (Str × Nat)
  | n :: ns, m :: ms => ((List.range (g n + (F n m).getD 0 - g m)).map fun i => (m, g m + 1 + i)) ++ apart g F ns ms
  | _, _ => []
theorem apart_mem {g : Str → Nat} {F : Str → Str → Option Nat} : ∀ {ns ms : List Str} {x : Str} {k : Nat}, (x, k) ∈ apart g F ns ms → ∃ n, (n, x) ∈ ns.zip ms ∧ g x < k ∧ k ≤ g n + (F n x).getD 0
  | [], _, x, k, h => by simp [apart] at h
  | _ :: _, [], x, k, h => by simp [apart] at h
  | n :: ns, m :: ms, x, k, h => by
    rw [apart, List.mem_append] at h
    rcases h with h | h
    · obtain ⟨i, hi, e⟩ := List.mem_map.mp h
      have hi := List.mem_range.mp hi
      simp only [Prod.mk.injEq] at e
      obtain ⟨rfl, rfl⟩ := e
      exact ⟨n, List.mem_cons_self, by omega, by omega⟩
    · obtain ⟨n', h1, h2⟩ := apart_mem h
      exact ⟨n', List.mem_cons_of_mem _ h1, h2⟩
theorem apart_nodup {g : Str → Nat} {F : Str → Str → Option Nat} : ∀ {ns ms : List Str}, ms.Nodup → (apart g F ns ms).Nodup
  | [], _, _ => by simp [apart]
  | _ :: _, [], _ => by simp [apart]
  | n :: ns, m :: ms, h => by
    rw [List.nodup_cons] at h
    rw [apart, List.nodup_append]
    refine ⟨?_, apart_nodup h.2, ?_⟩
    · refine List.Pairwise.map _ (fun a b (hne : a ≠ b) e => hne ?_) List.nodup_range
      simp only [Prod.mk.injEq, true_and] at e
      omega
    · intro a ha b hb e
      obtain ⟨i, _, rfl⟩ := List.mem_map.mp ha
      subst e
      obtain ⟨n', h1, _⟩ := apart_mem hb
      exact h.1 (List.of_mem_zip h1).2
theorem apart_len {g : Str → Nat} {F : Str → Str → Option Nat} : ∀ {ns ms : List Str} {c : Nat}, tot F ns ms = some c → (∀ n m l, (n, m) ∈ ns.zip ms → F n m = some l → g m ≤ g n + l) → (apart g F ns ms).length + (ms.map g).sum = c + (ns.map g).sum
  | [], [], c, h, _ => by cases h; rfl
  | [], _ :: _, _, h, _ => by cases h
  | _ :: _, [], _, h, _ => by cases h
  | n :: ns, m :: ms, c, h, hg => by
    obtain ⟨a, b, h1, h2, rfl⟩ := tot_cons.mp h
    have i1 := apart_len h2 fun n' m' l hm => hg n' m' l (List.mem_cons_of_mem _ hm)
    have i2 := hg n m a List.mem_cons_self h1
    rw [apart, h1, List.length_append, List.length_map, List.length_range, List.map_cons, List.map_cons, List.sum_cons, List.sum_cons, Option.getD_some]
    omega
end Tx

/-! text M8 -/
set_option Elab.async false
set_option linter.all false
set_option maxRecDepth 100000
set_option maxHeartbeats 2000000
/-! M8: both halves, as the law counts. -/
namespace Tx
open PySem
/-- the tasks of the stations xs, numbers 1 to K -/
def grid (xs : List Str) (K : Nat) : List (Str × Nat) := (List.range K).flatMap fun k => xs.map fun x => (x, k + 1)
theorem grid_mem {xs : List Str} {K : Nat} {x : Str} {k : Nat} : (x, k) ∈ grid xs K ↔ x ∈ xs ∧ 1 ≤ k ∧ k ≤ K := by
  unfold grid
  rw [List.mem_flatMap]
  constructor
  · rintro ⟨j, hj, h⟩
    obtain ⟨y, hy, e⟩ := List.mem_map.mp h
    have hj := List.mem_range.mp hj
    simp only [Prod.mk.injEq] at e
    obtain ⟨rfl, rfl⟩ := e
    exact ⟨hy, by omega, by omega⟩
  · rintro ⟨h1, h2, h3⟩
    refine ⟨k - 1, List.mem_range.mpr (by omega), List.mem_map.mpr ⟨x, h1, ?_⟩⟩
    rw [Nat.sub_add_cancel h2]
theorem grid_nodup {xs : List Str} {K : Nat} (h : xs.Nodup) : (grid xs K).Nodup := by
  unfold grid List.Nodup
  rw [List.pairwise_flatMap]
  refine ⟨fun k _ => List.Pairwise.map _ (fun a b (hne : a ≠ b) e => hne ?_) h, List.Pairwise.imp ?_ (List.nodup_range (n := K))⟩
  · simp only [Prod.mk.injEq, and_true] at e
    exact e
  · intro a b hab x hx y hy e
    obtain ⟨p, _, rfl⟩ := List.mem_map.mp hx
    obtain ⟨q, _, rfl⟩ := List.mem_map.mp hy
    simp only [Prod.mk.injEq] at e
    omega
/-- the tasks of cs that p tells, station by station -/
def byName (p : Str → Nat → Bool) (K : Nat) (cs : List Str) : List (Str × Nat) := cs.flatMap fun x => ((List.range K).filter fun k => p x (k + 1)).map fun k => (x, k + 1)
theorem byName_mem {p : Str → Nat → Bool} {K : Nat} {cs : List Str} {x : Str} {k : Nat} : (x, k) ∈ byName p K cs ↔ x ∈ cs ∧ 1 ≤ k ∧ k ≤ K ∧ p x k = true := by
  unfold byName
  rw [List.mem_flatMap]
  constructor
  · rintro ⟨y, hy, h⟩
    obtain ⟨j, hj, e⟩ := List.mem_map.mp h
    rw [List.mem_filter, List.mem_range] at hj
    simp only [Prod.mk.injEq] at e
    obtain ⟨rfl, rfl⟩ := e
    exact ⟨hy, by omega, by omega, hj.2⟩
  · rintro ⟨h1, h2, h3, h4⟩
    refine ⟨x, h1, List.mem_map.mpr ⟨k - 1, ?_, by rw [Nat.sub_add_cancel h2]⟩⟩
    rw [List.mem_filter, List.mem_range, Nat.sub_add_cancel h2]
    exact ⟨by omega, h4⟩
theorem byName_nodup {p : Str → Nat → Bool} {K : Nat} {cs : List Str} (h : cs.Nodup) : (byName p K cs).Nodup := by
  unfold byName List.Nodup
  rw [List.pairwise_flatMap]
  refine ⟨fun k _ => List.Pairwise.map _ (fun a b (hne : a ≠ b) e => hne ?_) (List.Pairwise.filter _ (List.nodup_range (n := K))), List.Pairwise.imp ?_ h⟩
  · simp only [Prod.mk.injEq, true_and] at e
    omega
  · intro a b hab x hx y hy e
    obtain ⟨p, _, rfl⟩ := List.mem_map.mp hx
    obtain ⟨q, _, rfl⟩ := List.mem_map.mp hy
    simp only [Prod.mk.injEq] at e
    exact hab e.1
theorem byName_len {p : Str → Nat → Bool} {K : Nat} : ∀ cs : List Str, (byName p K cs).length = (cs.map (cnt p K)).sum
  | [] => rfl
  | x :: cs => by
    have := byName_len (p := p) (K := K) cs
    unfold byName at this ⊢
    rw [List.flatMap_cons, List.length_append, this, List.map_cons, List.sum_cons, List.length_map]
    unfold cnt
    rw [List.countP_eq_length_filter]
/-- under way at t -/
abbrev busyP (bg en : Str → Nat → Int) (t : Int) : Str → Nat → Bool := fun x k => decide (bg x k ≤ t) && decide (t < en x k)
/-- how many tasks of cs are under way at t -/
def busyN (xs cs : List Str) (K : Nat) (bg en : Str → Nat → Int) (t : Int) : Nat := ((grid xs K).filter fun z => decide (z.1 ∈ cs) && busyP bg en t z.1 z.2).length
theorem perm_len {α : Type} {a b : List α} (ha : a.Nodup) (hb : b.Nodup) (h : ∀ x, x ∈ a ↔ x ∈ b) : a.length = b.length := ((List.perm_ext_iff_of_nodup ha hb).mpr h).length_eq
theorem busyN_sum {xs cs : List Str} {K : Nat} {bg en : Str → Nat → Int} {t : Int} (hx : xs.Nodup) (hc : cs.Nodup) (hs : ∀ x ∈ cs, x ∈ xs) : busyN xs cs K bg en t = (cs.map (cnt (busyP bg en t) K)).sum := by
  rw [← byName_len]
  refine perm_len (List.Pairwise.filter _ (grid_nodup hx)) (byName_nodup hc) fun ⟨x, k⟩ => ?_
  rw [List.mem_filter, grid_mem, byName_mem, Bool.and_eq_true, decide_eq_true_iff]
  constructor
  · rintro ⟨⟨_, h2, h3⟩, h4, h5⟩
    exact ⟨h4, h2, h3, h5⟩
  · rintro ⟨h1, h2, h3, h4⟩
    exact ⟨⟨hs x h1, h2, h3⟩, h1, h4⟩
/-- what firsts tell -/
structure Lagd (L : Ln) (cs : List Str) (F : Str → Str → Option Nat) : Prop where
  sound : ∀ n ∈ cs, ∀ m ∈ cs, ∀ l, F n m = some l → Reach L n l 1 m
  all : ∀ n ∈ cs, ∀ m ∈ cs, ∀ d, Reach L n d 1 m → ∃ l, l ≤ d ∧ F n m = some l
theorem weak {L : Ln} {K : Nat} {bg en : Str → Nat → Int} {F : Str → Str → Option Nat} {cs ms : List Str} {c : Nat} (hn : L.names.Nodup) (hP : IsPlay L K bg en) (hc : cs.Nodup) (hs : ∀ n ∈ cs, n ∈ L.names) (hF : Lagd L cs F) (hL : Least F cs ms c) (t : Int) : busyN L.names cs K bg en t ≤ c := by
  rw [busyN_sum hn hc hs]
  exact play_most hP hs hF.sound hL.perm hL.cost t
theorem as_map {cs ms : List Str} (hn : cs.Nodup) (hl : cs.length = ms.length) : ∃ π : Str → Str, ms = cs.map π := by
  induction cs generalizing ms with
  | nil =>
    cases ms with
    | nil => exact ⟨id, rfl⟩
    | cons => simp at hl
  | cons x cs ih =>
    cases ms with
    | nil => simp at hl
    | cons m ms =>
      rw [List.nodup_cons] at hn
      obtain ⟨π, e⟩ := ih hn.2 (by simpa using hl)
      refine ⟨fun y => if y = x then m else π y, ?_⟩
      rw [List.map_cons, if_pos rfl, e]
      congr 1
      refine List.map_congr_left fun y hy => ?_
      rw [if_neg (fun z : y = x => hn.1 (z ▸ hy))]
theorem zip_map {cs : List Str} {π : Str → Str} {n m : Str} (h : (n, m) ∈ cs.zip (cs.map π)) : n ∈ cs ∧ m = π n := by
  induction cs with
  | nil => cases h
  | cons x cs ih =>
    rw [List.map_cons, List.zip_cons_cons] at h
    rcases List.mem_cons.mp h with e | h
    · cases e; exact ⟨List.mem_cons_self, rfl⟩
    · exact ⟨List.mem_cons_of_mem _ (ih h).1, (ih h).2⟩
theorem tot_at {F : Str → Str → Option Nat} {π : Str → Str} : ∀ {cs : List Str} {c : Nat}, tot F cs (cs.map π) = some c → ∀ x ∈ cs, ∃ b, F x (π x) = some b
  | [], _, _, x, h => by cases h
  | y :: cs, c, h, x, hx => by
    obtain ⟨a, b, h1, h2, rfl⟩ := tot_cons.mp h
    rcases List.mem_cons.mp hx with rfl | hx
    · exact ⟨a, h1⟩
    · exact tot_at h2 x hx
/-- what the floors keep -/
def Floors (F : Str → Str → Option Nat) (cs ms : List Str) (g : Str → Nat) : Prop := ∀ n m, (n, m) ∈ cs.zip ms → ∀ o ∈ cs, ∀ a b, F o m = some a → F n m = some b → g n + b ≤ g o + a
theorem floors_of {F : Str → Str → Option Nat} {π : Str → Str} {cs : List Str} {c0 : Nat} {f : Str → Int} {least : Int} (hcs : cs.Nodup) (hL : Least F cs (cs.map π) c0) (h : Flo F π cs cs.length 0 0 f) (hl : ∀ x ∈ cs, least ≤ f x) : Floors F cs (cs.map π) fun x => (f x - least).toNat := by
  intro n m hz o ho a b h1 h2
  obtain ⟨hn, rfl⟩ := zip_map hz
  have := h.fix hcs hL hn ho ⟨a, b, h1, h2, rfl⟩
  have e1 := hl n hn
  have e2 := hl o ho
  show (f n - least).toNat + b ≤ (f o - least).toNat + a
  omega
theorem floors_step {L : Ln} {F : Str → Str → Option Nat} {cs ms : List Str} {c : Nat} {g : Str → Nat} (hc : cs.Nodup) (hF : Lagd L cs F) (hL : Least F cs ms c) (hg : Floors F cs ms g) {n m : Str} {l : Nat} (hz : (n, m) ∈ cs.zip ms) (hl : F n m = some l) : g m ≤ g n + l := by
  obtain ⟨π, rfl⟩ := as_map hc (tot_len hL.cost)
  obtain ⟨hn, rfl⟩ := zip_map hz
  have hm : π n ∈ cs := hL.perm.mem_iff.mp (List.mem_map.mpr ⟨n, hn, rfl⟩)
  obtain ⟨b, hb⟩ := tot_at hL.cost _ hm
  have hm2 : π (π n) ∈ cs := hL.perm.mem_iff.mp (List.mem_map.mpr ⟨_, hm, rfl⟩)
  have r := (hF.sound n hn _ hm l hl).trans (hF.sound _ hm _ hm2 b hb)
  obtain ⟨a, h1, h2⟩ := hF.all n hn _ hm2 _ r
  have hz2 : (π n, π (π n)) ∈ cs.zip (cs.map π) := by
    have : (cs.zip (cs.map π)) = cs.map fun x => (x, π x) := by
      clear hm2 hm hz r hb hL hc hF hg hn
      induction cs with
      | nil => rfl
      | cons x cs ih => rw [List.map_cons, List.zip_cons_cons, ih]; rfl
    rw [this]
    exact List.mem_map.mpr ⟨_, hm, rfl⟩
  have := hg _ _ hz2 n hn a b h2 hb
  omega
theorem apart_cost {L : Ln} {F : Str → Str → Option Nat} {cs ms : List Str} {c : Nat} {g : Str → Nat} (hc : cs.Nodup) (hF : Lagd L cs F) (hL : Least F cs ms c) (hg : Floors F cs ms g) : (apart g F cs ms).length = c := by
  have h := apart_len (g := g) hL.cost fun n m l hz hl => floors_step hc hF hL hg hz hl
  rw [sum_perm hL.perm] at h
  omega
theorem tot_zip {F : Str → Str → Option Nat} : ∀ {ns ms : List Str} {c : Nat}, tot F ns ms = some c → ∀ n m, (n, m) ∈ ns.zip ms → ∃ b, F n m = some b
  | [], _, _, _, _, _, h => by cases h
  | _ :: _, [], _, _, _, _, h => by cases h
  | x :: ns, y :: ms, c, h, n, m, hz => by
    obtain ⟨a, b, h1, h2, rfl⟩ := tot_cons.mp h
    rw [List.zip_cons_cons] at hz
    rcases List.mem_cons.mp hz with e | hz
    · cases e; exact ⟨a, h1⟩
    · exact tot_zip h2 n m hz
/-- the shown tasks begin at once -/
theorem shown_zero {L : Ln} (hLw : L.Low) (hK : L.Ranked) {K : Nat} {bg en : Str → Nat → Int} (hP : IsPlay L K bg en) {F : Str → Str → Option Nat} {cs ms : List Str} {c : Nat} {g : Str → Nat} {T : List (Str × Nat)} (hs : ∀ n ∈ cs, n ∈ L.names) (hF : Lagd L cs F) (hL : Least F cs ms c) (hg : Floors F cs ms g) (hT : T.Perm (apart g F cs ms))
    (hE : ∀ x ∈ L.names, ∀ k, 1 ≤ k → k ≤ K → (x, k) ∉ T → en x k = bg x k) {m : Str} {j : Nat} (h : (m, j) ∈ T) (hj : j ≤ K) : bg m j = 0 := by
  obtain ⟨n, hz, h1, h2⟩ := apart_mem (hT.mem_iff.mp h)
  have hmm := (List.of_mem_zip hz).2
  have hmc := hL.perm.mem_iff.mp hmm
  have hnn := hP.nn m (hs m hmc) j (by omega) hj
  refine Int.le_antisymm (Int.not_lt.mp fun hb => ?_) hnn
  obtain ⟨s, k, q1, q2, q3, q4⟩ := play_late hLw hK hP hE j (by omega) hj m (hs m hmc) 1 (Nat.le_refl _) hb
  obtain ⟨n2, hz2, h3, _⟩ := apart_mem (hT.mem_iff.mp q1)
  have hsc := hL.perm.mem_iff.mp (List.of_mem_zip hz2).2
  obtain ⟨a, h5, h6⟩ := hF.all s hsc m hmc _ q4
  obtain ⟨b, h7⟩ := tot_zip hL.cost n m hz
  have := hg n m hz s hsc a b h6 h7
  rw [h7, Option.getD_some] at h2
  omega
theorem strong {L : Ln} (hLw : L.Low) (hK : L.Ranked) {K : Nat} {bg en : Str → Nat → Int} (hP : IsPlay L K bg en) {F : Str → Str → Option Nat} {cs ms : List Str} {c : Nat} {g : Str → Nat} {T : List (Str × Nat)} (hn : L.names.Nodup) (hc : cs.Nodup) (hs : ∀ n ∈ cs, n ∈ L.names) (hF : Lagd L cs F) (hL : Least F cs ms c) (hg : Floors F cs ms g) (hT : T.Perm (apart g F cs ms))
    (hE : ∀ x ∈ L.names, ∀ k, 1 ≤ k → k ≤ K → en x k = bg x k + if (x, k) ∈ T then 1 else 0) (hK2 : ∀ z ∈ T, z.2 ≤ K) : busyN L.names cs K bg en 0 = c := by
  rw [← apart_cost hc hF hL hg, ← hT.length_eq]
  have hms : ms.Nodup := (hL.perm.nodup_iff).mpr hc
  refine perm_len (List.Pairwise.filter _ (grid_nodup hn)) (hT.nodup_iff.mpr (apart_nodup hms)) fun ⟨x, k⟩ => ?_
  rw [List.mem_filter, grid_mem, Bool.and_eq_true, decide_eq_true_iff, Bool.and_eq_true, decide_eq_true_iff, decide_eq_true_iff]
  have hE' : ∀ x ∈ L.names, ∀ k, 1 ≤ k → k ≤ K → (x, k) ∉ T → en x k = bg x k := fun x hx k h1 h2 h3 => by
    rw [hE x hx k h1 h2, if_neg h3]; omega
  constructor
  · rintro ⟨⟨h1, h2, h3⟩, h4, h5, h6⟩
    refine Classical.byContradiction fun hno => ?_
    have := hE' x h1 k h2 h3 hno
    simp only at h5 h6
    omega
  · intro h
    obtain ⟨n, hz, h1, h2⟩ := apart_mem (hT.mem_iff.mp h)
    have hxc := hL.perm.mem_iff.mp (List.of_mem_zip hz).2
    have hk := hK2 _ h
    have h0 := shown_zero hLw hK hP hs hF hL hg hT hE' h hk
    have h3 := hE x (hs x hxc) k (by omega) hk
    rw [if_pos h, h0] at h3
    refine ⟨⟨hs x hxc, by omega, hk⟩, hxc, ?_, ?_⟩
    · show bg x k ≤ 0; omega
    · show 0 < en x k; omega
end Tx

/-! text M9 -/
set_option Elab.async false
set_option linter.all false
set_option maxRecDepth 100000
set_option maxHeartbeats 2000000
/-! M9: floors are small. -/
namespace Tx
open PySem
theorem Trail.low {F : Str → Str → Option Nat} {π : Str → Str} {cs l : List Str} {c : Int} {B : Nat} (hB : ∀ x ∈ cs, ∀ b, F x (π x) = some b → b ≤ B) (t : Trail F π cs l c) : -(B * (l.length - 1 : Nat) : Int) ≤ c := by
  induction t with
  | one h => simp
  | @step x o l c d h t w ih =>
    obtain ⟨a, b, h1, h2, rfl⟩ := w
    have := hB x h b h2
    simp only [List.length_cons, Nat.add_sub_cancel] at ih ⊢
    have e : ((B * (l.length + 1) : Nat) : Int) = ((B * l.length : Nat) : Int) + (B : Int) := by rw [Nat.mul_succ]; omega
    simp only [Int.natCast_mul] at e
    omega
theorem Flo.low {F : Str → Str → Option Nat} {π : Str → Str} {cs : List Str} {c0 B : Nat} {r i j : Nat} {f : Str → Int} (hcs : cs.Nodup) (hc4 : cs.length ≤ 4) (hL : Least F cs (cs.map π) c0) (hB : ∀ x ∈ cs, ∀ b, F x (π x) = some b → b ≤ B) (h : Flo F π cs r i j f) {x : Str} (hx : x ∈ cs) : f x ≤ 0 ∧ -(3 * B : Int) ≤ f x := by
  refine ⟨h.all x [] 0 (.one hx) (Nat.zero_le _), ?_⟩
  obtain ⟨l, t⟩ := h.sound x hx
  obtain ⟨l', c', h1, h2, h3, h4⟩ := t.short hcs hL
  have h5 := h3.low hB
  have h6 := nodup_lenS h2 h3.mem
  have h7 : B * (l'.length - 1) ≤ B * 3 := Nat.mul_le_mul_left B (by omega)
  have h8 : ((B * (l'.length - 1) : Nat) : Int) ≤ ((B * 3 : Nat) : Int) := Int.ofNat_le.mpr h7
  simp only [Int.natCast_mul] at h8
  omega
end Tx

/-! text Sd21 -/
set_option Elab.async false
set_option linter.all false
set_option maxRecDepth 100000
set_option maxHeartbeats 2000000
/-! Sd21: min(d.values(), default=i). -/
namespace Sd
open PySem PySem.Spec PyProof.Rows L2
/-- the number at the place i -/
def numI (ns : List Int) (i : Nat) : Int := ns.getD i 0
theorem num_mem {ns : List Int} {i : Nat} (h : i < ns.length) : numI ns i ∈ ns := by
  unfold numI
  rw [List.getD_eq_getElem?_getD, List.getElem?_eq_getElem h]
  exact List.getElem_mem h
theorem cmpIn_ints {prog : Program} {w : World} {A : Around} {H : Heap} {P : Nat → Value → Prop} {ns : List Int} (h : ∀ i v, P i v → ∃ t, v = .int (numI ns i) t) : CmpIn prog w A .Lt H P (fun i j => decide (numI ns i < numI ns j)) :=
  fun i j vi vj s Q E _ hi hj hQ => CmpOf.ints_lt (A := A) (numI ns) h i j vi vj s Q E hi hj hQ
theorem moved_two {s1 s2 s' : Shared} {wr : List Addr} {h2 : Heap} {t2 : Nat} (m : Moved wr (fun a b => b = a) s2 s') (e : s2 = { s1 with heap := h2, toks := t2 }) (k : ∀ b o, s1.heap.get? b = some o → b ∉ wr ∧ h2.get? b = some o) : ∃ h' tk, s' = { s1 with heap := h', toks := tk } ∧ ∀ b o, s1.heap.get? b = some o → h'.get? b = some o := by
  subst e
  refine ⟨s'.heap, s'.toks, ?_, fun b o eb => m.heap b o (k b o eb).1 (k b o eb).2⟩
  obtain ⟨hp, g, d, tk, os⟩ := s'
  have h1 : g = s1.gens := m.gens
  have h2 : d = s1.drawn := m.drawn
  have h3 : os = s1.os := m.os
  subst h1
  subst h2
  subst h3
  rfl
def tMinV (z : Int) (td : TE) : TE := fun σ H Q => td σ H fun v H1 => ∃ (d : Addr) (kvs : List (Key × V)) (ns : List Int), v = .ref d ∧ H1 d = some (.dK kvs) ∧ kvs.map (·.2) = ns.map V.int ∧
  ∀ m : Int, (ns = [] → m = z) → (ns ≠ [] → m ∈ ns ∧ ∀ y ∈ ns, m ≤ y) → Q (.int m) H1
theorem pe_minV {X : Cx} {e : Expr} {td : TE} {z : Int} {j : Nat} {p pos apos cpos kpos ipos : Pos} (he : PE X e td) (hg : Gl X "min") (hm : X.mg "min" = none) (hc : X.calm = true) (hbase : attributeBase e "values" X.env (eval e X.env) = eval e X.env := by rfl) (hline : (apos.endLine == cpos.line) = true := by rfl) :
    PE X (.Call (.Name "min" p) [.Call (.Attribute e "values" apos) [] [] cpos] [⟨some "default", .Constant (.int z) j ipos, kpos⟩] pos) (tMinV z td) := by
  refine ⟨fun pins s σ H Q I h => ?_⟩
  refine wpAny_Call_Name_kw (ld_blt I hg hm PyProof.Rows.boot_min ?_ (by decide) (by decide))
  refine PyProof.Rows.callWith_kw ?_ rfl rfl rfl rfl
  show wpAny _ _ (spliced ((false, eval (.Call (.Attribute e "values" apos) [] [] cpos) X.env) :: [])) _ _ s
  refine Calls.spliced_cons ?_
  refine wpAny_Call_method (T := "dict") (id := "dict.values") hbase rfl hline F.plainAttrs_dict F.slot_dict_values F.type_dict_values (thn (he.run pins s σ H _ I h) fun u s1 ⟨x, H1, I1, rx, d, kvs, ns, ex, hd, hns, q⟩ => ?_)
  subst ex
  obtain rfl : u = Value.ref d := rx
  obtain ⟨hz, hs, vs, kv, hm2⟩ := I1.hok d _ hd
  obtain ⟨ep, hat⟩ := hm2.dictAt
  have hh := I1.ok.hd hc
  have hdl : d < s1.heap.objs.size := by obtain ⟨_, _, _, e, _⟩ := hm2; exact Heap.lt_size e
  refine ⟨hm2.typeIs, hm2.mapOf.noDict, ?_⟩
  show wpAny _ _ (callWith cpos (.builtin "dict.values") [.ref d] [] []) _ X.xe s1
  refine method_meetsIn F.slot_dict_values F.entry_dict_values rfl (PySem.evalArgs_none ⟨rfl, hm2.typeIs, F.args_dict_values_1 _, _, meets_dict_values (mixKind X.prog X.w) d hs, ⟨vs, hm2⟩, ?_⟩)
  refine Calls.spliced_nil ?_
  show wpAny _ _ (evalAll ((do let v ← eval (.Constant (.int z) j ipos) X.env; standAt pos; pure v) :: [])) _ _ _
  refine wpAny_evalAll_cons (wpAny_bind (wpAny_Constant_int (wpAny_bind (wpAny_standAt (wpAny_pure (wpAny_evalAll_nil ?_))))))
  refine call_min_walkD (wpAny_pyIter_values (knd := mixKind X.prog X.w) (d := d) (kvs := vs) (ep := ep) ⟨_, Heap.get?_push_size _ rfl, rfl, rfl⟩ (hat.push _) ?_)
  have W := (Walks.dictValues (prog := X.prog) (w := X.w) (knd := mixKind X.prog X.w) (A := X.A.in1) hh (s1.heap.push { cls := .type "dict_values", data := .fields #[.ref d] }).objs.size d (by rw [Heap.size_push]; exact Nat.ne_of_lt (Nat.lt_succ_of_lt hdl)) vs ep).toS
  have old : ∀ b o, s1.heap.get? b = some o → b ∉ [(s1.heap.push { cls := .type "dict_values", data := .fields #[.ref d] }).objs.size] ∧ ((s1.heap.push { cls := .type "dict_values", data := .fields #[.ref d] }).push { cls := .type "dict_valueiterator", data := .fields #[.ref d, .int 0 0, .int vs.length 0, .int ep 0] }).get? b = some o := fun b o e => ⟨fun hb => by
    have hb := List.mem_singleton.mp hb
    have hl := Heap.lt_size e
    rw [Heap.size_push] at hb
    rw [hb] at hl
    exact absurd hl (Nat.not_lt.mpr (Nat.le_succ _)), Heap.get?_push_of_some _ (Heap.get?_push_of_some _ e)⟩
  have hlen : vs.length = ns.length := by
    have h1 : kvs.length = vs.length := Paired.length kv
    have h2 := congrArg List.length hns
    rw [List.length_map, List.length_map] at h2
    omega
  have hval : ∀ i v, (∃ k, vs[i]? = some (k, v)) → i < ns.length ∧ ∃ t, v = .int (numI ns i) t := fun i v ⟨k, e⟩ => by
    have hi := (List.getElem?_eq_some_iff.mp e).1
    have hk : i < kvs.length := by have h1 : kvs.length = vs.length := Paired.length kv; omega
    obtain ⟨u, hu, ru⟩ := kv_get kv (i := i) (k := kvs[i].1) (v := kvs[i].2) (List.getElem?_eq_getElem hk)
    rw [e] at hu
    cases hu
    have e2 : kvs[i].2 = V.int (numI ns i) := by
      have h3 : (kvs.map (·.2))[i]? = some kvs[i].2 := by rw [List.getElem?_map, List.getElem?_eq_getElem hk]; rfl
      rw [hns, List.getElem?_map, List.getElem?_eq_getElem (by omega)] at h3
      unfold numI
      rw [List.getD_eq_getElem?_getD, List.getElem?_eq_getElem (by omega)]
      exact (Option.some.inj h3).symm
    rw [e2] at ru
    exact ⟨by omega, ru⟩
  refine ⟨_, _, _, _, _, _, _, s1.heap, (fun i j => decide (numI ns i < numI ns j)), rfl, W, ⟨⟨_, Heap.get?_push_size _ rfl, rfl, rfl⟩, (hat.push _).push _⟩, fun b hb => ?_, fun b o e => (old b o e).1, fun b o e => (old b o e).2, fun hn s' m => ?_, fun hn => ⟨cmpIn_ints fun i v hv => (hval i v hv).2, fun v s' hP m => ?_⟩⟩
  · rw [Heap.size_push]
    rcases List.mem_cons.mp hb with rfl | hb
    · exact Nat.lt_succ_self _
    · rw [List.mem_singleton.mp hb, Heap.size_push]
      exact Nat.lt_succ_of_lt (Nat.lt_succ_of_lt hdl)
  · obtain ⟨h', tk, rfl, hk'⟩ := moved_two (s1 := s1) m rfl old
    have e0 : ns = [] := List.eq_nil_of_length_eq_zero (by omega)
    exact ⟨.int z, H1, I1.kept hk', ⟨_, rfl⟩, q z (fun _ => rfl) fun h => absurd e0 h⟩
  · obtain ⟨h', tk, rfl, hk'⟩ := moved_two (s1 := s1) m rfl old
    obtain ⟨hlt, t, rfl⟩ := hval _ v hP
    have hb := argBest_lt (numI ns) (vs.length - 1)
    refine ⟨.int _, H1, I1.kept hk', ⟨_, rfl⟩, q _ (fun h => ?_) fun _ => ⟨num_mem hlt, fun y hy => ?_⟩⟩
    · rw [h] at hlt; simp at hlt
    · obtain ⟨j, hj, rfl⟩ := List.mem_iff_getElem.mp hy
      have := hb.2 j (by omega)
      have e3 : numI ns j = ns[j] := by
        unfold numI
        rw [List.getD_eq_getElem?_getD, List.getElem?_eq_getElem hj]
        rfl
      rw [e3] at this
      exact this
section
variable {C : FC} {X : Cx} {ow : Ow} {en : En} {e e2 o : Expr} {pos p0 apos cpos kpos ipos : Pos} {p : Addr} {z : Int} {j : Nat}
theorem rpsl_ints {K : Fg} {B : Hp} : ∀ {ns : List Int} {xs : List V}, RpSL K B (ns.map iv) xs → xs = ns.map V.int
  | [], _, h => h
  | n :: ns, _, ⟨y, ys, e, r, l⟩ => by
    rw [e, rs_int.mp r, rpsl_ints l]
    rfl
/-- min(d.values(), default=z) of a dict of one's own -/
theorem ep_minV {ks : List Key} {ns : List Int} (ho : EvD C X ow en o (.ptr p)) (h : (p, .dK ks (ns.map iv)) ∈ ow) (hm : X.mg "min" = none) (hg : Gl X "min" := by rfl) (hc : X.calm = true := by rfl) (hbase : attributeBase o "values" X.env (eval o X.env) = eval o X.env := by rfl) (hline : (apos.endLine == cpos.line) = true := by rfl) :
    EvP C X ow en (.Call (.Name "min" p0) [.Call (.Attribute o "values" apos) [] [] cpos] [⟨some "default", .Constant (.int z) j ipos, kpos⟩] pos) (fun s => ∃ m, s = iv m ∧ (ns = [] → m = z) ∧ (ns ≠ [] → m ∈ ns ∧ ∀ y ∈ ns, m ≤ y)) :=
  ⟨fun B σ H S Q q => ⟨_, pe_minV pe_we hg hm hc hbase hline, ho.run B σ H S _ fun v s B' H' ev n r => by
    subst ev
    obtain ⟨_, _, xs, hx, l0, lx⟩ := n.sta.own _ h
    have ex := rpsl_ints lx
    have hx : H' p = some (.dK (ks.zip xs)) := hx
    have l0 : ks.length = xs.length := l0
    refine ⟨p, _, ns, rs_ptr.mp r, hx, ?_, fun m h1 h2 => q _ _ B' H' ⟨m, rfl, h1, h2⟩ n (rs_int.mpr rfl)⟩
    rw [← ex]
    exact List.map_snd_zip (by omega)⟩⟩
end
end Sd

/-! text W20 -/
set_option Elab.async false
set_option linter.all false
set_option maxRecDepth 100000
set_option maxHeartbeats 2000000
/-! W20: Exchange's making. -/
namespace Sd
open PySem PySem.Spec PyProof.Rows L2
section
variable {C : FC} {X : Cx} {ow : Ow} {en : En} {o : Expr} {pos : Pos} {f : Str} {P Po : SV → Prop} {Cc : Addr} {k j : Nat} {α : Type} {args : α → List SV} {pre : α → Prop} {res : α → SV → Prop}
/-- o.f, a property, o known by what is told of it -/
theorem ep_propP (c : Prp X.prog X.w X.K X.mg X.base k Cc f (Pr X.K (FX args pre res))) (hr : Room j X.A) (hk : k + 1 ≤ j) (ho : EvP C X ow en o Po)
    (h : ∀ so, Po so → (∃ ks ss, InsOf ow so Cc ks ss) ∧ ∃ x, [so] = args x ∧ pre x ∧ ∀ s, res x s → P s) (hb : attributeBase o f X.env (eval o X.env) = eval o X.env := by rfl) : EvP C X ow en (.Attribute o f pos) P :=
  ⟨fun B σ H S Q q => by
    obtain ⟨p, g, fd, ps, cl, po, F, bd⟩ := c.ex
    refine ⟨_, pe_prop pe_we cl po F (hr.mono hk) bd .nil pass0 hb, ho.run B σ H S _ fun v t B' H' pt n r => ?_⟩
    obtain ⟨⟨ks, ss, hi⟩, x, e1, e2, e3⟩ := h t pt
    obtain ⟨a, dx, xs, e, ha, _, l⟩ := hi.at n.sta r
    subst e
    refine ⟨a, dx, _, rfl, ha, B', [], [t], fun s ow' => ow' = [] ∧ res x s, n.sta.sub, .nil, (fun q hq => by cases hq), RpSL.cons r RpSL.nil, ⟨rfl, x, e1, e2, fun s hs => ⟨rfl, hs⟩⟩,
      ret_called n.sta (List.nil_sublist _) (fun s ow' hs => ⟨hs.1, e3 s hs.2⟩) fun v s B2 H2 p n2 r => q v s B2 H2 p (n.trans n2) r⟩⟩
end
end Sd
namespace Tx
open PySem PySem.Spec PyProof.Rows L2 Sd C8
theorem pK_inj {n m n' m' : Str} (h : pK n m = pK n' m') : n = n' ∧ m = m' := by
  simpa [pK] using h
/-- the entries of firsts -/
abbrev FE := Str × Str × Option Nat
def feF (es : List FE) (n m : Str) : Option Nat := match es.find? fun e => decide (e.1 = n ∧ e.2.1 = m) with
  | some e => e.2.2
  | none => none
theorem feF_at : ∀ {es : List FE} {n m : Str} {f : Option Nat}, (n, m, f) ∈ es → valS (es.map fun e => pK e.1 e.2.1) ((es.map fun e => oN e.2.2).map SV.val) (pK n m) = some (.val (oN (feF es n m))) ∧ (n, m, feF es n m) ∈ es
  | [], _, _, _, h => by cases h
  | (n0, m0, f0) :: es, n, m, f, h => by
    by_cases e : n0 = n ∧ m0 = m
    · obtain ⟨rfl, rfl⟩ := e
      have : feF ((n0, m0, f0) :: es) n0 m0 = f0 := by
        unfold feF
        rw [List.find?_cons]
        simp
      rw [this]
      refine ⟨?_, List.mem_cons_self⟩
      rw [List.map_cons, List.map_cons, List.map_cons, valS_cons, if_pos rfl]
    · have hm : (n, m, f) ∈ es := by
        rcases List.mem_cons.mp h with q | q
        · cases q; exact absurd ⟨rfl, rfl⟩ e
        · exact q
      have : feF ((n0, m0, f0) :: es) n m = feF es n m := by
        unfold feF
        rw [List.find?_cons]
        simp only [e, decide_false]
      rw [this]
      obtain ⟨i1, i2⟩ := feF_at hm
      refine ⟨?_, List.mem_cons_of_mem _ i2⟩
      rw [List.map_cons, List.map_cons, List.map_cons, valS_cons, if_neg fun z => e (pK_inj z)]
      exact i1
structure FeI (L : Ln) (cs : List Str) (i j : Nat) (es : List FE) : Prop where
  first : ∀ e ∈ es, FirstV L e.1 e.2.1 e.2.2
  here : ∀ n m, (∃ f, (n, m, f) ∈ es) ↔ (n ∈ cs.take i ∧ m ∈ cs) ∨ (cs[i]? = some n ∧ m ∈ cs.take j)
theorem FeI.zero {L : Ln} {cs : List Str} : FeI L cs 0 0 [] where
  first e h := by cases h
  here n m := by simp
theorem FeI.turn {L : Ln} {cs : List Str} {i : Nat} {es : List FE} (hi : i < cs.length) (h : FeI L cs i cs.length es) : FeI L cs (i + 1) 0 es where
  first := h.first
  here n m := by
    rw [h.here, List.take_length, List.take_succ_eq_append_getElem hi, List.mem_append, List.mem_singleton, List.getElem?_eq_getElem hi]
    constructor
    · rintro (⟨h1, h2⟩ | ⟨h1, h2⟩)
      · exact .inl ⟨.inl h1, h2⟩
      · exact .inl ⟨.inr (Option.some.inj h1).symm, h2⟩
    · rintro (⟨h1 | h1, h2⟩ | ⟨h1, h2⟩)
      · exact .inl ⟨h1, h2⟩
      · exact .inr ⟨by rw [h1], h2⟩
      · simp at h2
theorem FeI.add {L : Ln} {cs : List Str} {i j : Nat} {es : List FE} {n m : Str} {f : Option Nat} (hn : cs[i]? = some n) (hm : cs[j]? = some m) (h : FeI L cs i j es) (hf : FirstV L n m f) : FeI L cs i (j + 1) (es ++ [(n, m, f)]) where
  first e he := by
    rcases List.mem_append.mp he with he | he
    · exact h.first e he
    · rw [List.mem_singleton.mp he]; exact hf
  here a b := by
    obtain ⟨hj, ej⟩ := List.getElem?_eq_some_iff.mp hm
    rw [List.take_succ_eq_append_getElem hj, List.mem_append, List.mem_singleton, ej]
    constructor
    · rintro ⟨f', he⟩
      rcases List.mem_append.mp he with he | he
      · rcases (h.here a b).mp ⟨f', he⟩ with q | ⟨q1, q2⟩
        · exact .inl q
        · exact .inr ⟨q1, .inl q2⟩
      · have := List.mem_singleton.mp he
        cases this
        exact .inr ⟨hn, .inr rfl⟩
    · rintro (q | ⟨q1, q2 | q2⟩)
      · obtain ⟨f', he⟩ := (h.here a b).mpr (.inl q)
        exact ⟨f', List.mem_append_left _ he⟩
      · obtain ⟨f', he⟩ := (h.here a b).mpr (.inr ⟨q1, q2⟩)
        exact ⟨f', List.mem_append_left _ he⟩
      · subst q2
        rw [hn] at q1
        cases q1
        exact ⟨f, List.mem_append_right _ List.mem_cons_self⟩
theorem nodup_take {cs : List Str} {i : Nat} {n : Str} (h : cs.Nodup) (hi : cs[i]? = some n) : n ∉ cs.take i := fun hm => fresh_at (f := id) (by rw [List.map_id]; exact h) hi hm rfl
theorem FeI.new {L : Ln} {cs : List Str} {i j : Nat} {es : List FE} {n m : Str} (hc : cs.Nodup) (hn : cs[i]? = some n) (hm : cs[j]? = some m) (h : FeI L cs i j es) : pK n m ∉ es.map fun e => pK e.1 e.2.1 := fun hx => by
  obtain ⟨⟨a, b, f⟩, he, e⟩ := List.mem_map.mp hx
  obtain ⟨rfl, rfl⟩ := pK_inj e
  rcases (h.here _ _).mp ⟨f, he⟩ with ⟨q, _⟩ | ⟨_, q⟩
  · exact nodup_take hc hn q
  · exact nodup_take hc hm q
/-- what an exchange tells: the cost and the mates, or none -/
def Cost (F : Str → Str → Option Nat) (cs : List Str) (d3 d4 : Sd.D) : Prop := ((∃ n ∈ cs, F n n = none) ∧ d3 = .non ∧ d4 = .tup []) ∨ ∃ ms c, (∀ n ∈ cs, F n n ≠ none) ∧ Least F cs ms c ∧ d3 = .int (c : Nat) ∧ d4 = dSs ms
section
variable {P : Program} {w : World} {K : Fg} {mg : Str → Option Value} {base : Heap}
theorem ok_Exchange (T : Txt K mg) : Mak P w K mg base 7 "Exchange" (He.ga K "Exchange") (Pr K fun ow ss post => ∃ (p dx : Addr) (L : Ln) (o : OrdD K L) (cs : List Str), ow = [(p, .ins (He.ga K "Exchange") dx [] [])] ∧ ss = [.ptr p, .val (dOrd K o), .val (dSs cs)] ∧ cs.Nodup ∧ cs.length ≤ 4 ∧ (∀ n ∈ cs, n ∈ L.timedN) ∧
    ∀ fk fd F d3 d4, Fst fk fd cs F → (∀ n ∈ cs, ∀ m ∈ cs, FirstV L n m (F n m)) → Cost F cs d3 d4 → post nv [(p, .ins (He.ga K "Exchange") dx kEx [.val (dSs cs), .val (.dT fk fd), .val d3, .val d4])]) [] := by
  obtain ⟨fd, F⟩ := T.f_Exchange_init
  refine ⟨_, fd, p_Exchange_init, [], T.mkr _, fn_pr F sc_Exchange_init ?_ ?_, T.glo _, bd_Exchange_init F, .nil⟩
  · rintro ow ss post ⟨p, dx, _, _, _, _, rfl, _⟩
    rfl
  intro cdv A outer sh H E C D ow ss post hr hR hM Fn Fx
  obtain ⟨p, dx, L, o, cs, rfl, rfl, hcn, hc4, hct, hp⟩ := hR
  have nd := sc_Exchange_init.nd
  refine sd_asg (EvP.em (P := (· = .val (dSs cs))) (ed_var 2) ?_)
  rintro _ rfl
  refine tgm_fldE (ks' := ["chosen"]) (ss' := [.val (dSs cs)]) (ed_var 0) (T.cls _) (T.noat "Exchange" "chosen") .here ?_
  refine sd_asg (EvN.em (A := fun oc => ∃ ks acc, oc = .dT ks acc ∧ ∃ es, FeI L cs cs.length 0 es ∧ ks = es.map (fun e => pK e.1 e.2.1) ∧ acc = (es.map fun e => oN e.2.2).map SV.val) ((en_dc2 (n1 := (cs.map Sd.D.str).length) [("name", 3), ("mate", 4)] [4] (fun i j ks acc => ∃ es, FeI L cs i j es ∧ ks = es.map (fun e => pK e.1 e.2.1) ∧ acc = (es.map fun e => oN e.2.2).map SV.val) (ei_tup (ed_var 2)) (by rw [sizeLine_eq, List.length_map]; have : cs.length * cs.length ≤ 4 * 4 := Nat.mul_le_mul hc4 hc4; omega) (fun q hq => by cases hq) (need1 := []) (item1 := fun j s => ∃ d, (cs.map Sd.D.str)[j]? = some d ∧ s = .val d) (fun q hq => by cases hq) ⟨[], .zero, rfl, rfl⟩ ?_ ?_ nd (blk (N := N_Exchange_init) (sc := fnScope s_Exchange_init) (by decide +kernel)) (by decide) (Nat.lt_of_succ_lt (hu_of hr))).is fun oc h => ?_) ?_)
  · rintro C' le i s hi ⟨d, hd, rfl⟩
    obtain ⟨n, hn, rfl⟩ := getE_map hd
    have hnc := List.mem_of_getElem? hn
    refine ⟨[3], _, by decide, fun _ _ _ _ _ => tg_name 3 nd, fun _ _ _ _ _ => ei_tup (ed_var 2), ?_⟩
    rintro C2 le2 j s ks acc hj ⟨d, hd2, rfl⟩ ⟨es, hI, rfl, rfl⟩
    obtain ⟨m, hm, rfl⟩ := getE_map hd2
    have hmc := List.mem_of_getElem? hm
    refine ⟨[4], _, pK n m, (fun s => ∃ f, FirstV L n m f ∧ s = .val (oN f)), by decide, fun _ _ _ _ _ => tg_name 4 nd, fun _ _ _ _ _ => ed_keyT (ks := pK n m) (ea_cons (ed_var 3) (ea_cons (ed_var 4) ea_nil)), hI.new hcn hn hm, fun _ _ _ _ _ => ?_, fun r ⟨f, hf, e⟩ => ⟨es ++ [(n, m, f)], hI.add hn hm hf, by simp, by rw [e]; simp⟩⟩
    refine ep_propP (Po := fun s => ∃ d, s = .val d ∧ OrdV K L n m d) (ok_first T) hr (by decide) (ep_methX (ok_between T) hr (by decide) (ed_var 1) (.val _ _ _) (by decide) (ea_cons (ed_var 3) (ea_cons (ed_var 4) ea_nil)) fun ts e => ⟨⟨L, o, n, m⟩, by rw [e], ⟨hct n hnc, hct m hmc⟩, fun s h => h⟩) ?_
    rintro _ ⟨d, rfl, wd, W, st, sz, hw, rfl, hf⟩
    refine ⟨⟨_, _, .val _ _ _⟩, ((fgs W.rows W.b W.e 1 m).take (st + sz), (st : Int), (sz : Int)), rfl, ?_, fun s h => ?_⟩
    · show ((fgs W.rows W.b W.e 1 m).take (st + sz)).length ≤ 100000
      have h1 : (fgs W.rows W.b W.e 1 m).length = W.b + (W.e - W.b) := flagsL_len _ _
      have h2 := W.small
      have h3 := W.lt
      rw [List.length_take]
      omega
    · rcases h with ⟨h1, h2⟩ | ⟨k, h1, h2⟩
      · exact ⟨none, ⟨wd, W, st, sz, hw, hf, .inl ⟨h1, rfl⟩⟩, h2⟩
      · exact ⟨some k, ⟨wd, W, st, sz, hw, hf, .inr ⟨k, h1, rfl⟩⟩, h2⟩
  · rintro i ks acc hi ⟨es, hI, e1, e2⟩
    rw [List.length_map] at hi hI
    exact ⟨es, hI.turn hi, e1, e2⟩
  · obtain ⟨ks, acc, rfl, es, hI, e1, e2⟩ := h
    rw [List.length_map] at hI
    exact ⟨ks, acc, rfl, es, hI, e1, e2⟩
  rintro pf _ ⟨_, _, rfl, es, hI, rfl, rfl⟩
  refine tgm_fldE (ks' := ["chosen", "firsts"]) (ss' := [.val (dSs cs), .ptr pf]) (ed_var 0) (T.cls _) (T.noat "Exchange" "firsts") (.there .here) ?_
  generalize hfk : (es.map fun e => pK e.1 e.2.1) = fk
  generalize hfd : (es.map fun e => oN e.2.2) = fdd
  have hF : ∀ n ∈ cs, ∀ m ∈ cs, (n, m, feF es n m) ∈ es ∧ valS fk (fdd.map SV.val) (pK n m) = some (.val (oN (feF es n m))) := fun n hn m hm => by
    obtain ⟨f, hf⟩ := (hI.here n m).mpr (.inl ⟨by rw [List.take_length]; exact hn, hm⟩)
    obtain ⟨h1, h2⟩ := feF_at hf
    rw [hfk, hfd] at h1
    exact ⟨h2, h1⟩
  have hfst : Fst fk fdd cs (feF es) := fun n hn m hm => (hF n hn m hm).2
  have hfv : ∀ n ∈ cs, ∀ m ∈ cs, FirstV L n m (feF es n m) := fun n hn m hm => hI.first _ (hF n hn m hm).1
  refine sd_freeze .here (.dT fk fdd) (by rw [hM]; simp) (ow2 := [(p, .ins (He.ga K "Exchange") dx ["chosen", "firsts"] [.val (dSs cs), .val (.dT fk fdd)])]) (.cons (.ins (.cons (.inl rfl) (.cons (.inr ⟨rfl, rfl⟩) .same))) .nil) .same ?_
  refine sd_asg (em_tup (eaw_val (Pa := (· = nv)) ed_non ?_))
  rintro _ rfl
  refine eaw_val (Pa := (· = .val (.tup []))) (ed_tup (ds := []) ea_nil) ?_
  rintro _ rfl
  refine eaw_nil ⟨by rw [sizeLine_eq]; exact Nat.le_of_ble_eq_true rfl, fun t => tgm_tup (.own t _ List.mem_cons_self) (tgsm_cons (tgm_fldE (ks' := ["chosen", "firsts", "cost"]) (ss' := [.val (dSs cs), .val (.dT fk fdd), nv]) (ed_var 0) (T.cls _) (T.noat "Exchange" "cost") (.there .here) (tgsm_cons (tgm_fldE (ks' := kEx) (ss' := [.val (dSs cs), .val (.dT fk fdd), nv, .val (.tup [])]) (ed_var 0) (T.cls _) (T.noat "Exchange" "mates") (.there .here) (tgsm_nil ?_))))) rfl⟩
  refine SD.drop (ow' := [owX K p dx cs fk fdd nv (.val (.tup []))]) ?_ (List.sublist_cons_self _ _)
  refine sd_if (k := !((cs.map fun n => (feF es n n).isNone).any id)) (et_not (et_val (ep_callB (A := (· = [.val (.lst ((cs.map fun n => (feF es n n).isNone).map Sd.D.bl))])) (eap_cons (ed_lc [("name", 3)] (fun i ds => ds = ((cs.take i).map fun n => (feF es n n).isNone).map Sd.D.bl) (ei_tup (ed_var 2)) (by rw [sizeLine_eq, List.length_map]; omega) (fun q hq => by cases hq) rfl ?_ nd (blk (N := N_Exchange_init) (sc := fnScope s_Exchange_init) (by decide +kernel))) ea_nil (fun s ss h1 h2 => by
      obtain ⟨ds, e1, e2⟩ := h1
      rw [List.length_map, List.take_length] at e2
      rw [e1, e2, h2])) (fun ss e => e ▸ cl_any (lstB _) rfl) (T.free _) bb_any))) (fun hk => ?_) (fun hk => ?_)
  · rintro C' le i s ds hi ⟨d, hd, rfl⟩ rfl
    obtain ⟨n, hn, rfl⟩ := getE_map hd
    have hnc := List.mem_of_getElem? hn
    refine ⟨[3], _, (· = true), by decide, fun _ _ _ _ _ => tg_name 3 nd, fun _ _ _ _ _ => ets_nil, fun h => (by cases h), fun _ => ⟨(· = bv ((feF es n n).isNone)), fun _ _ _ _ _ => (ed_cmp (ed_dget (hu_of hr) (ep_fld (ed_var 0) (.own _ _ _ _ _ List.mem_cons_self) (T.cls _) (T.noat "Exchange" "firsts") rfl) (ed_keyT (ks := pK n n) (ea_cons (ed_var 3) (ea_cons (ed_var 3) ea_nil))) (.t (k := pK n n) (.val _ _) rfl (hfst n hnc n hnc))) ed_non cd_isN).is (by cases feF es n n <;> rfl), fun r e => ?_⟩⟩
    subst e
    exact ⟨((cs.take (i + 1)).map fun n => (feF es n n).isNone).map Sd.D.bl, by rw [take_succ_map hn]; simp, rfl⟩
  · have hall : ∀ n ∈ cs, feF es n n ≠ none := fun n hn e => by
      rw [Bool.not_eq_true', List.any_eq_false] at hk
      exact hk true (List.mem_map.mpr ⟨n, hn, by rw [e]; rfl⟩) rfl
    refine sd_asg (EvP.em (P := fun s => ∃ c ms, s = .val (dCost c ms) ∧ Least (feF es) cs ms c) (ep_meth0 (ok_cheapest T) hr (by decide) (ed_var 0) (.own _ _ _ _ _ List.mem_cons_self) (by decide) ⟨[owX K p dx cs fk fdd nv (.val (.tup []))], fun s ow' => ow' = [owX K p dx cs fk fdd nv (.val (.tup []))] ∧ ∃ c ms, s = .val (dCost c ms) ∧ Least (feF es) cs ms c, List.Sublist.refl _, ⟨p, dx, cs, fk, fdd, feF es, nv, .val (.tup []), rfl, rfl, hcn, hc4, hfst, hall, fun ms c h => ⟨rfl, c, ms, rfl, h⟩⟩, fun s ow' h => h⟩) ?_)
    rintro _ ⟨c, ms, rfl, hL⟩
    refine tgm_tup (.tup [.int (c : Nat), dSs ms]) (tgsm_cons (tgm_fldE (ks' := kEx) (ss' := [.val (dSs cs), .val (.dT fk fdd), iv (c : Nat), .val (.tup [])]) (ed_var 0) (T.cls _) (T.noat "Exchange" "cost") .here (tgsm_cons (tgm_fldE (ks' := kEx) (ss' := [.val (dSs cs), .val (.dT fk fdd), iv (c : Nat), .val (dSs ms)]) (ed_var 0) (T.cls _) (T.noat "Exchange" "mates") .here (tgsm_nil ?_))))) rfl
    exact sd_back rfl (sd_fin Fx (hp fk fdd (feF es) (.int (c : Nat)) (dSs ms) hfst hfv (.inr ⟨ms, c, hall, hL, rfl, rfl⟩)))
  · rw [Bool.not_eq_false', List.any_eq_true] at hk
    obtain ⟨b, hb, hb2⟩ := hk
    obtain ⟨n, hn, rfl⟩ := List.mem_map.mp hb
    exact sd_back rfl (sd_fin Fx (hp fk fdd (feF es) .non (.tup []) hfst hfv (.inl ⟨⟨n, hn, by simpa using hb2⟩, rfl, rfl⟩)))
end
end Tx

/-! text W21 -/
set_option Elab.async false
set_option linter.all false
set_option maxRecDepth 100000
set_option maxHeartbeats 2000000
/-! W21: floors. -/
namespace Tx
open PySem PySem.Spec PyProof.Rows L2 Sd C8
/-- an exchange that has a cost -/
structure ExD where
  cs : List Str
  fk : List (List Key)
  fd : List Sd.D
  F : Str → Str → Option Nat
  ms : List Str
  c : Nat
structure ExD.Ok (z : ExD) : Prop where
  nd : z.cs.Nodup
  n4 : z.cs.length ≤ 4
  fst : Fst z.fk z.fd z.cs z.F
  least : Least z.F z.cs z.ms z.c
  small : ∀ n ∈ z.cs, ∀ m ∈ z.cs, ∀ l, z.F n m = some l → l ≤ 5000
abbrev dX (K : Fg) (cs : List Str) (fk : List (List Key)) (fd : List Sd.D) (c : Nat) (ms : List Str) : Sd.D := .ins (He.ga K "Exchange") kEx [dSs cs, .dT fk fd, .int (c : Nat), dSs ms]
abbrev dXd (K : Fg) (z : ExD) : Sd.D := dX K z.cs z.fk z.fd z.c z.ms
abbrev flK (cs : List Str) : List Key := cs.map Sum.inr
theorem fl_at {cs : List Str} {α : Type} {f : Str → α} {x : Str} (h : x ∈ cs) : valS (flK cs) (cs.map f) (Sum.inr x) = some (f x) := by
  induction cs with
  | nil => cases h
  | cons y cs ih =>
    show valS ((Sum.inr y : Key) :: flK cs) (f y :: cs.map f) _ = _
    rw [valS_cons]
    by_cases e : y = x
    · rw [e, if_pos rfl]
    · rw [if_neg fun z => e (by injection z)]
      exact ih ((List.mem_cons.mp h).resolve_left fun z => e z.symm)
theorem fl_put {cs : List Str} {f : Str → Int} {x : Str} {v : Int} (h : x ∈ cs) : ksPut (flK cs) (Sum.inr x) = flK cs ∧ ssPut (flK cs) (cs.map fun y => iv (f y)) (Sum.inr x) (iv v) = cs.map fun y => iv (upF f x v y) := by
  have hm : (Sum.inr x : Key) ∈ flK cs := List.mem_map.mpr ⟨x, h, rfl⟩
  refine ⟨if_pos hm, ?_⟩
  unfold ssPut
  rw [if_pos hm]
  clear hm h
  induction cs with
  | nil => rfl
  | cons y cs ih =>
    simp only [flK, List.map_cons, List.zip_cons_cons] at ih ⊢
    rw [ih]
    congr 1
    unfold upF
    by_cases e : y = x
    · simp [e]
    · have : ¬ (Sum.inr y : Key) = Sum.inr x := fun z => e (by injection z)
      simp [e, this]
section
variable {P : Program} {w : World} {K : Fg} {mg : Str → Option Value} {base : Heap}
theorem ok_floors (T : Txt K mg) : Met P w K mg base 1 (He.ga K "Exchange") "floors" (Pr K (FX (fun z : ExD => [.val (dXd K z)]) ExD.Ok (fun z s => ∃ g : Str → Nat, Floors z.F z.cs z.ms g ∧ (∀ x ∈ z.cs, g x ≤ 15000) ∧ s = .val (.dK (flK z.cs) (z.cs.map fun x => .int (g x : Nat)))))) [] := by
  obtain ⟨fd0, F0⟩ := T.f_Exchange_floors
  refine ⟨_, fd0, p_Exchange_floors, [], T.cls _, T.meth "Exchange" "floors", fn_pr F0 sc_Exchange_floors (by rintro ow ss post ⟨_, z, rfl, _⟩; rfl) fun cdv A outer sh H E C D ow ss post hr hR hM Fn Fx => ?_, bd_Exchange_floors F0, .nil⟩
  obtain ⟨rfl, ⟨cs, fk, fd, F, ms, c⟩, rfl, ⟨hcn, hc4, hfst, hL, hB⟩, hp⟩ := hR
  have nd := sc_Exchange_floors.nd
  simp only at hcn hc4 hfst hL hB
  obtain ⟨π, rfl⟩ := as_map hcn (tot_len hL.cost)
  have hπ : ∀ x ∈ cs, π x ∈ cs := fun x hx => hL.perm.mem_iff.mp (List.mem_map.mpr ⟨x, hx, rfl⟩)
  refine sd_setN 1 (en_dc [("name", 3)] (fun i ks acc => ks = flK (cs.take i) ∧ acc = (cs.take i).map fun _ => iv 0) (ei_tup (ds := cs.map Sd.D.str) (ep_fld (ed_var 0) (.val _ _ _) (T.cls _) (T.noat "Exchange" "chosen") rfl)) (by rw [sizeLine_eq, List.length_map]; omega) (fun q hq => by cases hq) ⟨rfl, rfl⟩ ?_ nd (blk (N := N_Exchange_floors) (sc := fnScope s_Exchange_floors) (by decide +kernel))) (fun p oc e => ?_) nd
  · rintro C' le i s ks acc hi ⟨d, hd, rfl⟩ ⟨rfl, rfl⟩
    obtain ⟨x, hx, rfl⟩ := getE_map hd
    have hne : (Sum.inr x : Key) ∉ flK (cs.take i) := fun hm => by
      obtain ⟨y, hy, e⟩ := List.mem_map.mp hm
      have e : y = x := by injection e
      subst e
      exact nodup_take hcn hx hy
    refine ⟨[3], _, Sum.inr x, (· = iv 0), by decide, fun _ _ _ _ _ => tg_name 3 nd, fun _ _ _ _ _ => ed_var 3, hne, fun _ _ _ _ _ => ed_int, fun r e => ⟨?_, ?_⟩⟩
    · show _ = (cs.take (i + 1)).map Sum.inr
      rw [take_succ_map hx]
    · rw [e, take_succ_map hx]
  obtain ⟨ks, acc, rfl, rfl, rfl⟩ := e
  rw [List.length_map, List.take_length]
  refine sd_for (fun t ow en => ∃ (f : Str → Int) (y2 y3 y4 y5 y6 y7 : SV), ow = [(p, .dK (flK cs) (cs.map fun y => iv (f y)))] ∧ en = [.val (dX K cs fk fd c (cs.map π)), .ptr p, y2, y3, y4, y5, y6, y7] ∧ Flo F π cs t 0 0 f) PassesOwn.never rfl
    (ei_range1 (j := ((cs.length : Nat) : Int)) (A := fun _ => True) (EvD.is (ep_callB (ea_cons (ep_fld (ed_var 0) (.val _ _ _) (T.cls _) (T.noat "Exchange" "chosen") rfl) ea_nil) (fun ss e => e ▸ cl_len (.tup (cs.map Sd.D.str))) (T.free _) bb_len) (by rw [List.length_map, List.length_map])) (by omega) (T.free _)) ⟨fun _ => 0, .un, .un, .un, .un, .un, .un, rfl, rfl, .zero⟩ (fun _ _ _ _ q hq => by cases hq) ?_ ?_
  · rintro C' le t s ow en ht ⟨f, y2, y3, y4, y5, y6, y7, rfl, rfl, hf⟩ rfl
    refine ⟨_, _, tg_name 2 nd, ?_⟩
    refine sd_for (fun i ow en => ∃ (f : Str → Int) (y3 y4 y5 y6 : SV), ow = [(p, .dK (flK cs) (cs.map fun y => iv (f y)))] ∧ en = [.val (dX K cs fk fd c (cs.map π)), .ptr p, iv (0 + (t : Nat)), y3, y4, y5, y6, y7] ∧ Flo F π cs t i 0 f) PassesOwn.never rfl
      (ei_zipT (ep_fld (ed_var 0) (.val _ _ _) (T.cls _) (T.noat "Exchange" "chosen") rfl) (ep_fld (ed_var 0) (.val _ _ _) (T.cls _) (T.noat "Exchange" "mates") rfl) (by simp) (T.free _)) ⟨f, y3, y4, y5, y6, rfl, rfl, hf⟩ (fun _ _ _ _ q hq => by cases hq) ?_ ?_
    · rintro C2 le2 i s ow en hi ⟨f, y3, y4, y5, y6, rfl, rfl, hf⟩ ⟨d, d', hd, hd', rfl⟩
      obtain ⟨x, hx, rfl⟩ := getE_map hd
      have hd' : d' = .str (π x) := by
        rw [List.map_map, List.getElem?_map, hx] at hd'
        exact (Option.some.inj hd').symm
      subst hd'
      have hxc := List.mem_of_getElem? hx
      have hi : i < cs.length := by simpa using hi
      obtain ⟨b, hb⟩ := tot_at hL.cost x hxc
      refine ⟨_, _, tg_tup rfl (tgs_cons (tg_name 3 nd) (tgs_cons (tg_name 4 nd) tgs_nil)), ?_⟩
      refine sd_for (fun j ow en => ∃ (f : Str → Int) (y5 y6 : SV), ow = [(p, .dK (flK cs) (cs.map fun y => iv (f y)))] ∧ en = [.val (dX K cs fk fd c (cs.map π)), .ptr p, iv (0 + (t : Nat)), sv x, sv (π x), y5, y6, y7] ∧ Flo F π cs t i j f) PassesOwn.never rfl
        (ei_tup (ep_fld (ed_var 0) (.val _ _ _) (T.cls _) (T.noat "Exchange" "chosen") rfl)) ⟨f, y5, y6, rfl, rfl, hf⟩ (fun _ _ _ _ q hq => by cases hq) ?_ ?_
      · rintro C3 le3 j s ow en hj ⟨f, y5, y6, rfl, rfl, hf⟩ ⟨d, hd2, rfl⟩
        obtain ⟨o, ho, rfl⟩ := getE_map hd2
        have hoc := List.mem_of_getElem? ho
        refine ⟨_, _, tg_name 5 nd, sd_set 6 (s := .val (oN (F o (π x)))) (ed_dget (hu_of hr) (ep_fld (ed_var 0) (.val _ _ _) (T.cls _) (T.noat "Exchange" "firsts") rfl) (ed_keyT (ks := pK o (π x)) (ea_cons (ed_var 5) (ea_cons (ed_var 4) ea_nil))) (.t (k := pK o (π x)) (.val _ _) rfl (hfst o hoc (π x) (hπ x hxc)))) ?_ nd⟩
        cases hF : F o (π x) with
        | none =>
          exact sd_no ((et_cmp (ed_var 6) ed_non cd_notN).to rfl) (sd_stop rfl ⟨f, _, _, rfl, rfl, hf.skip hx ho hF⟩)
        | some a =>
          refine sd_if (k := true) ((et_cmp (ed_var 6) ed_non cd_notN).to rfl) (fun _ => ?_) (fun z => by cases z)
          have mm : (p, OC.dK (flK cs) (cs.map fun y => iv (f y))) ∈ [(p, OC.dK (flK cs) (cs.map fun y => iv (f y)))] := List.mem_singleton.mpr rfl
          have hfb : valS fk (fd.map SV.val) (pK x (π x)) = some (iv (b : Nat)) := by rw [hfst x hxc (π x) (hπ x hxc), hb]; rfl
          refine sd_asg (EvP.em (P := (· = iv (if f o + (a : Int) - (b : Int) < f x then f o + (a : Int) - (b : Int) else f x))) (ep_callB (ea_cons (ed_dget (hu_of hr) (ed_var 1) (ed_var 3) (.k (k := Sum.inr x) (.own p _ _ mm) rfl (fl_at hxc))) (ea_cons (ed_sub (ed_add (ed_dget (hu_of hr) (ed_var 1) (ed_var 5) (.k (k := Sum.inr o) (.own p _ _ mm) rfl (fl_at hoc))) (ed_var 6)) (ed_dget (hu_of hr) (ep_fld (ed_var 0) (.val _ _ _) (T.cls _) (T.noat "Exchange" "firsts") rfl) (ed_keyT (ks := pK x (π x)) (ea_cons (ed_var 3) (ea_cons (ed_var 4) ea_nil))) (.t (k := pK x (π x)) (.val _ _) rfl hfb))) ea_nil)) (fun ss e => e ▸ cl_min2 rfl) (T.free _) bb_min) ?_)
          rintro _ rfl
          have em : (if f o + (a : Int) - (b : Int) < f x then f o + (a : Int) - (b : Int) else f x) = min (f x) (f o + (a : Int) - (b : Int)) := by
            rw [Int.min_def]
            split <;> split <;> omega
          rw [em]
          obtain ⟨p1, p2⟩ := fl_put (f := f) (v := min (f x) (f o + (a : Int) - (b : Int))) hxc
          refine tgm_dK (ks := flK cs) (k := Sum.inr x) (ow' := [(p, .dK (flK cs) (cs.map fun y => iv (upF f x (min (f x) (f o + (a : Int) - (b : Int))) y)))]) (hu_of hr) (ed_var 1) (ed_var 3) (by rw [sizeLine_eq, List.length_map]; omega) (by rw [p1, p2]; exact .here) ?_
          exact sd_back rfl (sd_stop rfl ⟨_, _, _, rfl, rfl, hf.step hx ho hF hb⟩)
      · rintro ow en ⟨f, y5, y6, rfl, rfl, hf⟩
        rw [List.length_map] at hf
        exact sd_stop rfl ⟨f, _, _, _, _, rfl, rfl, hf.next hi⟩
    · rintro ow en ⟨f, y3, y4, y5, y6, rfl, rfl, hf⟩
      rw [List.length_map] at hf
      exact sd_stop rfl ⟨f, _, _, _, _, _, _, rfl, rfl, hf.turn⟩
  · rintro ow en ⟨f, y2, y3, y4, y5, y6, y7, rfl, rfl, hf⟩
    have hf : Flo F π cs cs.length 0 0 f := by
      have e : ((cs.length : Nat) : Int).toNat = cs.length := by omega
      rwa [e] at hf
    have mm : (p, OC.dK (flK cs) ((cs.map f).map iv)) ∈ [(p, OC.dK (flK cs) (cs.map fun y => iv (f y)))] := by rw [List.map_map]; exact List.mem_singleton.mpr rfl
    refine sdp_set 7 (P := fun s => ∃ m, s = iv m ∧ (cs.map f = [] → m = 0) ∧ (cs.map f ≠ [] → m ∈ cs.map f ∧ ∀ y ∈ cs.map f, m ≤ y)) (ep_minV (ed_var 1) mm (T.free _)) (fun s hs => ?_) nd
    obtain ⟨m, rfl, _, hm⟩ := hs
    have hle : ∀ x ∈ cs, m ≤ f x := fun x hx => (hm (fun e => by rw [List.map_eq_nil_iff] at e; rw [e] at hx; cases hx)).2 _ (List.mem_map.mpr ⟨x, hx, rfl⟩)
    have hlow : ∀ x ∈ cs, f x ≤ 0 ∧ -(3 * 5000 : Int) ≤ f x := fun x hx => hf.low hcn hc4 hL (B := 5000) (fun y hy b hb => hB y hy (π y) (hπ y hy) b hb) hx
    refine sdp_ret Fn (P := (· = .val (.dK (flK cs) (cs.map fun x => .int (((f x - m).toNat : Nat) : Int))))) (ep_ofN (en_dc [("name", 3)] (fun i ks acc => ks = flK (cs.take i) ∧ acc = (cs.take i).map fun x => iv (f x - m)) (ei_tup (ds := cs.map Sd.D.str) (ep_fld (ed_var 0) (.val _ _ _) (T.cls _) (T.noat "Exchange" "chosen") rfl)) (by rw [sizeLine_eq, List.length_map]; omega) (fun q hq => by cases hq) ⟨rfl, rfl⟩ ?_ nd (blk (N := N_Exchange_floors) (sc := fnScope s_Exchange_floors) (by decide +kernel))) fun oc e => ?_) fun s e => ⟨[], List.nil_sublist _, hp _ ⟨_, floors_of hcn hL hf hle, fun x hx => ?_, e⟩⟩
    · rintro C' le i s ks acc hi ⟨d, hd, rfl⟩ ⟨rfl, rfl⟩
      obtain ⟨x, hx, rfl⟩ := getE_map hd
      have hxc := List.mem_of_getElem? hx
      have hne : (Sum.inr x : Key) ∉ flK (cs.take i) := fun hm => by
        obtain ⟨y, hy, e⟩ := List.mem_map.mp hm
        have e : y = x := by injection e
        subst e
        exact nodup_take hcn hx hy
      refine ⟨[3], _, Sum.inr x, (· = iv (f x - m)), by decide, fun _ _ _ _ _ => tg_name 3 nd, fun _ _ _ _ _ => ed_var 3, hne, fun _ _ _ _ _ => ed_sub (ed_dget (hu_of hr) (ed_var 1) (ed_var 3) (.k (k := Sum.inr x) (.own p _ _ (List.mem_singleton.mpr rfl)) rfl (fl_at hxc))) (ed_var 7), fun r e => ⟨?_, ?_⟩⟩
      · show _ = (cs.take (i + 1)).map Sum.inr
        rw [take_succ_map hx]
      · rw [e, take_succ_map hx]
    · obtain ⟨ks, acc, rfl, rfl, rfl⟩ := e
      rw [List.length_map, List.take_length]
      refine ⟨.dK (flK cs) (cs.map fun x => .int (((f x - m).toNat : Nat) : Int)), ?_, rfl⟩
      have e2 : (cs.map fun x => iv (f x - m)) = (cs.map fun x => Sd.D.int (((f x - m).toNat : Nat) : Int)).map SV.val := by
        rw [List.map_map]
        refine List.map_congr_left fun x hx => ?_
        have := hle x hx
        have e3 : (((f x - m).toNat : Nat) : Int) = f x - m := by omega
        show iv (f x - m) = iv (((f x - m).toNat : Nat) : Int)
        rw [e3]
      rw [e2]
      exact .dK _ _
    · have h1 := (hlow x hx).1
      obtain ⟨hmm, _⟩ := hm (fun e => by rw [List.map_eq_nil_iff] at e; rw [e] at hx; cases hx)
      obtain ⟨y, hy, rfl⟩ := List.mem_map.mp hmm
      have h2 := (hlow y hy).2
      show (f x - f y).toNat ≤ 15000
      omega
end
end Tx

/-! text Sd22 -/
set_option Elab.async false
set_option linter.all false
set_option maxRecDepth 100000
set_option maxHeartbeats 2000000
/-! Sd22: a list comprehension over what a call hands back. -/
namespace Sd
open PySem PySem.Spec PyProof.Rows L2
section
variable {C : FC} {X : Cx} {ow : Ow} {en : En} {tg iter elt : Expr} {ifs : List Expr} {scope : Scope} {own : List (Str × Nat)} {pos : Pos} {P : SV → Prop}
/-- what is to be shown when the items are known -/
structure LcX (C : FC) (X : Cx) (ow : Ow) (en : En) (scope : Scope) (own : List (Str × Nat)) (tg elt : Expr) (ifs : List Expr) (need : Ow) (n : Nat) (item : Nat → SV → Prop) (Pf : List SV → Prop) : Prop where
  ex : ∃ A : Nat → List SV → Prop, n ≤ sizeLine ∧ (∀ q ∈ need, q ∈ ow) ∧ A 0 [] ∧ (∀ C', FC.Le C C' → ∀ i s acc, i < n → item i s → A i acc → LcTurn C' X ow en scope own tg elt ifs s acc (A (i + 1))) ∧ ∀ acc, A n acc → Pf acc
theorem lc_readX {need : Ow} {I : Nat → (Nat → SV → Prop) → Prop} {Pf : List SV → Prop} (hi : EvIX C X ow en tg iter need I) (h : ∀ n item, I n item → LcX C X ow en scope own tg elt ifs need n item Pf) {B : Hp} {σ : L2.St} {H : Hp} (S : Sta C X.K B ow en σ H) {Q : VK}
    (q : ∀ p acc B' H', Pf acc → NxN C X.K ow en σ B H p (.lst acc) B' H' → Q (.ref p) H') :
    tLc (WI X tg iter) (fun v σ H Q => ∀ s0 H0 Ca cl fp, WG (X.blk s0 H0 scope (compEnvC scope cl Ca X.env) fp) tg v σ H Q) (fun σ H Q => ∀ s0 H0 Ca cl fp, ∃ t, PTs (X.blk s0 H0 scope (compEnvC scope cl Ca X.env) fp) ifs t ∧ t σ H Q)
      (fun σ H Q => ∀ s0 H0 Ca cl fp, WE (X.blk s0 H0 scope (compEnvC scope cl Ca X.env) fp) elt σ H Q) (own.map (·.2)) σ H Q := by
  refine hi.run B σ H S _ fun J gs n item B1 H1 hI n1 rg wj => ?_
  obtain ⟨A, hn, hneed, h0, hs, hpf⟩ := (h n item hI).ex
  intro p hp
  have N0 : NxN (C.sees gs) X.K ow en σ B1 H1 p (.lst []) B1 (upd H1 p (.lst [])) := NxN.hold (n1.sta.sees rg) hp ⟨[], upd_same, rfl⟩
  refine ⟨fun i m H' => m = n - i ∧ i ≤ n ∧ ∃ acc B', A i acc ∧ acc.length ≤ i ∧ NxN (C.sees gs) X.K ow en σ B1 H1 p (.lst acc) B' H', ⟨n, by simp, Nat.zero_le _, [], B1, h0, Nat.le_refl _, N0⟩, ?_⟩
  rintro i m H' ⟨rfl, hi, acc, B', ha, hl, N⟩
  obtain ⟨go, stop⟩ := wj B' H' N.sta.seen N.sta.sub fun q hq => (N.sta.own _ (List.mem_cons_of_mem _ (hneed q hq))).2.2
  by_cases hlt : i < n
  · obtain ⟨g1, g2⟩ := go i hlt
    refine .inr ⟨g1, fun H'' => ∃ acc B', A (i + 1) acc ∧ acc.length ≤ i + 1 ∧ NxN (C.sees gs) X.K ow en σ B1 H1 p (.lst acc) B' H'', fun H'' z => ⟨n - (i + 1), by omega, rfl, hlt, z⟩, fun x H2 y => ?_⟩
    obtain ⟨s, B2, is, g, r⟩ := g2 x H2 y
    obtain ⟨js, en', T, hjs, hT, hE, hF, hP⟩ := (hs (C.sees gs) .sees i s acc hlt is ha).ex
    -- the state ahead of the turn, in the block
    have S2 : Sta (C.sees gs) X.K B2 ((p, .lst acc) :: ow) en σ H2 := N.sta.grow g
    have Sw := S2.wipe (own.map (·.2))
    have back : ∀ {B3 H3 : Hp} {σ3 : L2.St} {en3 : En} {acc3 : List SV}, Ex B2 B3 → (∀ a o, a ∉ ow.map (·.1) → a ≠ p → H2 a = some o → H3 a = some o) → (∀ a, B3 a ≠ none → B2 a ≠ none ∨ H2 a = none) → Sta (C.sees gs) X.K B3 ((p, .lst acc3) :: ow) en3 σ3 H3 →
        NxN (C.sees gs) X.K ow en σ B1 H1 p (.lst acc3) B3 H3 := fun {B3 H3 σ3 en3 acc3} e3 f3 w3 S3 => by
      refine ⟨(N.exB.trans g.exB).trans e3, fun a o h1 h2 => ?_, fun a h => ?_, N.new, ?_⟩
      · have ne : a ≠ p := ne_of_none h2 N.new
        exact f3 a o h1 ne (g.exH _ _ (N.fr a o h1 h2))
      · rcases w3 a h with h | h
        · rcases g.new a h with h | h
          · exact N.nw a h
          · exact .inr (lc_read.free1 N h)
        · exact .inr (lc_read.free1 N (lc_read.free2 g h))
      · exact S2.slots (C2 := C) S3 e3
    intro s0 H0 Ca cl fp
    refine (hT s0 H0 Ca cl fp).more.run B2 _ H2 x Sw r _ fun σ3 b3 S3 => ⟨by rw [b3.wipe hjs, lc_read.wipe_wipe], ?_⟩
    intro s0 H0 Ca cl fp
    refine (hE s0 H0 Ca cl fp).more.run B2 σ3 H2 S3 _ fun b B4 H4 tb n4 => ?_
    cases b with
    | false =>
      rw [if_neg Bool.false_ne_true]
      exact ⟨acc, B4, hF tb, by omega, back n4.exB (fun a o h1 h2 h3 => n4.fr a o (by simp [h1, h2]) h3) n4.nw n4.sta⟩
    | true =>
      rw [if_pos rfl]
      obtain ⟨P, hel, hPa⟩ := hP tb
      intro s0 H0 Ca cl fp
      refine (hel s0 H0 Ca cl fp).more.run B4 σ3 H4 n4.sta _ fun v r5 B5 H5 p5 n5 r5' => ?_
      obtain ⟨_, _, xs, hx, lx⟩ := n5.sta.own _ List.mem_cons_self
      have hx : H5 p = some (.lst xs) := hx
      have hxl : xs.length < sizeLine := by rw [← lx.length]; omega
      have S6 : Sta (C.sees gs) X.K B5 ((p, .lst (acc ++ [r5])) :: ow) en' σ3 (upd H5 p (.lst (xs ++ [v]))) := n5.sta.write .here ⟨xs ++ [v], upd_same, lx.append (RpSL.cons r5' RpSL.nil)⟩
      refine ⟨xs, hx, hxl, acc ++ [r5], B5, hPa r5 p5, by rw [List.length_append, List.length_singleton]; omega, back (n4.exB.trans n5.exB) (fun a o h1 h2 h3 => ?_) (fun a h => ?_) S6⟩
      · rw [upd_ne h2]
        exact n5.fr a o (by simp [h1, h2]) (n4.fr a o (by simp [h1, h2]) h3)
      · exact (n5.nw a h).elim (n4.nw a) fun z => .inr (n4.free z)
  · have e : i = n := by omega
    subst e
    exact .inl ⟨stop, q p acc B' H' (hpf acc ha) (n1.trN ⟨N.exB, N.fr, N.nw, N.new, N.sta.unsees⟩)⟩
theorem en_lcX {need : Ow} {I : Nat → (Nat → SV → Prop) → Prop} {Pf : List SV → Prop} (own : List (Str × Nat)) (hi : EvIX C X ow en tg iter need I) (h : ∀ n item, I n item → LcX C X ow en scope own tg elt ifs need n item Pf)
    (hN : X.N.Nodup) (ok : BlkOk X.N X.env.scope scope own) (hc : X.calm = true := by rfl) (hfs : ∀ x, foldedSetIterable iter X.env x = pure x := by intro _; rfl) :
    EvN C X ow en (.ListComp elt [⟨tg, iter, ifs, 0⟩] scope pos) (fun oc => ∃ acc, oc = .lst acc ∧ Pf acc) :=
  ⟨fun B σ H S Q q => ⟨_, pe_lc hc hN pi_wi ok (fun s0 H0 Ca cl fp => ⟨fun pins s σ H v u Q I r h => by
      obtain ⟨t, ht, z⟩ := h s0 H0 Ca cl fp
      exact ht.run pins s σ H v u Q I r z⟩) (fun s0 H0 Ca cl fp => ⟨fun pins s σ H Q I h => by
      obtain ⟨t, ht, z⟩ := h s0 H0 Ca cl fp
      exact ht.run pins s σ H Q I z⟩) (fun s0 H0 Ca cl fp => ⟨fun pins s σ H Q I h => by
      obtain ⟨t, ht, z⟩ := h s0 H0 Ca cl fp
      exact ht.run pins s σ H Q I z⟩) hfs, lc_readX hi h S fun p acc B' H' ha n => q p _ B' H' ⟨acc, rfl, ha⟩ n⟩⟩
theorem ei_lstX {A : List Sd.D → Prop} (h : EvP C X ow en iter (fun s => ∃ ds, s = .val (.lst ds) ∧ A ds)) : EvIX C X ow en tg iter [] (fun n item => ∃ ds, A ds ∧ n = ds.length ∧ item = fun i s => ∃ d, ds[i]? = some d ∧ s = .val d) :=
  ⟨fun B σ H S R q => ⟨_, pi_list pe_we, h.run B σ H S _ fun v s B' H' p n r => by
    obtain ⟨ds, rfl, pa⟩ := p
    have r0 := r
    simp only [RpS, Rp] at r
    obtain ⟨a, xs, e1, hx, l⟩ := r
    refine ⟨a, e1, ⟨xs, n.sta.sub.l hx⟩, q _ [(v, .val (.lst ds))] ds.length _ B' H' ⟨ds, pa, rfl, rfl⟩ n (fun z hz => by
      rw [List.mem_singleton.mp hz]
      exact r0) fun B2 H2 hg sub _ => ?_⟩
    have r2 := hg _ (List.mem_singleton.mpr rfl)
    simp only [RpS, Rp] at r2
    obtain ⟨a2, ys, e2, hy, l2⟩ := r2
    rw [e1] at e2
    cases e2
    have hyH := sub.l hy
    refine ⟨fun i hi => ?_, ys, hyH, by rw [← l2.length]; exact Nat.le_refl _⟩
    have hd : ds[i]? = some ds[i] := List.getElem?_eq_getElem hi
    obtain ⟨x, hx2, rx⟩ := l2.get hd
    refine ⟨⟨ys, x, hyH, hx2⟩, fun x' H' y => ?_⟩
    obtain ⟨eH, y⟩ := y
    subst eH
    have ex := y ys hyH
    rw [hx2] at ex
    cases ex
    exact ⟨_, B2, ⟨_, hd, rfl⟩, Grow.refl sub, rx⟩⟩⟩
end
end Sd

/-! text W22 -/
set_option Elab.async false
set_option linter.all false
set_option maxRecDepth 100000
set_option maxHeartbeats 2000000
/-! W22: tasks_apart. -/
namespace Tx
open PySem PySem.Spec PyProof.Rows L2 Sd C8
abbrev dTask (t : Str × Nat) : Sd.D := .tup [.str t.1, .int (t.2 : Nat)]
/-- a task as a key -/
abbrev kT (x : Str) (k : Nat) : List Key := [Sum.inr x, Sum.inl ((k : Nat) : Int)]
abbrev dTaskK (t : Str × Nat) : Sd.D := .key (kT t.1 t.2)
abbrev dNm (t : Str × Nat) : Sd.D := .tup [.int (t.2 : Nat), .str t.1]
abbrev kNm (t : Str × Nat) : List Key := [Sum.inl ((t.2 : Nat) : Int), Sum.inr t.1]
def part (g : Str → Nat) (F : Str → Str → Option Nat) (n m : Str) : List (Str × Nat) := (List.range (g n + (F n m).getD 0 - g m)).map fun i => (m, g m + 1 + i)
theorem apart_snoc {g : Str → Nat} {F : Str → Str → Option Nat} {n m : Str} : ∀ {ns ms : List Str}, ns.length = ms.length → apart g F (ns ++ [n]) (ms ++ [m]) = apart g F ns ms ++ part g F n m
  | [], [], _ => by simp [apart, part]
  | [], _ :: _, h => by cases h
  | _ :: _, [], h => by cases h
  | x :: ns, y :: ms, h => by
    rw [List.cons_append, List.cons_append, apart, apart, apart_snoc (by simpa using h), List.append_assoc]
theorem dNm_key {t : Str × Nat} {K : Fg} {B H : Hp} {v : V} (x : Ex B H) (r : Rp K B (dNm t) v) : ∃ a, v = V.ref a ∧ SqT K H a ((kNm t).map kV) := by
  simp only [Rp] at r
  obtain ⟨a, xs, e, q, rl⟩ := r
  obtain ⟨y, ys, e1, r1, y2, ys2, e2, r2, r3⟩ := rl
  simp only [Rp] at r1 r2
  rw [show ys2 = [] from r3] at e2
  rw [e2, r2] at e1
  rw [e1, r1] at q
  exact ⟨a, e, x.t q⟩
theorem flatK_nm {ts : List (Str × Nat)} : FlatK (ts.map kNm) := by
  refine ⟨fun k hk => ?_, fun k hk j hj p hp => ?_⟩
  · obtain ⟨r, hr, rfl⟩ := List.mem_map.mp hk
    exact ⟨_, _, rfl⟩
  · obtain ⟨r, hr, rfl⟩ := List.mem_map.mp hk
    obtain ⟨q, hq, rfl⟩ := List.mem_map.mp hj
    simp only [kNm, List.zip_cons_cons, List.zip_nil_right, List.mem_cons, List.not_mem_nil, or_false] at hp
    rcases hp with rfl | rfl <;> rfl
section
variable {P : Program} {w : World} {K : Fg} {mg : Str → Option Value} {base : Heap}
theorem ok_tasks_apart (T : Txt K mg) : Met P w K mg base 2 (He.ga K "Exchange") "tasks_apart" (Pr K (FX (fun z : ExD => [.val (dXd K z)]) ExD.Ok (fun z s => ∃ (g : Str → Nat) (T : List (Str × Nat)), Floors z.F z.cs z.ms g ∧ T.Perm (apart g z.F z.cs z.ms) ∧ T.length ≤ 80000 ∧ s = .val (.tup (T.map dTaskK))))) [] := by
  obtain ⟨fd0, F0⟩ := T.f_Exchange_tasks_apart
  refine ⟨_, fd0, p_Exchange_tasks_apart, [], T.cls _, T.meth "Exchange" "tasks_apart", fn_pr F0 sc_Exchange_tasks_apart (by rintro ow ss post ⟨_, z, rfl, _⟩; rfl) fun cdv A outer sh H E C D ow ss post hr hR hM Fn Fx => ?_, bd_Exchange_tasks_apart F0, .nil⟩
  obtain ⟨rfl, ⟨cs, fk, fd, F, ms, c⟩, rfl, ⟨hcn, hc4, hfst, hL, hB⟩, hp⟩ := hR
  have nd := sc_Exchange_tasks_apart.nd
  simp only at hcn hc4 hfst hL hB
  have hlen := tot_len hL.cost
  refine sd_par 1 2 (eaw_val (Pa := fun s => ∃ g : Str → Nat, Floors F cs ms g ∧ (∀ x ∈ cs, g x ≤ 15000) ∧ s = .val (.dK (flK cs) (cs.map fun x => .int (g x : Nat)))) (ep_methX0 (ok_floors T) hr (by decide) (ed_var 0) (.val _ _ _) (by decide) ⟨⟨cs, fk, fd, F, ms, c⟩, rfl, ⟨hcn, hc4, hfst, hL, hB⟩, fun s h => h⟩) fun s ⟨g, hg, hg2, e⟩ => e ▸ eaw_new (A := (· = .lst [])) (en_lst ea_nil) fun pf _ e => e ▸ eaw_nil ⟨_, _, rfl, ?_⟩) rfl nd (by decide)
  have rd : ∀ {ow : Ow}, ∀ x ∈ cs, DkAt ow (.val (.dK (flK cs) (cs.map fun x => .int (g x : Nat)))) (sv x) (some (iv (g x : Nat))) := fun x hx => .k (k := Sum.inr x) (.val _ _) rfl (by
    rw [List.map_map]
    exact fl_at (f := fun x => iv (g x : Nat)) hx)
  refine sd_for (fun i ow en => ∃ (x3 x4 x5 x6 : SV), ow = [(pf, .lst (((apart g F (cs.take i) (ms.take i)).map dNm).map SV.val))] ∧ en = [.val (dX K cs fk fd c ms), .val (.dK (flK cs) (cs.map fun x => .int (g x : Nat))), .ptr pf, x3, x4, x5, x6] ∧ (apart g F (cs.take i) (ms.take i)).length ≤ i * 20000) PassesOwn.never rfl
    (ei_zipT (ds := cs.map Sd.D.str) (es := ms.map Sd.D.str) (ep_fld (ed_var 0) (.val _ _ _) (T.cls _) (T.noat "Exchange" "chosen") rfl) (ep_fld (ed_var 0) (.val _ _ _) (T.cls _) (T.noat "Exchange" "mates") rfl) (by simpa using hlen) (T.free _)) ⟨.un, .un, .un, .un, rfl, rfl, by simp [apart]⟩ (fun _ _ _ _ q hq => by cases hq) ?_ ?_
  · rintro C' le i s ow en hi ⟨x3, x4, x5, x6, rfl, rfl, hl⟩ ⟨d, d', hd, hd', rfl⟩
    obtain ⟨n, hn, rfl⟩ := getE_map hd
    obtain ⟨m, hm, rfl⟩ := getE_map hd'
    have hnc := List.mem_of_getElem? hn
    have hmm := List.mem_of_getElem? hm
    have hmc := hL.perm.mem_iff.mp hmm
    have hi : i < cs.length := by simpa using hi
    have hz : (n, m) ∈ cs.zip ms := List.mem_iff_getElem?.mpr ⟨i, by rw [List.getElem?_zip_eq_some]; exact ⟨hn, hm⟩⟩
    obtain ⟨l, hl2⟩ := tot_zip hL.cost n m hz
    have hls := hB n hnc m hmc l hl2
    have hgn := hg2 n hnc
    have hgm := hg2 m hmc
    have hfl : valS fk (fd.map SV.val) (pK n m) = some (iv (l : Nat)) := by rw [hfst n hnc m hmc, hl2]; rfl
    have hpart : part g F n m = (List.range (g n + l - g m)).map fun i => (m, g m + 1 + i) := by unfold part; rw [hl2]; rfl
    have happ : apart g F (cs.take (i + 1)) (ms.take (i + 1)) = apart g F (cs.take i) (ms.take i) ++ part g F n m := by
      rw [List.take_add_one, List.take_add_one, hn, hm]
      exact apart_snoc (by rw [List.length_take, List.length_take, hlen])
    refine ⟨_, _, tg_tup rfl (tgs_cons (tg_name 3 nd) (tgs_cons (tg_name 4 nd) tgs_nil)), ?_⟩
    refine sd_set 5 (s := iv ((g n : Int) + (l : Int))) (ed_add (ed_dget (hu_of hr) (ed_var 1) (ed_var 3) (rd n hnc)) (ed_dget (hu_of hr) (ep_fld (ed_var 0) (.val _ _ _) (T.cls _) (T.noat "Exchange" "firsts") rfl) (ed_keyT (ks := pK n m) (ea_cons (ed_var 3) (ea_cons (ed_var 4) ea_nil))) (.t (k := pK n m) (.val _ _) rfl hfl))) ?_ nd
    refine sd_ext (ss := ((apart g F (cs.take i) (ms.take i)).map dNm).map SV.val) (r := pf) (ts := []) 2 rfl (EvN.em (A := fun oc => oc = .lst (((part g F n m).map dNm).map SV.val)) ((en_lc [("number", 6)] (fun k acc => acc = ((List.range k).map fun i => (m, g m + 1 + i)).map fun t => SV.val (dNm t)) (ei_range2 (i := (g m : Int) + 1) (j := (g n : Int) + (l : Int) + 1) (ed_add (ed_dget (hu_of hr) (ed_var 1) (ed_var 4) (rd m hmc)) ed_int) (ed_add (ed_var 5) ed_int) (by omega) (T.free _)) (by rw [sizeLine_eq]; omega) (fun q hq => by cases hq) rfl ?_ nd (blk (N := N_Exchange_tasks_apart) (sc := fnScope s_Exchange_tasks_apart) (by decide +kernel))).is fun oc h => ?_) fun r oc e => ?_) nd
    · rintro C2 le2 k s acc hk rfl rfl
      refine ⟨[6], _, (· = true), by decide, fun _ _ _ _ _ => tg_name 6 nd, fun _ _ _ _ _ => ets_nil, fun h => (by cases h), fun _ => ⟨(· = .val (dNm (m, g m + 1 + k))), fun _ _ _ _ _ => (ed_tup (ds := [.int ((g m : Int) + 1 + (k : Nat)), .str m]) (ea_cons (ed_var 6) (ea_cons (ed_var 4) ea_nil))).is (by simp), fun r e => ?_⟩⟩
      subst e
      rw [List.range_succ, List.map_append, List.map_append]
      rfl
    · obtain ⟨acc, rfl, rfl⟩ := h
      have e : ((g n : Int) + (l : Int) + 1 - ((g m : Int) + 1)).toNat = g n + l - g m := by omega
      rw [e, hpart, List.map_map, List.map_map, List.map_map]
      rfl
    · subst e
      have hpl : (part g F n m).length ≤ 20000 := by rw [hpart, List.length_map, List.length_range]; omega
      have hi4 : i * 20000 ≤ 4 * 20000 := Nat.mul_le_mul_right _ (by omega)
      refine ⟨r, _, _, rfl, List.mem_cons_self, .there .here, by rw [sizeLine_eq]; simp only [List.length_map]; omega, SD.drop (sd_stop rfl ⟨_, _, _, _, ?_, rfl, ?_⟩) (List.sublist_cons_self _ _)⟩
      · rw [happ, List.map_append, List.map_append]
      · rw [happ, List.length_append]
        have : (i + 1) * 20000 = i * 20000 + 20000 := by omega
        omega
  · rintro ow en ⟨x3, x4, x5, x6, rfl, rfl, hl⟩
    rw [List.length_map] at hl ⊢
    rw [List.take_length] at hl ⊢
    have em : ms.take cs.length = ms := by rw [hlen, List.take_length]
    rw [em] at hl ⊢
    have hl8 : (apart g F cs ms).length ≤ 80000 := by
      have : cs.length * 20000 ≤ 4 * 20000 := Nat.mul_le_mul_right _ hc4
      omega
    refine sdp_ret Fn (P := fun s => ∃ T : List (Str × Nat), s = .val (.tup (T.map dTaskK)) ∧ T.Perm (apart g F cs ms)) (ep_callTy (A := fun ss => ∃ T : List (Str × Nat), ss = [.val (.lst (T.map dTaskK))] ∧ T.Perm (apart g F cs ms)) (eap_cons (ep_ofN (P := fun s => ∃ T : List (Str × Nat), s = .val (.lst (T.map dTaskK)) ∧ T.Perm (apart g F cs ms)) (en_lcX (Pf := fun acc => ∃ T : List (Str × Nat), acc = (T.map dTaskK).map SV.val ∧ T.Perm (apart g F cs ms)) [("number", 6), ("mate", 4)] (ei_lstX (A := fun ds => ∃ T : List (Str × Nat), ds = T.map dNm ∧ T.Perm (apart g F cs ms)) (ep_ofN (en_callB (ea_cons (ed_var 2) ea_nil) (fun ss e => e ▸ cn_sortedF (d := dNm) (key := kNm) (.own pf _ (List.mem_singleton.mpr rfl)) (fun t _ K B H v x r => dNm_key x r) flatK_nm) (T.free _) bb_sorted) fun oc ⟨us, e, pu⟩ => ⟨.lst (us.map dNm), e ▸ .lst _, us.map dNm, rfl, us, rfl, pu⟩)) ?_ nd (blk (N := N_Exchange_tasks_apart) (sc := fnScope s_Exchange_tasks_apart) (by decide +kernel))) fun oc ⟨acc, e, T, e2, pT⟩ => ⟨.lst (T.map dTaskK), by rw [e, e2]; exact .lst _, T, rfl, pT⟩) ea_nil fun s ss ⟨T, e, h1⟩ e2 => ⟨T, by rw [e, e2], h1⟩)
      (fun ss ⟨T, e, h1⟩ => e ▸ ⟨(cl_tuple (.lst _)).ex.imp fun r h => ⟨h.1, fun B σ H vs S rs' Q q => h.2 B σ H vs S rs' Q fun z s B' H' p n r => q z s B' H' ⟨T, p, h1⟩ n r⟩⟩) (T.free _) bt_tuple) fun s ⟨T, e, h1⟩ => ⟨[], List.nil_sublist _, hp _ ⟨g, T, hg, h1, by rw [h1.length_eq]; exact hl8, e⟩⟩
    rintro N item ⟨_, ⟨U, rfl, pU⟩, rfl, rfl⟩
    refine ⟨fun i acc => acc = ((U.take i).map dTaskK).map SV.val, by rw [sizeLine_eq, List.length_map, pU.length_eq]; omega, fun q hq => (by cases hq), rfl, ?_, fun acc e => ⟨U, by rw [e, List.length_map, List.take_length], pU⟩⟩
    rintro C' le i s acc hi ⟨d, hd, rfl⟩ rfl
    obtain ⟨t, ht, rfl⟩ := getE_map hd
    refine ⟨[6, 4], _, (· = true), by decide, fun _ _ _ _ _ => tg_tup rfl (tgs_cons (tg_name 6 nd) (tgs_cons (tg_name 4 nd) tgs_nil)), fun _ _ _ _ _ => ets_nil, fun h => (by cases h), fun _ => ⟨(· = .val (dTaskK t)), fun _ _ _ _ _ => ed_keyT (ks := kT t.1 t.2) (ea_cons (ed_var 4) (ea_cons (ed_var 6) ea_nil)), fun r e => ?_⟩⟩
    subst e
    rw [take_succ_map ht, List.map_append]
    rfl
end
end Tx

/-! text W23 -/
set_option Elab.async false
set_option linter.all false
set_option maxRecDepth 100000
set_option maxHeartbeats 2000000
/-! W23: exchange_of, most_at_once, overlapping. -/
namespace Sd
open PySem PySem.Spec PyProof.Rows L2
section
variable {C : FC} {X : Cx} {ow : Ow} {en : En} {o : Expr} {pos : Pos} {f : Str} {P Po : SV → Prop} {Cc : Addr}
/-- o.f, o known by what is told of it -/
theorem ep_fldP (ho : EvP C X ow en o Po) (h : ∀ so, Po so → ∃ ks ss s, InsOf ow so Cc ks ss ∧ (ks.zip ss).lookup f = some s ∧ P s) (cl : Cls X.K Cc) (na : NoAttr X.K Cc f)
    (hb : attributeBase o f X.env (eval o X.env) = eval o X.env := by rfl) : EvP C X ow en (.Attribute o f pos) P :=
  ⟨fun B σ H S Q q => ⟨_, pe_fld pe_we hb, ho.run B σ H S _ fun v t B' H' p n r => by
    obtain ⟨ks, ss, s, hi, hl, ps⟩ := h t p
    obtain ⟨a, dx, xs, e, ha, _, l⟩ := hi.at n.sta r
    obtain ⟨u, hu, ru⟩ := zip_look l hl
    exact ⟨a, Cc, dx, _, u, e, ha, cl, na, hu, q u s B' H' ps n ru⟩⟩⟩
end
end Sd
namespace Tx
open PySem PySem.Spec PyProof.Rows L2 Sd C8
/-- what an exchange is -/
abbrev dEx (K : Fg) (cs : List Str) (fk : List (List Key)) (fd : List Sd.D) (d3 d4 : Sd.D) : Sd.D := .ins (He.ga K "Exchange") kEx [dSs cs, .dT fk fd, d3, d4]
def rEx (K : Fg) (z : Ln × List Str) (s : SV) : Prop := ∃ fk fd F d3 d4, s = .val (dEx K z.2 fk fd d3 d4) ∧ Fst fk fd z.2 F ∧ (∀ n ∈ z.2, ∀ m ∈ z.2, FirstV z.1 n m (F n m)) ∧ Cost F z.2 d3 d4
structure ExIn (z : Ln × List Str) : Prop where
  low : z.1.Low
  rk : z.1.Ranked
  nd : z.2.Nodup
  sub : ∀ x ∈ z.2, x ∈ z.1.timedN
theorem ExIn.n4 {z : Ln × List Str} (h : ExIn z) : z.2.length ≤ 4 := by
  have h1 := nodup_lenS h.nd h.sub
  have h2 := z.1.timed_len
  have h3 := h.low.few.n4
  omega
theorem first_small {L : Ln} {n m : Str} {f : Option Nat} (h : FirstV L n m f) {l : Nat} (e : f = some l) : l ≤ 5000 := by
  obtain ⟨wd, W, st, sz, hW, hF, h⟩ := h
  rcases h with ⟨_, h2⟩ | ⟨k, hk, h2⟩
  · rw [e] at h2; cases h2
  · rw [e] at h2
    cases h2
    obtain ⟨h1, _⟩ := trues_first hk
    have h2 := (List.getElem?_eq_some_iff.mp h1).1
    have h3 : (fgs W.rows W.b W.e 1 m).length = W.b + (W.e - W.b) := flagsL_len _ _
    have h4 := W.small
    have h5 := W.lt
    rw [List.length_take] at h2
    omega
section
variable {P : Program} {w : World} {K : Fg} {mg : Str → Option Value} {base : Heap}
theorem ok_exchange_of (T : Txt K mg) : Cal P w K mg base 10 "exchange_of" (Pr K (FX (fun z : Ln × List Str => [.val (dLn K z.1), .val (dSs z.2)]) ExIn (rEx K))) [] := by
  obtain ⟨fd, F⟩ := T.f_exchange_of
  refine cal_of F sc_exchange_of (T.glo _) (bd_exchange_of F) (by rintro ow ss post ⟨_, L, rfl, _⟩; rfl) fun cdv A outer sh H E C D ow ss post hr hR hM Fn Fx => ?_
  obtain ⟨rfl, ⟨L, cs⟩, rfl, hz, hp⟩ := hR
  have nd := sc_exchange_of.nd
  have h4 := hz.n4
  have h6 := hz.low.few.n4
  obtain ⟨_, Fc⟩ := T.f_check_free
  refine sd_expr (ep_callF (P := fun _ => True) (ok_check_line T) hr (by decide) (ea_cons (ed_var 0) ea_nil) fun ss e => ⟨⟨_, e⟩, fun s e => trivial⟩) ?_
  refine sd_set 2 (s := .val (dSs cs)) (ep_callX (ok_chosen_names T) hr (by decide) (ea_cons (ed_var 0) (ea_cons (ed_var 1) ea_nil)) fun ss e => ⟨(L, cs), e, ⟨by show L.sts.length ≤ 6; simp only at h6; omega, hz.nd, hz.sub⟩, fun s e => e⟩) ?_ nd
  refine sd_expr (ep_callStar (P := fun _ => True) (ok_check_free T) hr (by decide) Fc.kp (T.glo _) (ed_var 0) ⟨fun s ow' => s = nv ∧ ow' = [], ⟨rfl, L, rfl, ⟨hz.low.few, hz.rk⟩, fun s e => ⟨e, rfl⟩⟩, fun s ow' h => ⟨h.2, trivial⟩⟩) ?_
  refine sdp_ret Fn (P := rEx K (L, cs)) (ep_ofN (en_make (dd := []) (A := fun ss => ∃ o : OrdD K L, ss = [.val (dOrd K o), .val (dSs cs)]) (A2 := fun oc => ∃ dx fk fd F d3 d4, oc = .ins (He.ga K "Exchange") dx kEx [.val (dSs cs), .val (.dT fk fd), .val d3, .val d4] ∧ Fst fk fd cs F ∧ (∀ n ∈ cs, ∀ m ∈ cs, FirstV L n m (F n m)) ∧ Cost F cs d3 d4) (ok_Exchange T) hr (by decide) (eap_cons (ep_ofN (P := fun s => ∃ o : OrdD K L, s = .val (dOrd K o)) (en_make (dd := []) (A2 := fun oc => ∃ (dx : Addr) (o : OrdD K L), oc = .ins (He.ga K "Orders") dx kOrd [.val (.tup (o.zs.map Sd.D.str)), .val (.dK o.oks o.ods), .val (.dT o.ks o.ds), .val o.nn]) (ok_Orders T) hr (by decide) (ea_cons (ed_var 0) ea_nil) (fun _ => RpSL.nil) fun ss e p dx => ⟨_, ⟨p, dx, L, rfl, by rw [e]; rfl, hz.low, fun o => ⟨rfl, _, rfl, dx, o, rfl⟩⟩, fun s ow' h => h⟩) fun oc ⟨dx, o, e⟩ => by
      subst e
      exact ⟨_, .ins _ dx kOrd [.tup (o.zs.map Sd.D.str), .dK o.oks o.ods, .dT o.ks o.ds, o.nn], o, rfl⟩) (ea_cons (ed_var 2) ea_nil) fun s ss ⟨o, e⟩ e2 => ⟨o, by rw [e, e2]⟩) (fun _ => RpSL.nil) fun ss ⟨o, e⟩ p dx => ⟨_, ⟨p, dx, L, o, cs, rfl, by rw [e]; rfl, hz.nd, h4, hz.sub, fun fk fd F d3 d4 h1 h2 h3 => ⟨rfl, _, rfl, dx, fk, fd, F, d3, d4, rfl, h1, h2, h3⟩⟩, fun s ow' h => h⟩) fun oc ⟨dx, fk, fd, F, d3, d4, e, h1, h2, h3⟩ => by
      subst e
      exact ⟨_, .ins _ dx kEx [dSs cs, .dT fk fd, d3, d4], fk, fd, F, d3, d4, rfl, h1, h2, h3⟩) fun s h => ⟨[], List.nil_sublist _, hp _ h⟩
/-- what most_at_once tells -/
def rMost (z : Ln × List Str) (s : SV) : Prop := ∃ F, Lagd z.1 z.2 F ∧ (((∃ n ∈ z.2, F n n = none) ∧ s = nv) ∨ ∃ ms c, (∀ n ∈ z.2, F n n ≠ none) ∧ Least F z.2 ms c ∧ s = iv (c : Nat))
/-- what overlapping tells -/
def rOver (z : Ln × List Str) (s : SV) : Prop := ∃ F, Lagd z.1 z.2 F ∧ (((∃ n ∈ z.2, F n n = none) ∧ s = nv) ∨ ∃ (ms : List Str) (c : Nat) (g : Str → Nat) (T : List (Str × Nat)), (∀ n ∈ z.2, F n n ≠ none) ∧ Least F z.2 ms c ∧ Floors F z.2 ms g ∧ T.Perm (apart g F z.2 ms) ∧ T.length ≤ 80000 ∧ s = .val (.tup (T.map dTaskK)))
theorem lagd_of {L : Ln} {cs : List Str} {F : Str → Str → Option Nat} (h : ∀ n ∈ cs, ∀ m ∈ cs, FirstV L n m (F n m)) : Lagd L cs F :=
  ⟨fun n hn m hm l e => (first_reach (h n hn m hm)).1 l e, fun n hn m hm d r => (first_reach (h n hn m hm)).2 d r⟩
theorem ok_most_at_once (T : Txt K mg) : Cal P w K mg base 11 "most_at_once" (Pr K (FX (fun z : Ln × List Str => [.val (dLn K z.1), .val (dSs z.2)]) ExIn rMost)) [] := by
  obtain ⟨fd, F⟩ := T.f_most_at_once
  obtain ⟨ds, hd, b⟩ := F.binds1 (ps := p_most_at_once) 2 1 (List.cons_ne_nil _ _) rfl (fun U kV doc pm an cdv ct us its h1 h2 => match us, its, h1, h2 with | [_, _], [_], _, _ => ⟨_, rfl, rfl⟩)
  refine ⟨_, fd, p_most_at_once, ds, fn_pr F sc_most_at_once (by rintro ow ss post ⟨_, L, rfl, _⟩; rfl) fun cdv A outer sh H E C D ow ss post hr hR hM Fn Fx => ?_, T.glo _, F.kp, b, hd⟩
  obtain ⟨rfl, ⟨L, cs⟩, rfl, hz, hp⟩ := hR
  refine sdp_ret Fn (P := rMost (L, cs)) (ep_fldP (Po := rEx K (L, cs)) (ep_callX (ok_exchange_of T) hr (by decide) (ea_cons (ed_var 0) (ea_cons (ed_var 1) ea_nil)) fun ss e => ⟨(L, cs), e, hz, fun s h => h⟩) ?_ (T.cls _) (T.noat "Exchange" "cost")) fun s h => ⟨[], List.nil_sublist _, hp _ h⟩
  rintro _ ⟨fk, fd2, F2, d3, d4, rfl, h1, h2, h3⟩
  refine ⟨_, _, .val d3, .val _ _ _, rfl, F2, lagd_of h2, ?_⟩
  rcases h3 with ⟨h3, rfl, _⟩ | ⟨ms, c, h5, h3, rfl, _⟩
  · exact .inl ⟨h3, rfl⟩
  · exact .inr ⟨ms, c, h5, h3, rfl⟩
theorem ok_overlapping (T : Txt K mg) : Cal P w K mg base 11 "overlapping" (Pr K (FX (fun z : Ln × List Str => [.val (dLn K z.1), .val (dSs z.2)]) ExIn rOver)) [] := by
  obtain ⟨fd, F⟩ := T.f_overlapping
  obtain ⟨ds, hd, b⟩ := F.binds1 (ps := p_overlapping) 2 1 (List.cons_ne_nil _ _) rfl (fun U kV doc pm an cdv ct us its h1 h2 => match us, its, h1, h2 with | [_, _], [_], _, _ => ⟨_, rfl, rfl⟩)
  refine ⟨_, fd, p_overlapping, ds, fn_pr F sc_overlapping (by rintro ow ss post ⟨_, L, rfl, _⟩; rfl) fun cdv A outer sh H E C D ow ss post hr hR hM Fn Fx => ?_, T.glo _, F.kp, b, hd⟩
  obtain ⟨rfl, ⟨L, cs⟩, rfl, hz, hp⟩ := hR
  have nd := sc_overlapping.nd
  refine sdp_set 2 (P := rEx K (L, cs)) (ep_callX (ok_exchange_of T) hr (by decide) (ea_cons (ed_var 0) (ea_cons (ed_var 1) ea_nil)) fun ss e => ⟨(L, cs), e, hz, fun s h => h⟩) (fun s hs => ?_) nd
  obtain ⟨fk, fd2, F2, d3, d4, rfl, h1, h2, h3⟩ := hs
  have cost : ∀ {P : SV → Prop}, P (.val d3) → True := fun _ => trivial
  refine sdp_ret Fn (P := rOver (L, cs)) (ep_if (k := isNon d3) ((et_cmp (ep_fld (s := .val d3) (ed_var 2) (.val _ _ _) (T.cls _) (T.noat "Exchange" "cost") rfl) ed_non cd_isN)) (fun hk => ed_non.p ⟨F2, lagd_of h2, ?_⟩) fun hk => ?_) fun s h => ⟨[], List.nil_sublist _, hp _ h⟩
  · rcases h3 with ⟨h3, rfl, _⟩ | ⟨ms, c, h5, h3, rfl, _⟩
    · exact .inl ⟨h3, rfl⟩
    · cases hk
  · rcases h3 with ⟨h3, rfl, _⟩ | ⟨ms, c, h5, h3, rfl, rfl⟩
    · cases hk
    · exact ep_methX0 (ok_tasks_apart T) hr (by decide) (ed_var 2) (.val _ _ _) (by decide) ⟨⟨cs, fk, fd2, F2, ms, c⟩, rfl, ⟨hz.nd, hz.n4, h1, h3, fun n hn m hm l e => first_small (h2 n hn m hm) e⟩, fun s ⟨g, T, hg, hT, hl, e⟩ => ⟨F2, lagd_of h2, .inr ⟨ms, c, g, T, h5, h3, hg, hT, hl, e⟩⟩⟩
end
end Tx

/-! text Sd23 -/
set_option Elab.async false
set_option linter.all false
set_option maxRecDepth 100000
set_option maxHeartbeats 2000000
/-! Sd23: what the law's own defs want: powers, int(), divmod; an object told anew; a test by what is told. -/
namespace Sd
open PySem PySem.Spec PyProof.Rows L2
section
variable {C : FC} {X : Cx} {ow ow' : Ow} {en : En} {a b c e : Expr} {es : List Expr} {pos p0 : Pos} {P Pa Pb : SV → Prop} {D : Ends} {rest sa sb : List Stmt}
theorem ed_pow {i j : Int} (ha : EvD C X ow en a (iv i)) (hb : EvD C X ow en b (iv j)) (hc : CPow i j) : EvD C X ow en (.BinOp a .Pow b pos) (iv (i ^ j.toNat)) :=
  ep_op op_pow ha hb fun _ _ e1 e2 => e1 ▸ e2 ▸ rd_I hc (fun _ => rs_int.mpr rfl) rfl
theorem cl_int {i : Int} : ClD C X ow en (.type "int") [iv i] (· = iv i) := ⟨_, call_int1, fun B σ H vs S rs Q q => by
  obtain ⟨v, e, r1⟩ := sl1 rs
  rw [rs_int.mp r1] at e
  exact .inl ⟨i, e, q _ _ B H rfl (Nxt.refl S) (rs_int.mpr rfl)⟩⟩
theorem cl_divmod {i j : Int} (h0 : 0 < j) (h : j.natAbs.log2 < 9000) : ClD C X ow en (.builtin "divmod") [iv i, iv j] (· = .val (.tup [.int (i / j), .int (i % j)])) := ⟨_, call_divmodW, fun B σ H vs S rs Q q => by
  obtain ⟨v, vs1, e, r1, rs1⟩ := rs
  obtain ⟨v2, e2, r2⟩ := sl1 rs1
  rw [rs_int.mp r1, e2, rs_int.mp r2] at e
  refine ⟨i, j, e, ⟨h0, PyProof.noPylong_of_log2 h⟩, fun p hp => ?_⟩
  have g := S.share (o := .tup [.int (i / j), .int (i % j)]) hp
  refine q _ _ _ _ rfl (Nxt.grow S g) ?_
  simp only [RpS, Rp]
  exact ⟨p, _, rfl, SqT.of upd_same, RpL.cons (by simp only [Rp]) (RpL.cons (by simp only [Rp]) RpL.nil)⟩⟩
theorem sd_ifP {A : Bool → Prop} (hc : EvTP C X ow en c A) (h : ∀ k, A k → (k = true → SD C X ow en sa { D with nx := fun σ H => WS X rest D σ H }) ∧ (k = false → SD C X ow en sb { D with nx := fun σ H => WS X rest D σ H })) : SD C X ow en (.If c sa sb pos :: rest) D :=
  sd_seq (ps_if pt_wt pss_ws pss_ws) fun B σ H S => hc.run B σ H S _ fun d B' H' p n => by
    obtain ⟨ha, hb⟩ := h d p
    cases d with
    | true =>
      rw [if_pos rfl]
      exact (ha rfl).run B' σ H' n.sta
    | false =>
      rw [if_neg Bool.false_ne_true]
      exact (hb rfl).run B' σ H' n.sta
/-- an object of one's own, told in other words -/
theorem Sta.recast {K : Fg} {B H : Hp} {σ : L2.St} {p : Addr} {o1 o2 : OC} (S : Sta C K B ow en σ H) (h : Put p o1 o2 ow ow') (ok : OCok K B H p o1 → OCok K B H p o2) : Sta C K B ow' en σ H := by
  obtain ⟨_, _, b3⟩ := S.own _ h.mem
  obtain ⟨u, hu⟩ := OCok.there b3
  have e : upd H p u = H := by
    funext x
    by_cases hx : x = p
    · subst hx; rw [upd_same]; exact hu.symm
    · rw [upd_ne hx]
  have := S.write (o := u) h (by rw [e]; exact ok b3)
  rwa [e] at this
/-- a pool: a list of three ints, the second not below 0 -/
def poolF (o : HO) : Prop := ∃ a b c : Int, 0 ≤ b ∧ o = .lst [.int a, .int b, .int c]
abbrev poolC : OC := .abs poolF
abbrev poolL (a b c : Int) : OC := .lst [iv a, iv b, iv c]
theorem sd_poolO {p : Addr} {st : List Stmt} (hm : (p, poolC) ∈ ow) (k : ∀ a b c : Int, 0 ≤ b → ∃ ow', Put p poolC (poolL a b c) ow ow' ∧ SD C X ow' en st D) : SD C X ow en st D := ⟨fun B σ H S => by
  obtain ⟨_, _, o, ho, i, j, l, h0, rfl⟩ := S.own _ hm
  obtain ⟨ow', hput, hk⟩ := k i j l h0
  refine hk.run B σ H (S.recast hput fun _ => ⟨_, ho, ?_⟩)
  exact RpSL.cons (rs_int.mpr rfl) (RpSL.cons (rs_int.mpr rfl) (RpSL.cons (rs_int.mpr rfl) RpSL.nil))⟩
theorem pool_shut {K : Fg} {B H : Hp} {p : Addr} {i j l : Int} (h0 : 0 ≤ j) : OCok K B H p (poolL i j l) → OCok K B H p poolC := by
  rintro ⟨xs, hx, v1, vs1, e1, r1, v2, vs2, e2, r2, v3, vs3, e3, r3, r4⟩
  subst e1 e2 e3
  rw [rs_int.mp r1, rs_int.mp r2, rs_int.mp r3, show vs3 = [] from r4] at hx
  exact ⟨_, hx, i, j, l, h0, rfl⟩
theorem sd_poolS {p : Addr} {i j l : Int} {st : List Stmt} (h0 : 0 ≤ j) (hput : Put p (poolL i j l) poolC ow ow') (k : SD C X ow' en st D) : SD C X ow en st D :=
  ⟨fun B σ H S => k.run B σ H (S.recast hput (pool_shut h0))⟩
/-- a draw: a number below many -/
abbrev rDraw : Rel := fun ow ss post => ∃ (p : Addr) (n : Int), ow = [(p, poolC)] ∧ ss = [.ptr p, iv n] ∧ 1 ≤ n ∧ n.natAbs.log2 < 9000 ∧ ∀ r : Nat, (r : Int) < n → post (iv (r : Nat)) [(p, poolC)]
/-- what a call of a def gives that takes a pool -/
theorem ep_pool {k j : Nat} {x : Str} {R : Rel} {p : Addr} {A : List SV → Prop} (cal : C8.Cal X.prog X.w X.K X.mg X.base k x (Pr X.K R) []) (hr : Room j X.A) (hk : k ≤ j) (ha : EvA C X ow en (e :: es) A) (hm : (p, poolC) ∈ ow)
    (h : ∀ ss, A ss → R [(p, poolC)] ss (fun s ow' => ow' = [(p, poolC)] ∧ P s)) (hg : Gl X x := by rfl)
    (hdb : (x == ("__debug__" : Str)) = false := by decide) (he : starEach (e :: es) X.env = (false, eval e X.env) :: starEach es X.env := by rfl) (hpl : (backTo pos (starEach es X.env)).any (·.1) = false := by rfl) :
    EvP C X ow en (.Call (.Name x p0) (e :: es) [] pos) P :=
  ep_call (dd := []) cal hr hk ha (fun _ => RpSL.nil) (fun ss q => ⟨[(p, poolC)], _, List.singleton_sublist.mpr hm, by rw [List.append_nil]; exact h ss q, fun s ow' h => h⟩) hg hdb he hpl
end
end Sd

/-! text W24 -/
set_option Elab.async false
set_option linter.all false
set_option maxRecDepth 100000
set_option maxHeartbeats 2000000
/-! W24: the law's cell, pool, draw, span. -/
namespace Sd
open PySem PySem.Spec PyProof.Rows L2
theorem EvN.pool {C : FC} {X : Cx} {ow : Ow} {en : En} {e : Expr} {i j l : Int} (h : EvN C X ow en e (· = poolL i j l)) (h0 : 0 ≤ j) : EvN C X ow en e (· = poolC) :=
  ⟨fun B σ H S Q q => h.run B σ H S Q fun p oc B' H' pa n => q p poolC B' H' rfl ⟨n.exB, n.fr, n.nw, n.new, Sta.recast (pa ▸ n.sta) .here (pool_shut h0)⟩⟩
theorem EvP.shut {C : FC} {X : Cx} {ow ow' : Ow} {en : En} {e : Expr} {P : SV → Prop} {Q' : SV → Ow → Prop} {p : Addr} {i j l : Int} (h : EvP C X ow en e P) (h0 : 0 ≤ j) (hput : Put p (poolL i j l) poolC ow ow') (k : ∀ s, P s → Q' s ow') : EvM C X ow en e Q' :=
  ⟨fun B σ H S Q q => h.run B σ H S Q fun v s B' H' ps n r => q v s ow' B' H' (k s ps) (Sta.recast n.sta hput (pool_shut h0)) r⟩
end Sd
namespace Tx
open PySem PySem.Spec PyProof.Rows L2 Sd C8
section
variable {P : Program} {w : World} {K : Fg} {mg : Str → Option Value} {base : Heap}
abbrev dIs (ns : List Int) : Sd.D := .lst (ns.map Sd.D.int)
theorem cell_low : ∀ k : Nat, k < 63 → -(2 ^ 63) < 104729 * ((k : Int) + 3) * ((k : Int) + 3) + 611953 ∧ 104729 * ((k : Int) + 3) * ((k : Int) + 3) + 611953 < 2 ^ 63 := by decide +kernel
theorem ok_law_cell (T : Txt K mg) : Cal P w K mg base 1 "_law_cell" (Pr K (FX (fun z : List Int × Nat => [.val (dIs z.1), iv (z.2 : Nat)]) (fun z => z.1.length ≤ 63 ∧ z.2 ≤ 62) (fun _ s => ∃ i, s = iv i))) [] := by
  obtain ⟨fd, F⟩ := T.f_law_cell
  refine cal_of F sc_law_cell (T.glo _) (bd_law_cell F) (by rintro ow ss post ⟨_, L, rfl, _⟩; rfl) fun cdv A outer sh H E C D ow ss post hr hR hM Fn Fx => ?_
  obtain ⟨rfl, ⟨ns, k⟩, rfl, ⟨hl, hk⟩, hp⟩ := hR
  have nd := sc_law_cell.nd
  simp only at hl hk
  refine sd_if (k := decide ((k : Int) < (ns.length : Nat))) ((et_cmp (ed_var 1) (EvD.is (s' := iv (ns.length : Nat)) (ep_callB (ea_cons (ed_var 0) ea_nil) (fun ss e => e ▸ cl_len (.lst (ns.map Sd.D.int))) (T.free _) bb_len) (by simp)) cd_lt)) (fun hlt => ?_) fun _ => sd_back rfl ?_
  · have hlt := of_decide_eq_true hlt
    have hlt : k < ns.length := by omega
    exact sdp_ret ⟨Fn.rt⟩ (P := fun s => ∃ i, s = iv i) (EvD.p (ed_ixL (s := iv ns[k]) (ed_var 0) (ed_var 1) (.lst (ns.map Sd.D.int)) (atI_nat (j := k) (by rw [List.getElem?_map, List.getElem?_map, List.getElem?_eq_getElem hlt]; rfl))) ⟨_, rfl⟩) fun s h => ⟨[], List.nil_sublist _, hp _ h⟩
  · refine sd_set 2 (s := iv (104729 * ((k : Int) + 3) * ((k : Int) + 3) + 611953)) (ed_add (ed_mul (ed_mul ed_int (ed_add (ed_var 1) ed_int) (.inl (by decide))) (ed_add (ed_var 1) ed_int) (.inr (by omega))) ed_int) ?_ nd
    refine sd_for (fun i ow en => ∃ (m : Int) (x3 : SV), ow = [] ∧ en = [.val (dIs ns), iv (k : Nat), iv m, x3] ∧ -(2 ^ 63) < m ∧ m < 2 ^ 63) PassesOwn.never rfl
      (ei_lst (ds := cutS (ns.map Sd.D.int) none (some 4)) (ed_ofN ((en_slL (ed_var 0) eo_none (eo_some ed_int) (.lst (ns.map Sd.D.int))).is fun oc e => by rw [e, cutS_map]))) ⟨_, .un, rfl, rfl, cell_low k (by omega)⟩ (fun _ _ _ _ q hq => by cases hq) ?_ ?_
    · rintro C' le i s ow en hi ⟨m, x3, rfl, rfl, h1, h2⟩ ⟨d, hd, rfl⟩
      rw [cutS_map] at hd
      obtain ⟨a, ha, rfl⟩ := getE_map hd
      refine ⟨_, _, tg_name 3 nd, sd_set 2 (s := iv ((m * 69061 + a) % 2147483423)) (ed_mod (ep_callTy (ea_cons (ed_add (ed_mul (ed_var 2) ed_int (.inr (by decide))) (ed_var 3)) ea_nil) (fun ss e => by subst e; exact cl_int) (T.free _) bt_int) ed_int (by decide)) (sd_stop rfl ⟨_, _, rfl, rfl, ?_, ?_⟩) nd⟩
      · have := Int.emod_nonneg (m * 69061 + a) (b := 2147483423) (by decide); omega
      · have := Int.emod_lt_of_pos (m * 69061 + a) (b := 2147483423) (by decide); omega
    · rintro ow en ⟨m, x3, rfl, rfl, _⟩
      exact sdp_ret Fn (P := fun s => ∃ i, s = iv i) (EvD.p (ed_var 2) ⟨_, rfl⟩) fun s h => ⟨[], List.nil_sublist _, hp _ h⟩
/-- a pool, new -/
theorem ok_law_pool (T : Txt K mg) : Cal P w K mg base 1 "_law_pool" (Pr K (fun ow ss post => ow = [] ∧ ∃ i : Int, ss = [iv i] ∧ ∀ p, post (.ptr p) [(p, poolC)])) [] := by
  obtain ⟨fd, F⟩ := T.f_law_pool
  refine cal_of F sc_law_pool (T.glo _) (bd_law_pool F) (by rintro ow ss post ⟨_, i, rfl, _⟩; rfl) fun cdv A outer sh H E C D ow ss post hr hR hM Fn Fx => ?_
  obtain ⟨rfl, i, rfl, hp⟩ := hR
  have nd := sc_law_pool.nd
  refine sdp_set 1 (P := fun s => ∃ g : Int, s = iv g ∧ 0 ≤ g) (ep_if (k := decide (i < 0) || decide ((10 : Int) ^ (18 : Int).toNat ≤ i)) (et_or2 (et_cmp (ed_var 0) ed_int cd_lt) fun _ => et_cmp (ed_var 0) (ed_pow ed_int ed_int ⟨by decide, by decide, by decide⟩) cd_ge) (fun h => EvD.p (ep_callB (ea_cons (ed_var 0) ea_nil) (fun ss e => e ▸ cl_abs) (T.free _) bb_abs) ⟨_, rfl, by split <;> omega⟩) fun h => EvD.p ed_int ⟨_, rfl, by decide⟩) (fun s hs => ?_) nd
  obtain ⟨g, rfl, hg⟩ := hs
  refine sd_retM Fn (EvN.em (A := (· = poolC)) (EvN.pool (i := i % 2147483423) (j := g) (l := 0) (en_lst (ea_cons (ed_mod (ep_callTy (ea_cons (ed_var 0) ea_nil) (fun ss e => by subst e; exact cl_int) (T.free _) bt_int) ed_int (by decide)) (ea_cons (ed_var 1) (ea_cons ed_int ea_nil)))) hg) fun p oc e => ?_)
  subst e
  exact ⟨_, List.Sublist.refl _, hp p⟩
theorem ok_law_draw (T : Txt K mg) : Cal P w K mg base 1 "_law_draw" (Pr K rDraw) [] := by
  obtain ⟨fd, F⟩ := T.f_law_draw
  refine cal_of F sc_law_draw (T.glo _) (bd_law_draw F) (by rintro ow ss post ⟨p, n, _, rfl, _⟩; rfl) fun cdv A outer sh H E C D ow ss post hr hR hM Fn Fx => ?_
  obtain ⟨p, n, rfl, rfl, hn, hn9, hp⟩ := hR
  have nd := sc_law_draw.nd
  refine sd_poolO List.mem_cons_self fun a b c h0 => ⟨_, .here, ?_⟩
  have mm : ∀ a b c : Int, (p, poolL a b c) ∈ [(p, poolL a b c)] := fun a b c => List.mem_singleton.mpr rfl
  refine sd_asg (EvP.em (P := (· = iv (c + 1))) (ed_add (ed_ixL (s := iv c) (ed_var 0) ed_int (.own p _ (mm a b c)) (atI_nat (j := 2) rfl)) ed_int) ?_)
  rintro _ rfl
  refine tgm_lsub (i := 2) (n := 2) (ow' := [(p, poolL a b (c + 1))]) (ed_var 0) ed_int rfl .here ?_
  refine sd_set 2 (s := iv (a % 2147483423)) (ed_mod (ep_callTy (ea_cons (ed_ixL (s := iv a) (ed_var 0) ed_int (.own p _ (mm a b (c + 1))) (atI_nat (j := 0) rfl)) ea_nil) (fun ss e => by subst e; exact cl_int) (T.free _) bt_int) ed_int (by decide)) ?_ nd
  have ha1 := Int.emod_nonneg a (b := 2147483423) (by decide)
  have ha2 := Int.emod_lt_of_pos a (b := 2147483423) (by decide)
  generalize a % 2147483423 = st at ha1 ha2 ⊢
  refine sd_set 3 (s := iv (st / 7 % 35461 + 24571)) (ed_add (ed_mod (ep_callTy (ea_cons (ed_fdiv (ed_var 2) ed_int (by decide)) ea_nil) (fun ss e => by subst e; exact cl_int) (T.free _) bt_int) ed_int (by decide)) ed_int) ?_ nd
  generalize st / 7 % 35461 + 24571 = sp
  refine sd_asg (EvP.em (P := (· = iv ((st * sp + 15485863 * (c + 1) + 11) % 2147483423))) (ed_mod (ep_callTy (ea_cons (ed_add (ed_add (ed_mul (ed_var 2) (ed_var 3) (.inl (by omega))) (ed_mul ed_int (ed_ixL (s := iv (c + 1)) (ed_var 0) ed_int (.own p _ (mm a b (c + 1))) (atI_nat (j := 2) rfl)) (.inl (by decide)))) ed_int) ea_nil) (fun ss e => by subst e; exact cl_int) (T.free _) bt_int) ed_int (by decide)) ?_)
  rintro _ rfl
  generalize (st * sp + 15485863 * (c + 1) + 11) % 2147483423 = a2
  refine tgm_lsub (i := 0) (n := 0) (ow' := [(p, poolL a2 b (c + 1))]) (ed_var 0) ed_int rfl .here ?_
  have fin : ∀ r : Int, 0 ≤ r → r < n → post (iv r) [(p, poolC)] := fun r h1 h2 => by
    have := hp r.toNat (by omega)
    have e : ((r.toNat : Nat) : Int) = r := by omega
    rwa [e] at this
  refine sd_if (k := decide (0 < b)) (et_cmp (ed_ixL (s := iv b) (ed_var 0) ed_int (.own p _ (mm a2 b (c + 1))) (atI_nat (j := 1) rfl)) ed_int cd_gt) (fun _ => ?_) fun _ => sd_back rfl ?_
  · refine sd_asg (EvP.em (P := (· = .val (.tup [.int (b / n), .int (b % n)]))) (ep_callB (ea_cons (ed_ixL (s := iv b) (ed_var 0) ed_int (.own p _ (mm a2 b (c + 1))) (atI_nat (j := 1) rfl)) (ea_cons (ed_var 1) ea_nil)) (fun ss e => by subst e; exact cl_divmod (by omega) hn9) (T.free _) bb_divmod) ?_)
    rintro _ rfl
    refine tgm_tup (.tup [.int (b / n), .int (b % n)]) (tgsm_cons (tgm_lsub (i := 1) (n := 1) (ow' := [(p, poolL a2 (b / n) (c + 1))]) (ed_var 0) ed_int rfl .here (tgsm_cons (tgm_name 4 (tgsm_nil ?_) nd)))) rfl
    refine sd_poolS (Int.ediv_nonneg h0 (by omega)) .here ?_
    exact sdp_ret ⟨Fn.rt⟩ (P := (· = iv (b % n))) (ed_var 4) fun s e => ⟨[(p, poolC)], List.Sublist.refl _, by rw [e]; exact fin _ (Int.emod_nonneg _ (by omega)) (Int.emod_lt_of_pos _ (by omega))⟩
  · refine sd_retM Fn (EvP.shut (P := (· = iv (a2 / 128 % n))) (ed_mod (ep_callTy (ea_cons (ed_fdiv (ed_ixL (s := iv a2) (ed_var 0) ed_int (.own p _ (mm a2 b (c + 1))) (atI_nat (j := 0) rfl)) ed_int (by decide)) ea_nil) (fun ss e => by subst e; exact cl_int) (T.free _) bt_int) (ed_var 1) (by omega)) h0 .here fun s e => ⟨[(p, poolC)], List.Sublist.refl _, ?_⟩)
    rw [e]
    exact fin _ (Int.emod_nonneg _ (by omega)) (Int.emod_lt_of_pos _ (by omega))
/-- one draw -/
theorem ep_draw {C : FC} {X : Cx} {ow : Ow} {en : En} {a b : Expr} {pos p0 : Pos} {k : Nat} {p : Addr} {n : Int} (cal : C8.Cal X.prog X.w X.K X.mg X.base 1 "_law_draw" (Pr X.K rDraw) []) (hr : Room k X.A) (hk : 1 ≤ k) (ha : EvD C X ow en a (.ptr p)) (hb : EvD C X ow en b (iv n)) (hm : (p, poolC) ∈ ow) (hn : 1 ≤ n) (h9 : n.natAbs.log2 < 9000)
    (hg : Gl X "_law_draw" := by rfl) (he : starEach [a, b] X.env = (false, eval a X.env) :: starEach [b] X.env := by rfl) (he2 : starEach [b] X.env = (false, eval b X.env) :: starEach [] X.env := by rfl) (hpl : (backTo pos (starEach [b] X.env)).any (·.1) = false := by rfl) :
    EvP C X ow en (.Call (.Name "_law_draw" p0) [a, b] [] pos) (fun s => ∃ r : Nat, s = iv (r : Nat) ∧ (r : Int) < n) :=
  ep_pool cal hr hk (ea_cons ha (ea_cons hb ea_nil he2) he) hm (fun ss e => ⟨p, n, rfl, e, hn, h9, fun r h => ⟨rfl, r, rfl, h⟩⟩) hg (by decide) he hpl
theorem ok_law_span (T : Txt K mg) : Cal P w K mg base 2 "_law_span" (Pr K (fun ow ss post => ∃ p : Addr, ow = [(p, poolC)] ∧ ss = [.ptr p] ∧ ∀ r : Nat, post (iv (r : Nat)) [(p, poolC)])) [] := by
  obtain ⟨fd, F⟩ := T.f_law_span
  refine cal_of F sc_law_span (T.glo _) (bd_law_span F) (by rintro ow ss post ⟨p, _, rfl, _⟩; rfl) fun cdv A outer sh H E C D ow ss post hr hR hM Fn Fx => ?_
  obtain ⟨p, rfl, rfl, hp⟩ := hR
  have nd := sc_law_span.nd
  have mm : (p, poolC) ∈ [(p, poolC)] := List.mem_singleton.mpr rfl
  refine sdp_set 1 (ep_draw (ok_law_draw T) hr (by decide) (ed_var 0) ed_int mm (by decide) (by decide)) (fun s hs => ?_) nd
  obtain ⟨r, rfl, hr6⟩ := hs
  refine sd_if (k := decide ((r : Int) < 2)) (et_cmp (ed_var 1) ed_int cd_lt) (fun _ => ?_) fun hk => sd_back rfl ?_
  · exact sdp_ret ⟨Fn.rt⟩ (P := (· = iv (r : Nat))) (ed_var 1) fun s e => ⟨[(p, poolC)], List.Sublist.refl _, by rw [e]; exact hp r⟩
  · have hk := of_decide_eq_false hk
    obtain ⟨q, hq, hq4⟩ : ∃ q : Nat, r = q + 2 ∧ q < 4 := ⟨r - 2, by omega, by omega⟩
    have e2 : (r : Int) - 2 = (q : Nat) := by omega
    obtain ⟨m, hm, hm1, hm9⟩ : ∃ m : Int, ([2, 10, 1000, (10 : Int) ^ (40 : Int).toNat] : List Int)[q]? = some m ∧ 1 ≤ m ∧ m.natAbs.log2 < 9000 := by
      match q, hq4 with
      | 0, _ => exact ⟨_, rfl, by decide, by decide⟩
      | 1, _ => exact ⟨_, rfl, by decide, by decide⟩
      | 2, _ => exact ⟨_, rfl, by decide, by decide⟩
      | 3, _ => exact ⟨_, rfl, by decide, by decide⟩
    refine sdp_ret Fn (ep_draw (ok_law_draw T) hr (by decide) (ed_var 0) (ed_ixL (t := .val (.lst (([2, 10, 1000, (10 : Int) ^ (40 : Int).toNat] : List Int).map Sd.D.int))) (ed_ofN (en_lst (ea_cons ed_int (ea_cons ed_int (ea_cons ed_int (ea_cons (ed_pow ed_int ed_int ⟨by decide, by decide, by decide⟩) ea_nil)))))) (EvD.is (ed_sub (ed_var 1) ed_int) (by rw [e2])) (.lst _) (atI_nat (j := q) (by rw [List.getElem?_map, List.getElem?_map, hm]; rfl))) mm hm1 hm9) fun s ⟨r, e, _⟩ => ⟨[(p, poolC)], List.Sublist.refl _, by rw [e]; exact hp r⟩
end
end Tx

/-! text W25 -/
set_option Elab.async false
set_option linter.all false
set_option maxRecDepth 100000
set_option maxHeartbeats 2000000
/-! W25: the law's tag, wire. -/
namespace Sd
open PySem PySem.Spec PyProof.Rows L2
section
variable {C : FC} {X : Cx} {ow : Ow} {en : En} {e tg : Expr} {pos p0 : Pos}
theorem ei_range1X {A : Int → Prop} (ha : EvP C X ow en e (fun s => ∃ j, s = iv j ∧ A j)) (hj : ∀ j, A j → -(2 ^ 62) ≤ j ∧ j < 2 ^ 62) (hm : X.mg "range" = none) (hg : Gl X "range" := by rfl) (hs : starEach [e] X.env = [(false, eval e X.env)] := by rfl) :
    EvIX C X ow en tg (.Call (.Name "range" p0) [e] [] pos) [] (fun n item => ∃ j, A j ∧ n = j.toNat ∧ item = fun i s => s = iv (0 + (i : Nat))) :=
  ⟨fun B σ H S R q => ⟨_, pi_range1 hg hm pa_wa hs, (eap_cons (A' := fun ss => ∃ j, ss = [iv j] ∧ A j) ha ea_nil (fun s ss ⟨j, e1, h⟩ e2 => ⟨j, by rw [e1, e2], h⟩) hs).run B σ H S _ fun vs ss B' H' ⟨j, e0, hA⟩ n r => by
    subst e0
    obtain ⟨y, ys, e1, r1, r2⟩ := r
    rw [rs_int.mp r1, show ys = [] from r2] at e1
    exact ⟨j, e1, (hj j hA).1, (hj j hA).2, q _ [] _ _ B' H' ⟨j, hA, rfl, rfl⟩ n (fun z hz => by cases hz) walk_rng⟩⟩⟩
theorem ep_addS {a b : Expr} {z : Str} {A : Str → Prop} (ha : EvD C X ow en a (sv z)) (hb : EvP C X ow en b (fun s => ∃ w, s = sv w ∧ A w)) (hl : ∀ w, A w → z.length + w.length ≤ sizeLine) : EvP C X ow en (.BinOp a .Add b pos) (fun s => ∃ w, s = sv (z ++ w) ∧ A w) :=
  ep_op op_add_str ha hb fun _ _ e1 ⟨w, e2, pw⟩ => e1 ▸ e2 ▸ fun B σ H v u S r1 r2 Q q => ⟨z, w, rs_str.mp r1, rs_str.mp r2, hl w pw, q _ _ B H ⟨w, rfl, pw⟩ (Nxt.refl S) (rs_str.mpr rfl)⟩
end
end Sd
namespace Tx
open PySem PySem.Spec PyProof.Rows L2 Sd C8
def alph : Str := "abcdefghijklmnopqrstuvwxyz0123456789"
theorem alph_at : ∀ r : Nat, r < 36 → ∃ c, alph.cps.toList[r]? = some c ∧ c ∈ ("abcdefghijklmnopqrstuvwxyz" ++ "0123456789" : Str).cps.toList ∧ (r < 26 → c ∈ letters) := by
  intro r hr
  have h : ∀ r : Nat, r < 36 → (match alph.cps.toList[r]? with | some c => decide (c ∈ ("abcdefghijklmnopqrstuvwxyz" ++ "0123456789" : Str).cps.toList) && (!decide (r < 26) || decide (c ∈ letters)) | none => false) = true := by decide +kernel
  have h := h r hr
  cases e : alph.cps.toList[r]? with
  | none => rw [e] at h; cases h
  | some c =>
    rw [e] at h
    simp only [Bool.and_eq_true, decide_eq_true_eq, Bool.or_eq_true, Bool.not_eq_true', decide_eq_false_iff_not] at h
    exact ⟨c, rfl, h.1, fun h26 => h.2.resolve_left fun z => z h26⟩
/-- a name of at most n signs -/
structure Pre (n : Nat) (z : Str) : Prop where
  len : 1 ≤ z.length ∧ z.length ≤ n
  first : ∃ c, z.cps.toList[0]? = some c ∧ c ∈ letters
  all : ∀ c ∈ z.cps.toList, c ∈ ("abcdefghijklmnopqrstuvwxyz" ++ "0123456789" : Str).cps.toList
theorem Pre.mono {n m : Nat} {z : Str} (h : Pre n z) (hm : n ≤ m) : Pre m z := ⟨⟨h.len.1, Nat.le_trans h.len.2 hm⟩, h.first, h.all⟩
theorem app_len (a b : Str) : (a ++ b).length = a.length + b.length := by
  show (a.cps ++ b.cps).size = _
  rw [Array.size_append]
  rfl
theorem app_list (a b : Str) : (a ++ b).cps.toList = a.cps.toList ++ b.cps.toList := by
  show (a.cps ++ b.cps).toList = _
  rw [Array.toList_append]
theorem Pre.snoc {n : Nat} {z : Str} {c : Nat} (h : Pre n z) (hc : c ∈ ("abcdefghijklmnopqrstuvwxyz" ++ "0123456789" : Str).cps.toList) : Pre (n + 1) (z ++ ⟨#[c]⟩) := by
  refine ⟨?_, ?_, ?_⟩
  · rw [app_len]
    have := h.len
    have e : (⟨#[c]⟩ : Str).length = 1 := rfl
    omega
  · obtain ⟨d, h1, h2⟩ := h.first
    refine ⟨d, ?_, h2⟩
    rw [app_list, List.getElem?_append_left (List.getElem?_eq_some_iff.mp h1).1]
    exact h1
  · intro d hd
    rw [app_list] at hd
    rcases List.mem_append.mp hd with hd | hd
    · exact h.all d hd
    · rw [List.mem_singleton.mp hd]; exact hc
/-- z with k signs x behind it -/
def xs : Str → Nat → Str
  | z, 0 => z
  | z, k + 1 => xs z k ++ ⟨#[120]⟩
theorem xs_len (z : Str) : ∀ k, (xs z k).length = z.length + k
  | 0 => rfl
  | k + 1 => by
    rw [xs, app_len, xs_len z k]
    have e : (⟨#[120]⟩ : Str).length = 1 := rfl
    omega
theorem xs_out {zs : List Str} {z : Str} (h : ∀ j, j < zs.length → xs z j ∈ zs) : xs z zs.length ∉ zs := fun hm => by
  have hn : ((List.range (zs.length + 1)).map (xs z)).Nodup := by
    refine List.Pairwise.map _ (fun a b (hab : a ≠ b) e => hab ?_) List.nodup_range
    have := congrArg Str.length e
    rw [xs_len, xs_len] at this
    omega
  have := nodup_lenS (cs := zs) hn fun x hx => by
    obtain ⟨j, hj, rfl⟩ := List.mem_map.mp hx
    have hj := List.mem_range.mp hj
    by_cases e : j = zs.length
    · rw [e]; exact hm
    · exact h j (by omega)
  rw [List.length_map, List.length_range] at this
  omega
section
variable {P : Program} {w : World} {K : Fg} {mg : Str → Option Value} {base : Heap}
theorem ok_law_tag (T : Txt K mg) : Cal P w K mg base 2 "_law_tag" (Pr K (fun ow ss post => ∃ (pt pp : Addr) (zs : List Str), ow = [(pt, .lst (zs.map sv)), (pp, poolC)] ∧ ss = [.ptr pp, .ptr pt] ∧ zs.length ≤ 3 ∧ ∀ z, NameOk z → z ∉ zs → post (sv z) [(pt, .lst (zs.map sv)), (pp, poolC)])) [] := by
  obtain ⟨fd, F⟩ := T.f_law_tag
  refine cal_of F sc_law_tag (T.glo _) (bd_law_tag F) (by rintro ow ss post ⟨_, _, _, _, rfl, _⟩; rfl) fun cdv A outer sh H E C D ow ss post hr hR hM Fn Fx => ?_
  obtain ⟨pt, pp, zs, rfl, rfl, hz3, hp⟩ := hR
  have nd := sc_law_tag.nd
  have mp : (pp, poolC) ∈ [(pt, OC.lst (zs.map sv)), (pp, poolC)] := List.mem_cons_of_mem _ List.mem_cons_self
  have mt : (pt, OC.lst (zs.map sv)) ∈ [(pt, OC.lst (zs.map sv)), (pp, poolC)] := List.mem_cons_self
  have hal : alph.length ≤ sizeLine := by rw [sizeLine_eq]; decide +kernel
  refine sd_set 2 (s := sv alph) ed_str ?_ nd
  refine sdp_set 3 (P := fun s => ∃ z, s = sv z ∧ Pre 1 z) (ep_ixS (ed_var 2) (ep_draw (ok_law_draw T) hr (by decide) (ed_var 0) ed_int mp (by decide) (by decide)) hal fun y ⟨r, e, h⟩ => ?_) (fun s hs => ?_) nd
  · have h : r < 26 := by omega
    obtain ⟨c, h1, h2, h3⟩ := alph_at r (by omega)
    exact ⟨_, c, e, atI_nat h1, _, rfl, ⟨by show 1 ≤ 1 ∧ 1 ≤ 1; omega, ⟨c, rfl, h3 h⟩, fun d hd => by rw [List.mem_singleton.mp hd]; exact h2⟩⟩
  obtain ⟨z0, rfl, hz0⟩ := hs
  refine sd_forX PassesOwn.never rfl (ei_range1X (A := fun j => 0 ≤ j ∧ j ≤ 2) ((ep_mod (A := fun i => 0 ≤ i) (A' := (· = 3)) (B := fun j => 0 ≤ j ∧ j ≤ 2) (ep_callTy (A := fun ss => ∃ r : Nat, ss = [iv (r : Nat)]) (eap_cons (ep_draw (ok_law_draw T) hr (by decide) (ed_var 0) ed_int mp (by decide) (by decide)) ea_nil fun s ss ⟨r, e, _⟩ e2 => ⟨r, by rw [e, e2]⟩) (fun ss ⟨r, e⟩ => by
      subst e
      exact ⟨cl_int.ex.imp fun r' h => ⟨h.1, fun B σ H vs S rs Q q => h.2 B σ H vs S rs Q fun z s B' H' p n r' => q z s B' H' ⟨_, p, Int.natCast_nonneg r⟩ n r'⟩⟩) (T.free _) bt_int) (EvD.p ed_int ⟨3, rfl, rfl⟩) (fun i j _ e => by subst e; decide) fun i j h e => by subst e; omega).imp fun s ⟨i, e, h⟩ => ⟨i, e, h⟩) (fun j h => by omega) (T.free _)) ?_
  rintro n item ⟨j, hj, rfl, rfl⟩
  refine ⟨fun i ow en => ∃ (z : Str) (x4 : SV), ow = [(pt, .lst (zs.map sv)), (pp, poolC)] ∧ en = [.ptr pp, .ptr pt, sv alph, sv z, x4] ∧ Pre (1 + i) z, ⟨z0, .un, rfl, rfl, hz0⟩, fun _ _ _ _ q hq => (by cases hq), ?_, ?_⟩
  · rintro C' le i s ow en hi ⟨z, x4, rfl, rfl, hz⟩ rfl
    have hzl := hz.len
    refine ⟨_, _, tg_name 4 nd, ?_⟩
    refine sdp_set 3 (P := fun s => ∃ w, s = sv (z ++ w) ∧ ∃ c, w = ⟨#[c]⟩ ∧ c ∈ ("abcdefghijklmnopqrstuvwxyz" ++ "0123456789" : Str).cps.toList) (ep_addS (ed_var 3) (ep_ixS (ed_var 2) (ep_draw (ok_law_draw T) hr (by decide) (ed_var 0) ed_int mp (by decide) (by decide)) hal fun y ⟨r, e, h⟩ => ?_) ?_) (fun s hs => ?_) nd
    · obtain ⟨c, h1, h2, _⟩ := alph_at r (by omega)
      exact ⟨_, c, e, atI_nat h1, _, rfl, c, rfl, h2⟩
    · rintro w ⟨c, rfl, _⟩
      have e : (⟨#[c]⟩ : Str).length = 1 := rfl
      rw [sizeLine_eq]
      omega
    · obtain ⟨w, rfl, c, rfl, hc⟩ := hs
      exact sd_stop rfl ⟨_, _, rfl, rfl, by rw [← Nat.add_assoc]; exact hz.snoc hc⟩
  · rintro ow en ⟨z, x4, rfl, rfl, hz⟩
    have hz := hz.mono (m := 3) (by omega)
    refine sd_for (fun i ow en => ∃ (z : Str) (x4 : SV), ow = [(pt, .lst (zs.map sv)), (pp, poolC)] ∧ en = [.ptr pp, .ptr pt, sv alph, sv z, x4] ∧ Pre (3 + i) z ∧ (z ∉ zs ∨ ∃ b, z = xs b i ∧ ∀ j, j < i → xs b j ∈ zs)) PassesOwn.never rfl
      (ei_range1 (j := ((zs.length : Nat) : Int)) (A := fun _ => True) (EvD.is (ep_callB (ea_cons (ed_var 1) ea_nil) (fun ss e => e ▸ cl_len (.own pt _ mt)) (T.free _) bb_len) (by rw [List.length_map])) (by omega) (T.free _)) ⟨z, x4, rfl, rfl, hz, .inr ⟨z, rfl, fun j hj => absurd hj (Nat.not_lt_zero _)⟩⟩ (fun _ _ _ _ q hq => by cases hq) ?_ ?_
    · rintro C' le i s ow en hi ⟨z, x4, rfl, rfl, hz, hb⟩ rfl
      have hzl := hz.len
      have hi : i < zs.length := by omega
      refine ⟨_, _, tg_name 4 nd, ?_⟩
      refine sd_if (k := decide (z ∈ zs)) (et_cmp (ed_var 3) (ed_var 1) (cd_inS (.own pt _ mt))) (fun hk => ?_) fun hk => ?_
      · have hk := of_decide_eq_true hk
        obtain ⟨b, e, hb⟩ := hb.resolve_left fun h => h hk
        refine sd_set 3 (s := sv (z ++ ⟨#[120]⟩)) (ed_addS (w := ⟨#[120]⟩) (ed_var 3) ed_str (by have e : (⟨#[120]⟩ : Str).length = 1 := rfl; rw [sizeLine_eq]; omega)) ?_ nd
        refine sd_back rfl (sd_stop rfl ⟨_, _, rfl, rfl, by rw [← Nat.add_assoc]; exact hz.snoc (by decide +kernel), .inr ⟨b, by rw [e]; rfl, fun j hj => ?_⟩⟩)
        by_cases hj2 : j < i
        · exact hb j hj2
        · have : j = i := by omega
          rw [this, ← e]
          exact hk
      · have hk := of_decide_eq_false hk
        exact sd_back rfl (sd_stop rfl ⟨_, _, rfl, rfl, hz.mono (by omega), .inl hk⟩)
    · rintro ow en ⟨z, x4, rfl, rfl, hz, hb⟩
      have hn : ((zs.length : Nat) : Int).toNat = zs.length := by omega
      rw [hn] at hz hb
      have hz8 := hz.mono (m := 8) (by omega)
      refine sdp_ret Fn (P := (· = sv z)) (ed_var 3) fun s e => ⟨_, List.Sublist.refl _, ?_⟩
      rw [e]
      refine hp z ⟨hz8.len, hz8.first, hz8.all⟩ ?_
      rcases hb with hb | ⟨b, e, hb⟩
      · exact hb
      · rw [e]; exact xs_out hb
end
end Tx

/-! text W26 -/
set_option Elab.async false
set_option linter.all false
set_option maxRecDepth 100000
set_option maxHeartbeats 2000000
/-! W26: the law's wire. -/
namespace Tx
open PySem PySem.Spec PyProof.Rows L2 Sd C8
/-- a wire between the tags zs: upward, or with stock -/
def WireOk (zs : List Str) (l : Lk4) : Prop := ∃ i j : Nat, zs[i]? = some l.src ∧ zs[j]? = some l.tgt ∧ 0 ≤ l.stock ∧ l.stock ≤ 3 ∧ (l.stock = 0 → i < j)
section
variable {P : Program} {w : World} {K : Fg} {mg : Str → Option Value} {base : Heap}
theorem ok_law_wire (T : Txt K mg) : Cal P w K mg base 2 "_law_wire" (Pr K (fun ow ss post => ∃ (pt pp : Addr) (zs : List Str), ow = [(pt, .lst (zs.map sv)), (pp, poolC)] ∧ ss = [.ptr pp, .ptr pt] ∧ 1 ≤ zs.length ∧ zs.length ≤ 4 ∧ ∀ l, WireOk zs l → post (.val l.sides) [(pt, .lst (zs.map sv)), (pp, poolC)])) [] := by
  obtain ⟨fd, F⟩ := T.f_law_wire
  refine cal_of F sc_law_wire (T.glo _) (bd_law_wire F) (by rintro ow ss post ⟨_, _, _, _, rfl, _⟩; rfl) fun cdv A outer sh H E C D ow ss post hr hR hM Fn Fx => ?_
  obtain ⟨pt, pp, zs, rfl, rfl, hz1, hz4, hp⟩ := hR
  have nd := sc_law_wire.nd
  have mp : (pp, poolC) ∈ [(pt, OC.lst (zs.map sv)), (pp, poolC)] := List.mem_cons_of_mem _ List.mem_cons_self
  have mt : (pt, OC.lst (zs.map sv)) ∈ [(pt, OC.lst (zs.map sv)), (pp, poolC)] := List.mem_cons_self
  have h9 : ((zs.length : Nat) : Int).natAbs.log2 < 9000 := by
    have h : ∀ n : Nat, n < 5 → ((n : Nat) : Int).natAbs.log2 < 9000 := by decide
    exact h _ (by omega)
  refine sd_par 2 3 (eaw_val (ep_draw (n := ((zs.length : Nat) : Int)) (ok_law_draw T) hr (by decide) (ed_var 0) (EvD.is (ep_callB (ea_cons (ed_var 1) ea_nil) (fun ss e => e ▸ cl_len (.own pt _ mt)) (T.free _) bb_len) (by rw [List.length_map])) mp (by omega) h9) fun s ⟨i, e, hi⟩ => e ▸ eaw_val (ep_draw (n := ((zs.length : Nat) : Int)) (ok_law_draw T) hr (by decide) (ed_var 0) (EvD.is (ep_callB (ea_cons (ed_var 1) ea_nil) (fun ss e => e ▸ cl_len (.own pt _ mt)) (T.free _) bb_len) (by rw [List.length_map])) mp (by omega) h9) fun s ⟨j, e, hj⟩ => e ▸ eaw_nil ⟨_, _, rfl, ?_⟩) rfl nd (by decide)
  refine sd_par 4 5 (eaw_val (ep_draw (ok_law_draw T) hr (by decide) (ed_var 0) ed_int mp (by decide) (by decide)) fun s ⟨w, e, hw⟩ => e ▸ eaw_val (Pa := fun s => ∃ b, s = bv b) ((ep_cmp (A := fun _ => True) (ep_draw (ok_law_draw T) hr (by decide) (ed_var 0) ed_int mp (by decide) (by decide)) ed_int fun x y ⟨r, e1, _⟩ e2 => ⟨_, trivial, by rw [e1, e2]; exact cd_eqI⟩).imp fun s ⟨k, e, _⟩ => ⟨k, e⟩) fun s ⟨b, e⟩ => e ▸ eaw_nil ⟨_, _, rfl, ?_⟩) rfl nd (by decide)
  have hi : i < zs.length := by omega
  have hj : j < zs.length := by omega
  have hw : w < 4 := by omega
  have gi : zs[i]? = some zs[i] := List.getElem?_eq_getElem hi
  have gj : zs[j]? = some zs[j] := List.getElem?_eq_getElem hj
  refine sdp_ret Fn (P := (· = .val (Lk4.sides ⟨zs[i], zs[j], if i < j then (w : Int) else (if (w : Int) > 1 then (w : Int) else 1), b⟩))) (ed_tup (ds := [.str zs[i], .str zs[j], .int (if i < j then (w : Int) else (if (w : Int) > 1 then (w : Int) else 1)), .bl b]) (ea_cons (s := sv zs[i]) (ed_ixL (ed_var 1) (ed_var 2) (.own pt _ mt) (atI_nat (by rw [List.getElem?_map, gi]; rfl))) (ea_cons (s := sv zs[j]) (ed_ixL (ed_var 1) (ed_var 3) (.own pt _ mt) (atI_nat (by rw [List.getElem?_map, gj]; rfl))) (ea_cons (s := iv (if i < j then (w : Int) else (if (w : Int) > 1 then (w : Int) else 1))) (ep_if (k := decide ((i : Int) < (j : Int))) (et_cmp (ed_var 2) (ed_var 3) cd_lt) (fun h => ?_) fun h => ?_) (ea_cons (ed_var 5) ea_nil))))) fun s e => ⟨_, List.Sublist.refl _, ?_⟩
  · have h := of_decide_eq_true h
    rw [if_pos (by omega)]
    exact ed_var 4
  · have h := of_decide_eq_false h
    rw [if_neg (by omega)]
    exact ep_callB (ea_cons ed_int (ea_cons (ed_var 4) ea_nil)) (fun ss e => e ▸ cl_max2 rfl) (T.free _) bb_max
  · rw [e]
    refine hp _ ⟨i, j, gi, gj, ?_, ?_, ?_⟩
    · simp only
      split
      · omega
      · split <;> omega
    · simp only
      split
      · omega
      · split <;> omega
    · simp only
      intro h0
      by_cases h : i < j
      · exact h
      · rw [if_neg h] at h0
        split at h0 <;> omega
end
end Tx

/-! text W27 -/
set_option Elab.async false
set_option linter.all false
set_option maxRecDepth 100000
set_option maxHeartbeats 2000000
/-! W27: the law's plan. -/
namespace Sd
open PySem PySem.Spec PyProof.Rows L2
section
variable {C : FC} {X : Cx} {ow : Ow} {en : En} {a b c : Expr} {pos : Pos} {rest : List Stmt} {D : Ends} {x y z : Str}
theorem sd_par3 {kt k2 pt2} {px py pz pt : Pos} (i j l : Nat) (he : EvAw C X ow en [a, b, c] (fun ow' ss => ∃ s t u, ss = [s, t, u] ∧ SD C X ow' (((en.set i s).set j t).set l u) rest D)) (hc : X.calm = true) (hN : X.N.Nodup) (hij : i ≠ j) (hil : i ≠ l) (hjl : j ≠ l) (hi : X.N[i]? = some x := by rfl) (hj : X.N[j]? = some y := by rfl) (hl : X.N[l]? = some z := by rfl)
    (hx : X.env.scope.names.lookup x = some .local := by rfl) (hy : X.env.scope.names.lookup y = some .local := by rfl) (hz : X.env.scope.names.lookup z = some .local := by rfl)
    (hw : swappedStores [.Tuple [.Name x px, .Name y py, .Name z pz] kt pt] (.Tuple [a, b, c] k2 pt2) X.env = pure (some [x, y, z]) := by rfl)
    (hs : swapsWithSole [.Tuple [.Name x px, .Name y py, .Name z pz] kt pt] (.Tuple [a, b, c] k2 pt2) pos.line X.env = pure false := by rfl) :
    SD C X ow en (.Assign [.Tuple [.Name x px, .Name y py, .Name z pz] kt pt] (.Tuple [a, b, c] k2 pt2) pos :: rest) D :=
  sd_seq (ps_par3 hc hN hi hj hl hij hil hjl hx hy hz pa_wa hw hs) fun B σ H S => he.run B σ H S _ fun vs ss ow' B' H' ⟨s, t, u, e1, q⟩ n rs => by
    subst e1
    obtain ⟨v, vs1, e2, r1, w, vs2, e3, r2, y, vs3, e4, r3, e5⟩ := rs
    subst e2 e3 e4
    have e5 : vs3 = [] := e5
    subst e5
    exact ⟨v, w, y, rfl, q.run B' _ H' (((n.sta.set i r1).set j r2).set l r3)⟩
/-- a and b, b by what is told -/
theorem etp_and2 {k : Bool} {A : Bool → Prop} (h : EvT C X ow en a k) (h2 : k = true → EvTP C X ow en b A) (h3 : k = false → A false) : EvTP C X ow en (.BoolOp .And [a, b] pos) A := et_w (ewp_and h (fun e => ewp_and1 (h2 e)) h3)
end
end Sd
namespace Tx
open PySem PySem.Spec PyProof.Rows L2 Sd C8
/-- a plan of the law: its tags, links, outlet -/
abbrev dPlan (L : Ln) : Sd.D := .tup [.tup (L.sts.map St3.sides), .tup (L.lks.map Lk4.sides), .str L.out]
structure RowOk (s : St3) : Prop where
  name : NameOk s.name
  hands : ∀ h, s.hands = some h → 1 ≤ h ∧ h ≤ 3
structure PlanOk (L : Ln) : Prop where
  n4 : 1 ≤ L.sts.length ∧ L.sts.length ≤ 4
  nd : L.names.Nodup
  rows : ∀ s ∈ L.sts, RowOk s
  n7 : L.lks.length ≤ 7
  wires : ∀ l ∈ L.lks, WireOk L.names l
  out : L.out ∈ L.names
abbrev owP (pw pr pt pp : Addr) (lks : List Lk4) (sts : List St3) (zs : List Str) : Ow := [(pw, .lst ((lks.map Lk4.sides).map SV.val)), (pr, .lst ((sts.map St3.sides).map SV.val)), (pt, .lst (zs.map sv)), (pp, poolC)]
theorem free_at : ∀ r : Nat, r < 5 → ∃ h : Option Int, ([.int 1, .int 2, .non, .int 1, .int 3] : List Sd.D)[r]? = some (oid h) ∧ ∀ x, h = some x → 1 ≤ x ∧ x ≤ 3
  | 0, _ => ⟨some 1, rfl, fun x e => by cases e; decide⟩
  | 1, _ => ⟨some 2, rfl, fun x e => by cases e; decide⟩
  | 2, _ => ⟨none, rfl, fun x e => by cases e⟩
  | 3, _ => ⟨some 1, rfl, fun x e => by cases e; decide⟩
  | 4, _ => ⟨some 3, rfl, fun x e => by cases e; decide⟩
  | n + 5, h => absurd h (by omega)
theorem wait_at : ∀ r : Nat, r < 4 → ∃ h : Int, ([.int 0, .int 0, .int 1, .int 2] : List Sd.D)[r]? = some (.int h) ∧ 0 ≤ h ∧ h ≤ 3
  | 0, _ => ⟨0, rfl, by decide⟩
  | 1, _ => ⟨0, rfl, by decide⟩
  | 2, _ => ⟨1, rfl, by decide⟩
  | 3, _ => ⟨2, rfl, by decide⟩
  | n + 4, h => absurd h (by omega)
section
variable {P : Program} {w : World} {K : Fg} {mg : Str → Option Value} {base : Heap}
theorem ok_law_plan (T : Txt K mg) : Cal P w K mg base 3 "_law_plan" (Pr K (fun ow ss post => ∃ pp : Addr, ow = [(pp, poolC)] ∧ ss = [.ptr pp, iv 4, iv 4] ∧ ∀ L, PlanOk L → post (.val (dPlan L)) [(pp, poolC)])) [] := by
  obtain ⟨fd, F⟩ := T.f_law_plan
  refine cal_of F sc_law_plan (T.glo _) (bd_law_plan F) (by rintro ow ss post ⟨_, _, rfl, _⟩; rfl) fun cdv A outer sh H E C D ow ss post hr hR hM Fn Fx => ?_
  obtain ⟨pp, rfl, rfl, hp⟩ := hR
  have nd := sc_law_plan.nd
  refine sd_par3 3 4 5 (eaw_new (A := (· = .lst [])) (en_lst ea_nil) ?_) rfl nd (by decide) (by decide) (by decide)
  rintro pt _ rfl
  refine eaw_new (A := (· = .lst [])) (en_lst ea_nil) ?_
  rintro pr _ rfl
  refine eaw_new (A := (· = .lst [])) (en_lst ea_nil) ?_
  rintro pw _ rfl
  refine eaw_nil ⟨_, _, _, rfl, ?_⟩
  have mp : ∀ lks sts zs, (pp, poolC) ∈ owP pw pr pt pp lks sts zs := fun _ _ _ => by simp
  have mt : ∀ lks sts zs, (pt, OC.lst (zs.map sv)) ∈ owP pw pr pt pp lks sts zs := fun _ _ _ => by simp
  refine sd_forX PassesOwn.never rfl (ei_range1X (A := fun j => 1 ≤ j ∧ j ≤ 4) ?_ (fun j h => by omega) (T.free _)) ?_
  · refine ep_add (A := (· = 1)) (A' := fun j => 0 ≤ j ∧ j < 4) (B := fun j => 1 ≤ j ∧ j ≤ 4) (EvD.p ed_int ⟨1, rfl, rfl⟩) ?_ fun i j e h => by omega
    exact EvP.imp (ep_draw (n := 4) (ok_law_draw T) hr (by decide) (ed_var 0) (ed_var 1) (mp [] [] []) (by decide) (by decide)) fun s ⟨r, e, h⟩ => ⟨_, e, Int.natCast_nonneg r, h⟩
  rintro n item ⟨j, hj, rfl, rfl⟩
  refine ⟨fun i ow en => ∃ (zs : List Str) (x6 : SV), ow = owP pw pr pt pp [] [] zs ∧ en = [.ptr pp, iv 4, iv 4, .ptr pt, .ptr pr, .ptr pw, x6, .un, .un, .un] ∧ zs.length = i ∧ zs.Nodup ∧ ∀ z ∈ zs, NameOk z, ⟨[], .un, rfl, rfl, rfl, .nil, fun z hz => (by cases hz)⟩, fun _ _ _ _ q hq => (by cases hq), ?_, ?_⟩
  · rintro C' le i s ow en hi ⟨zs, x6, rfl, rfl, hl, hn, hok⟩ rfl
    refine ⟨_, _, tg_name 6 nd, ?_⟩
    refine sd_exprM (em_append (ss := zs.map sv) (Pa := fun s => ∃ z, s = sv z ∧ NameOk z ∧ z ∉ zs) (ed_var 3) (ep_call (dd := []) (ok_law_tag T) hr (by decide) (ea_cons (ed_var 0) (ea_cons (ed_var 3) ea_nil)) (fun _ => RpSL.nil) fun ss e => ⟨[(pt, .lst (zs.map sv)), (pp, poolC)], fun s ow' => ow' = [(pt, .lst (zs.map sv)), (pp, poolC)] ∧ ∃ z, s = sv z ∧ NameOk z ∧ z ∉ zs, by simp, ⟨pt, pp, zs, rfl, by rw [e]; rfl, by omega, fun z h1 h2 => ⟨rfl, z, rfl, h1, h2⟩⟩, fun s ow' h => h⟩) (mt [] [] zs) (by rw [sizeLine_eq, List.length_map]; omega) ?_)
    rintro _ ⟨z, rfl, hz1, hz2⟩
    refine ⟨_, .there (.there .here), sd_stop rfl ⟨zs ++ [z], _, ?_, rfl, by simp [hl], ?_, ?_⟩⟩
    · simp [owP]
    · rw [List.nodup_append]
      exact ⟨hn, by simp, fun a ha b hb e => hz2 (by rw [List.mem_singleton] at hb; rw [← hb, ← e]; exact ha)⟩
    · intro x hx
      rcases List.mem_append.mp hx with hx | hx
      · exact hok x hx
      · rw [List.mem_singleton.mp hx]; exact hz1
  · rintro ow en ⟨zs, x6, rfl, rfl, hl, hn, hok⟩
    have hz1 : 1 ≤ zs.length := by omega
    have hz4 : zs.length ≤ 4 := by omega
    refine sd_for (fun k ow en => ∃ (sts : List St3) (lks : List Lk4) (x7 x8 : SV), ow = owP pw pr pt pp lks sts zs ∧ en = [.ptr pp, iv 4, iv 4, .ptr pt, .ptr pr, .ptr pw, x6, x7, x8, .un] ∧ sts.map (·.name) = zs.take k ∧ (∀ s ∈ sts, RowOk s) ∧ lks.length ≤ k - 1 ∧ ∀ l ∈ lks, WireOk zs l) PassesOwn.never rfl
      (ei_range1 (j := ((zs.length : Nat) : Int)) (A := fun _ => True) (EvD.is (ep_callB (ea_cons (ed_var 3) ea_nil) (fun ss e => e ▸ cl_len (.own pt _ (mt [] [] zs))) (T.free _) bb_len) (by rw [List.length_map])) (by omega) (T.free _)) ⟨[], [], .un, .un, rfl, rfl, rfl, fun s h => (by cases h), Nat.le_refl _, fun l h => (by cases h)⟩ (fun _ _ _ _ q hq => by cases hq) ?_ ?_
    · rintro C' le k s ow en hk ⟨sts, lks, x7, x8, rfl, rfl, hs1, hs2, hw1, hw2⟩ e
      rw [Int.zero_add] at e
      subst e
      have hk : k < zs.length := by omega
      have gk : zs[k]? = some zs[k] := List.getElem?_eq_getElem hk
      have hlen : sts.length = k := by
        have := congrArg List.length hs1
        rw [List.length_map, List.length_take] at this
        omega
      refine ⟨_, _, tg_name 7 nd, ?_⟩
      refine sdp_set 8 (P := fun s => ∃ h : Option Int, s = .val (oid h) ∧ ∀ x, h = some x → 1 ≤ x ∧ x ≤ 3) (ep_ixL (Pa := (· = .val (.lst [.int 1, .int 2, .non, .int 1, .int 3]))) (ed_ofN (ds := [.int 1, .int 2, .non, .int 1, .int 3]) (en_lst (ea_cons ed_int (ea_cons ed_int (ea_cons ed_non (ea_cons ed_int (ea_cons ed_int ea_nil))))))) (ep_draw (n := 5) (ok_law_draw T) hr (by decide) (ed_var 0) ed_int (mp _ _ _) (by decide) (by decide)) fun x y e1 ⟨r, e2, hr5⟩ => ?_) (fun s hs => ?_) nd
      · obtain ⟨h, h1, h2⟩ := free_at r (by omega)
        exact ⟨_, _, _, by rw [e1]; exact .lst [.int 1, .int 2, .non, .int 1, .int 3], e2, atI_nat (by rw [List.getElem?_map, h1]; rfl), h, rfl, h2⟩
      obtain ⟨h, rfl, hh⟩ := hs
      refine sd_exprM (em_append (ss := (sts.map St3.sides).map SV.val) (Pa := fun s => ∃ b, s = .val (St3.sides ⟨zs[k], h, b⟩)) (ed_var 4) ?_ (by simp) (by rw [sizeLine_eq, List.length_map, List.length_map]; omega) ?_)
      · refine etp_tup (A := fun ss => ∃ b, ss = [sv zs[k], .val (oid h), bv b]) ?_ fun ss ⟨b, e⟩ => ⟨[.str zs[k], oid h, .bl b], e, by rw [sizeLine_eq]; exact Nat.le_of_ble_eq_true rfl, b, rfl⟩
        refine eap_cons (Pa := (· = sv zs[k])) (A := fun ss => ∃ b, ss = [.val (oid h), bv b]) ?_ ?_ fun s ss e1 ⟨b, e2⟩ => ⟨b, by rw [e1, e2]⟩
        · exact ed_ixL (ed_var 3) (ed_var 7) (.own pt _ (mt _ _ _)) (atI_nat (by rw [List.getElem?_map, gk]; rfl))
        refine eap_cons (Pa := (· = .val (oid h))) (A := fun ss => ∃ b, ss = [bv b]) (ed_var 8) ?_ fun s ss e1 ⟨b, e2⟩ => ⟨b, by rw [e1, e2]⟩
        refine eap_cons (Pa := fun s => ∃ k, s = bv k ∧ True) (A := (· = [])) ?_ ea_nil fun s ss ⟨b, e1, _⟩ e2 => ⟨b, by rw [e1, e2]⟩
        exact ep_cmp (A := fun _ => True) (ep_draw (n := 6) (ok_law_draw T) hr (by decide) (ed_var 0) ed_int (mp _ _ _) (by decide) (by decide)) ed_int fun x y ⟨r, e1, _⟩ e2 => ⟨decide ((0 : Int) < (r : Nat)), trivial, by rw [e1, e2]; exact cd_gt⟩
      rintro _ ⟨b, rfl⟩
      refine ⟨owP pw pr pt pp lks (sts ++ [⟨zs[k], h, b⟩]) zs, by simp only [owP, List.map_append, List.map_cons, List.map_nil]; exact .there .here, ?_⟩
      have hs1' : (sts ++ [(⟨zs[k], h, b⟩ : St3)]).map (·.name) = zs.take (k + 1) := by
        rw [List.map_append, hs1, List.take_succ_eq_append_getElem hk]; rfl
      have hs2' : ∀ s ∈ sts ++ [(⟨zs[k], h, b⟩ : St3)], RowOk s := fun s hs => by
        rcases List.mem_append.mp hs with hs | hs
        · exact hs2 s hs
        · rw [List.mem_singleton.mp hs]; exact ⟨hok _ (List.getElem_mem hk), hh⟩
      refine sd_ifP (A := fun r => r = true → 0 < k) (etp_and2 (k := decide (0 < (k : Int))) (et_cmp (ed_var 7) ed_int cd_gt) (fun h0 => etp_cmp (A := fun r => r = true → 0 < k) (ep_draw (n := 4) (ok_law_draw T) hr (by decide) (ed_var 0) ed_int (mp _ _ _) (by decide) (by decide)) ed_int fun x y ⟨r, e1, _⟩ e2 => ⟨decide ((0 : Int) < (r : Nat)), fun _ => by have := of_decide_eq_true h0; omega, by rw [e1, e2]; exact cd_gt⟩) fun h0 z => nomatch z) fun r hr0 => ⟨fun hr1 => ?_, fun _ => ?_⟩
      · have hk0 := hr0 hr1
        have hk1 : k - 1 < zs.length := by omega
        have gk1 : zs[k - 1]? = some zs[k - 1] := List.getElem?_eq_getElem hk1
        have ek : (k : Int) - 1 = ((k - 1 : Nat) : Int) := by omega
        refine sd_exprM (em_append (ss := (lks.map Lk4.sides).map SV.val) (Pa := fun s => ∃ h : Int, s = .val (Lk4.sides ⟨zs[k - 1], zs[k], h, false⟩) ∧ 0 ≤ h ∧ h ≤ 3) (ed_var 5) ?_ (by simp) (by rw [sizeLine_eq, List.length_map, List.length_map]; omega) ?_)
        · refine etp_tup (A := fun ss => ∃ h : Int, ss = [sv zs[k - 1], sv zs[k], iv h, bv false] ∧ 0 ≤ h ∧ h ≤ 3) ?_ fun ss ⟨h, e, h1⟩ => ⟨[.str zs[k - 1], .str zs[k], .int h, .bl false], e, by rw [sizeLine_eq]; exact Nat.le_of_ble_eq_true rfl, h, rfl, h1⟩
          refine eap_cons (Pa := (· = sv zs[k - 1])) (A := fun ss => ∃ h : Int, ss = [sv zs[k], iv h, bv false] ∧ 0 ≤ h ∧ h ≤ 3) ?_ ?_ fun s ss e1 ⟨h, e2, h1⟩ => ⟨h, by rw [e1, e2], h1⟩
          · exact ed_ixL (ed_var 3) (EvD.is (ed_sub (ed_var 7) ed_int) (by rw [ek])) (.own pt _ (mt _ _ _)) (atI_nat (by rw [List.getElem?_map, gk1]; rfl))
          refine eap_cons (Pa := (· = sv zs[k])) (A := fun ss => ∃ h : Int, ss = [iv h, bv false] ∧ 0 ≤ h ∧ h ≤ 3) ?_ ?_ fun s ss e1 ⟨h, e2, h1⟩ => ⟨h, by rw [e1, e2], h1⟩
          · exact ed_ixL (ed_var 3) (ed_var 7) (.own pt _ (mt _ _ _)) (atI_nat (by rw [List.getElem?_map, gk]; rfl))
          refine eap_cons (Pa := fun s => ∃ h : Int, s = iv h ∧ 0 ≤ h ∧ h ≤ 3) (A := (· = [bv false])) ?_ (ea_cons ed_bl ea_nil) fun s ss ⟨h, e1, h1⟩ e2 => ⟨h, by rw [e1, e2], h1⟩
          refine ep_ixL (Pa := (· = .val (.lst [.int 0, .int 0, .int 1, .int 2]))) (ed_ofN (ds := [.int 0, .int 0, .int 1, .int 2]) (en_lst (ea_cons ed_int (ea_cons ed_int (ea_cons ed_int (ea_cons ed_int ea_nil)))))) (ep_draw (n := 4) (ok_law_draw T) hr (by decide) (ed_var 0) ed_int (mp _ _ _) (by decide) (by decide)) fun x y e1 ⟨r, e2, hr4⟩ => ?_
          obtain ⟨h, h1, h2⟩ := wait_at r (by omega)
          exact ⟨_, _, _, by rw [e1]; exact .lst [.int 0, .int 0, .int 1, .int 2], e2, atI_nat (by rw [List.getElem?_map, h1]; rfl), h, rfl, h2⟩
        · rintro _ ⟨h3, rfl, h4⟩
          refine ⟨owP pw pr pt pp (lks ++ [⟨zs[k - 1], zs[k], h3, false⟩]) (sts ++ [⟨zs[k], h, b⟩]) zs, by simp only [owP, List.map_append, List.map_cons, List.map_nil]; exact .here, ?_⟩
          refine sd_back rfl (sd_stop rfl ⟨_, _, _, _, rfl, rfl, hs1', hs2', by rw [List.length_append, List.length_singleton]; omega, fun l hl => ?_⟩)
          rcases List.mem_append.mp hl with hl | hl
          · exact hw2 l hl
          · rw [List.mem_singleton.mp hl]
            exact ⟨k - 1, k, gk1, gk, h4.1, h4.2, fun _ => by omega⟩
      · exact sd_back rfl (sd_stop rfl ⟨_, _, _, _, rfl, rfl, hs1', hs2', by omega, hw2⟩)
    · rintro ow en ⟨sts, lks, x7, x8, rfl, rfl, hs1, hs2, hw1, hw2⟩
      have en0 : ((zs.length : Nat) : Int).toNat = zs.length := by omega
      rw [en0] at hs1 hw1
      rw [List.take_length] at hs1
      have h9 : (2 * ((zs.length : Nat) : Int)).natAbs.log2 < 9000 := by
        have h : ∀ n : Nat, n < 5 → (2 * ((n : Nat) : Int)).natAbs.log2 < 9000 := by decide
        exact h _ (by omega)
      refine sd_forX PassesOwn.never rfl (ei_range1X (A := fun j => 0 ≤ j ∧ j ≤ 4) ?_ (fun j h => by omega) (T.free _)) ?_
      · exact EvP.imp (ep_draw (n := 5) (ok_law_draw T) hr (by decide) (ed_var 0) (EvD.is (ed_add (ed_var 2) ed_int) rfl) (mp _ _ _) (by decide) (by decide)) fun s ⟨r, e, h⟩ => ⟨_, e, Int.natCast_nonneg r, by omega⟩
      rintro n item ⟨j, hj, rfl, rfl⟩
      refine ⟨fun i ow en => ∃ (lks : List Lk4) (x6 : SV), ow = owP pw pr pt pp lks sts zs ∧ en = [.ptr pp, iv 4, iv 4, .ptr pt, .ptr pr, .ptr pw, x6, x7, x8, .un] ∧ lks.length ≤ 3 + i ∧ ∀ l ∈ lks, WireOk zs l, ⟨lks, x6, rfl, rfl, by omega, hw2⟩, fun _ _ _ _ q hq => (by cases hq), ?_, ?_⟩
      · rintro C' le i s ow en hi ⟨lks, x6, rfl, rfl, hw1, hw2⟩ rfl
        refine ⟨_, _, tg_name 6 nd, ?_⟩
        refine sd_exprM (em_append (ss := (lks.map Lk4.sides).map SV.val) (Pa := fun s => ∃ l : Lk4, s = .val l.sides ∧ WireOk zs l) (ed_var 5) (ep_call (dd := []) (ok_law_wire T) hr (by decide) (ea_cons (ed_var 0) (ea_cons (ed_var 3) ea_nil)) (fun _ => RpSL.nil) fun ss e => ⟨[(pt, .lst (zs.map sv)), (pp, poolC)], fun s ow' => ow' = [(pt, .lst (zs.map sv)), (pp, poolC)] ∧ ∃ l : Lk4, s = .val l.sides ∧ WireOk zs l, by simp, ⟨pt, pp, zs, rfl, by rw [e]; rfl, hz1, hz4, fun l h => ⟨rfl, l, rfl, h⟩⟩, fun s ow' h => h⟩) (by simp) (by rw [sizeLine_eq, List.length_map, List.length_map]; omega) ?_)
        rintro _ ⟨l, rfl, hl⟩
        refine ⟨owP pw pr pt pp (lks ++ [l]) sts zs, by simp only [owP, List.map_append, List.map_cons, List.map_nil]; exact .here, ?_⟩
        refine sd_stop rfl ⟨_, _, rfl, rfl, by rw [List.length_append, List.length_singleton]; omega, fun q hq => ?_⟩
        rcases List.mem_append.mp hq with hq | hq
        · exact hw2 q hq
        · rw [List.mem_singleton.mp hq]; exact hl
      · rintro ow en ⟨lks, x6, rfl, rfl, hw1, hw2⟩
        refine sdp_set 9 (ep_draw (n := 2 * ((zs.length : Nat) : Int)) (ok_law_draw T) hr (by decide) (ed_var 0) (ed_mul ed_int (EvD.is (ep_callB (ea_cons (ed_var 3) ea_nil) (fun ss e => e ▸ cl_len (.own pt _ (mt _ _ _))) (T.free _) bb_len) (by rw [List.length_map])) (.inl (by decide))) (mp _ _ _) (by omega) h9) (fun s hs => ?_) nd
        obtain ⟨r, rfl, hr2⟩ := hs
        obtain ⟨o, ho, eo⟩ : ∃ o : Nat, o < zs.length ∧ (if (zs.length : Int) - 1 < (r : Int) then (zs.length : Int) - 1 else (r : Int)) = (o : Nat) := by
          by_cases h : (zs.length : Int) - 1 < (r : Int)
          · exact ⟨zs.length - 1, by omega, by rw [if_pos h]; omega⟩
          · exact ⟨r, by omega, by rw [if_neg h]⟩
        have go : zs[o]? = some zs[o] := List.getElem?_eq_getElem ho
        have hlen : sts.length = zs.length := by
          have := congrArg List.length hs1
          rwa [List.length_map] at this
        refine sdp_ret Fn (P := (· = .val (dPlan ⟨sts, lks, zs[o]⟩))) ?_ fun s e => ⟨[(pp, poolC)], by simp, ?_⟩
        · refine ed_tup (ds := [.tup (sts.map St3.sides), .tup (lks.map Lk4.sides), .str zs[o]]) (ea_cons ?_ (ea_cons ?_ (ea_cons ?_ ea_nil)))
          · exact ep_callTy (ea_cons (ed_var 4) ea_nil) (fun ss e => by subst e; exact cl_tuple (.own pr _ (by simp))) (T.free _) bt_tuple
          · exact ep_callTy (ea_cons (ed_var 5) ea_nil) (fun ss e => by subst e; exact cl_tuple (.own pw _ (by simp))) (T.free _) bt_tuple
          · refine ed_ixL (ed_var 3) (i := (o : Nat)) (EvD.is (ep_callB (ea_cons (ed_var 9) (ea_cons (ed_sub (EvD.is (s' := iv (zs.length : Nat)) (ep_callB (ea_cons (ed_var 3) ea_nil) (fun ss e => e ▸ cl_len (.own pt _ (mt _ _ _))) (T.free _) bb_len) (by rw [List.length_map])) ed_int) ea_nil)) (fun ss e => e ▸ cl_min2 rfl) (T.free _) bb_min) (by rw [eo])) (.own pt _ (mt _ _ _)) (atI_nat (by rw [List.getElem?_map, go]; rfl))
        · rw [e]
          have hnm : (⟨sts, lks, zs[o]⟩ : Ln).names = zs := hs1
          exact hp _ ⟨⟨by show 1 ≤ sts.length; omega, by show sts.length ≤ 4; omega⟩, by rw [hnm]; exact hn, hs2, by show lks.length ≤ 7; omega, by rw [hnm]; exact hw2, by rw [hnm]; exact List.getElem_mem ho⟩
end
end Tx

/-! text W28 -/
set_option Elab.async false
set_option linter.all false
set_option maxRecDepth 100000
set_option maxHeartbeats 2000000
/-! W28: the law's line. -/
namespace Tx
open PySem PySem.Spec PyProof.Rows L2 Sd C8
def rotS (L : Ln) (r : Nat) : List St3 := L.sts.drop (r % L.sts.length) ++ L.sts.take (r % L.sts.length)
def rotL (L : Ln) (r : Nat) : Ln := ⟨rotS L r, L.lks, L.out⟩
theorem rotS_perm (L : Ln) (r : Nat) : (rotS L r).Perm L.sts := by
  unfold rotS
  refine List.perm_append_comm.trans ?_
  rw [List.take_append_drop]
theorem rot_names (L : Ln) (r : Nat) : (rotL L r).names.Perm L.names := (rotS_perm L r).map _
theorem wire_ends {zs : List Str} {l : Lk4} (h : WireOk zs l) : l.src ∈ zs ∧ l.tgt ∈ zs := by
  obtain ⟨i, j, h1, h2, _⟩ := h
  exact ⟨List.mem_of_getElem? h1, List.mem_of_getElem? h2⟩
theorem rot_ok {L : Ln} (h : PlanOk L) (r : Nat) : (rotL L r).Ok where
  nd := (rot_names L r).nodup_iff.mpr h.nd
  n1 := by
    have := (rotS_perm L r).length_eq
    have h1 := h.n4
    show 1 ≤ (rotS L r).length ∧ (rotS L r).length ≤ 6
    omega
  n2 := by have := h.n7; show L.lks.length ≤ 12; omega
  ends l hl := by
    obtain ⟨h1, h2⟩ := wire_ends (h.wires l hl)
    exact ⟨(rot_names L r).mem_iff.mpr h1, (rot_names L r).mem_iff.mpr h2⟩
  out := (rot_names L r).mem_iff.mpr h.out
section
variable {P : Program} {w : World} {K : Fg} {mg : Str → Option Value} {base : Heap}
theorem ok_law_line (T : Txt K mg) : Cal P w K mg base 6 "_law_line" (Pr K (FX (fun z : Ln × Nat => [.val (dPlan z.1), iv (z.2 : Nat)]) (fun z => PlanOk z.1) (fun z s => s = .val (dLn K (rotL z.1 z.2))))) [] := by
  obtain ⟨fd, F⟩ := T.f_law_line
  refine cal_of F sc_law_line (T.glo _) (bd_law_line F) (by rintro ow ss post ⟨_, L, rfl, _⟩; rfl) fun cdv A outer sh H E C D ow ss post hr hR hM Fn Fx => ?_
  obtain ⟨rfl, ⟨L, r⟩, rfl, hL, hp⟩ := hR
  have nd := sc_law_line.nd
  simp only at hL
  have h4 := hL.n4
  have ha : r % L.sts.length < L.sts.length := Nat.mod_lt _ (by omega)
  have ei : ((r : Nat) : Int) % ((L.sts.length : Nat) : Int) = ((r % L.sts.length : Nat) : Int) := (Int.natCast_emod _ _).symm
  refine sd_par 2 3 (eaw_val (Pa := (· = .val (.tup (L.sts.map St3.sides)))) (ed_ixT (ed_var 0) ed_int (.tup [.tup (L.sts.map St3.sides), .tup (L.lks.map Lk4.sides), .str L.out]) (atI_nat (j := 0) rfl)) ?_) rfl nd (by decide)
  rintro _ rfl
  refine eaw_val (Pa := (· = iv ((r % L.sts.length : Nat) : Int))) (EvD.is (ed_mod (j := ((L.sts.length : Nat) : Int)) (ep_callTy (ea_cons (ed_var 1) ea_nil) (fun ss e => by subst e; exact cl_int) (T.free _) bt_int) (EvD.is (ep_callB (ea_cons (ed_ixT (s := .val (.tup (L.sts.map St3.sides))) (ed_var 0) ed_int (.tup [.tup (L.sts.map St3.sides), .tup (L.lks.map Lk4.sides), .str L.out]) (atI_nat (j := 0) rfl)) ea_nil) (fun ss e => e ▸ cl_len (.tup (L.sts.map St3.sides))) (T.free _) bb_len) (by rw [List.length_map, List.length_map])) (by omega)) (by rw [ei])) ?_
  rintro _ rfl
  refine eaw_nil ⟨_, _, rfl, ?_⟩
  have hrot : cutS (L.sts.map St3.sides) (some ((r % L.sts.length : Nat) : Int)) none ++ cutS (L.sts.map St3.sides) none (some ((r % L.sts.length : Nat) : Int)) = (rotS L r).map St3.sides := by
    rw [cutS_from _ _ (by rw [List.length_map]; omega), cutS_to _ _ (by rw [List.length_map]; omega), ← List.map_drop, ← List.map_take, ← List.map_append]
    rfl
  have hrl := (rotS_perm L r).length_eq
  refine sd_setLcD 4 [("_law_tag_here", 6), ("_law_free", 7), ("_law_clock", 8)] (fun i ds => ds = ((rotS L r).take i).map (dSt K)) (ei_tup (ds := (rotS L r).map St3.sides) (EvD.is (ed_catT (ed_slT (ds := L.sts.map St3.sides) (ed_var 2) (eo_some (ed_var 3)) eo_none) (ed_slT (ds := L.sts.map St3.sides) (ed_var 2) eo_none (eo_some (ed_var 3))) ?_) (by rw [hrot]))) (by rw [sizeLine_eq, List.length_map]; omega) (fun q hq => by cases hq) rfl ?_ ?_ (by rw [hM]; simp) nd (blk (N := N_law_line) (sc := fnScope s_law_line) (by decide +kernel))
  · have h1 := cutS_len (L.sts.map St3.sides) (some ((r % L.sts.length : Nat) : Int)) none
    have h2 := cutS_len (L.sts.map St3.sides) none (some ((r % L.sts.length : Nat) : Int))
    rw [List.length_map] at h1 h2
    rw [sizeLine_eq]
    omega
  · rintro C' le i s ds hi ⟨d, hd, rfl⟩ rfl
    obtain ⟨x, hx, rfl⟩ := getE_map hd
    have hxo := hL.rows x ((rotS_perm L r).mem_iff.mp (List.mem_of_getElem? hx))
    refine ⟨[6, 7, 8], _, (· = true), by decide, fun _ _ _ _ _ => tg_tup rfl (tgs_cons (tg_name 6 nd) (tgs_cons (tg_name 7 nd) (tgs_cons (tg_name 8 nd) tgs_nil))), fun _ _ _ _ _ => ets_nil, fun h => (by cases h), fun _ => ⟨(· = .val (dSt K x)), fun _ _ _ _ _ => ?_, fun r e => ?_⟩⟩
    · refine ep_ofN (en_makeK (A2 := fun oc => ∃ dx, oc = .ins (He.ga K "Station") dx ["sides"] [.val x.sides]) (ok_Station T) hr (by decide) (ea_cons (ed_var 6) (ea_cons (ed_var 7) ea_nil)) (ek_cons (ed_var 8) ek_nil) rfl rfl fun p dx => ⟨_, ⟨p, dx, x, rfl, rfl, ⟨hxo.name, fun j hj => ?_⟩, ⟨rfl, _, rfl, dx, rfl⟩⟩, fun s ow' h => h⟩) fun oc ⟨dx, e⟩ => ⟨_, e ▸ .ins _ dx ["sides"] [x.sides], rfl⟩
      have := hxo.hands j hj
      omega
    · subst e
      exact ⟨((rotS L r).take (i + 1)).map (dSt K), by rw [take_succ_map hx]; simp, rfl⟩
  rintro ds rfl
  rw [List.length_map, List.take_length]
  refine sd_setLcD 5 [("_law_base", 9), ("_law_goal", 10), ("_law_wait", 11), ("_law_soon", 12)] (fun i ds => ds = (L.lks.take i).map (dLk K)) (ei_tup (ds := L.lks.map Lk4.sides) (ed_ixT (ed_var 0) ed_int (.tup [.tup (L.sts.map St3.sides), .tup (L.lks.map Lk4.sides), .str L.out]) (atI_nat (j := 1) rfl))) (by rw [sizeLine_eq, List.length_map]; have := hL.n7; omega) (fun q hq => by cases hq) rfl ?_ ?_ (by rw [hM]; simp) nd (blk (N := N_law_line) (sc := fnScope s_law_line) (by decide +kernel))
  · rintro C' le i s ds hi ⟨d, hd, rfl⟩ rfl
    obtain ⟨x, hx, rfl⟩ := getE_map hd
    have hxw := hL.wires x (List.mem_of_getElem? hx)
    obtain ⟨hs1, hs2⟩ := wire_ends hxw
    have nm : ∀ z ∈ L.names, NameOk z := fun z hz => by
      obtain ⟨s, hs, rfl⟩ := List.mem_map.mp hz
      exact (hL.rows s hs).name
    obtain ⟨_, _, _, _, h0, h3, _⟩ := hxw
    refine ⟨[9, 10, 11, 12], _, (· = true), by decide, fun _ _ _ _ _ => tg_tup rfl (tgs_cons (tg_name 9 nd) (tgs_cons (tg_name 10 nd) (tgs_cons (tg_name 11 nd) (tgs_cons (tg_name 12 nd) tgs_nil)))), fun _ _ _ _ _ => ets_nil, fun h => (by cases h), fun _ => ⟨(· = .val (dLk K x)), fun _ _ _ _ _ => ?_, fun r e => ?_⟩⟩
    · exact ep_ofN (en_makeK (A2 := fun oc => ∃ dx, oc = .ins (He.ga K "Link") dx ["sides"] [.val x.sides]) (ok_Link T) hr (by decide) (ea_cons (ed_var 9) (ea_cons (ed_var 10) (ea_cons (ed_var 11) ea_nil))) (ek_cons (ed_var 12) ek_nil) rfl rfl fun p dx => ⟨_, ⟨p, dx, x, rfl, rfl, ⟨nm _ hs1, nm _ hs2, h0, by omega⟩, ⟨rfl, _, rfl, dx, rfl⟩⟩, fun s ow' h => h⟩) fun oc ⟨dx, e⟩ => ⟨_, e ▸ .ins _ dx ["sides"] [x.sides], rfl⟩
    · subst e
      exact ⟨(L.lks.take (i + 1)).map (dLk K), by rw [take_succ_map hx]; simp, rfl⟩
  rintro ds rfl
  rw [List.length_map, List.take_length]
  refine sdp_ret Fn (P := (· = .val (dLn K (rotL L r)))) (ep_ofN (en_make (dd := []) (A := (· = [.val (dTs K (rotS L r)), .val (dTl K L.lks), sv L.out])) (A2 := fun oc => ∃ dx, oc = .ins (He.ga K "Line") dx ["sides"] [.val ((rotL L r).sides K)]) (ok_Line T) hr (by decide) ?_ (fun _ => RpSL.nil) fun ss e p dx => ⟨_, ⟨p, dx, rotL L r, rfl, by rw [e]; rfl, rot_ok hL r, ⟨rfl, _, rfl, dx, rfl⟩⟩, fun s ow' h => h⟩) fun oc ⟨dx, e⟩ => ⟨_, e ▸ .ins _ dx ["sides"] [(rotL L r).sides K], rfl⟩) fun s e => ⟨[], List.nil_sublist _, hp _ e⟩
  refine ea_cons ?_ (ea_cons ?_ (ea_cons ?_ ea_nil))
  · exact ep_callTy (ea_cons (ed_var 4) ea_nil) (fun ss e => by subst e; exact cl_tuple (.lst _)) (T.free _) bt_tuple
  · exact ep_callTy (ea_cons (ed_var 5) ea_nil) (fun ss e => by subst e; exact cl_tuple (.lst _)) (T.free _) bt_tuple
  · exact ed_ixT (ed_var 0) ed_int (.tup [.tup (L.sts.map St3.sides), .tup (L.lks.map Lk4.sides), .str L.out]) (atI_nat (j := 2) rfl)
end
end Tx

/-! text W29 -/
set_option Elab.async false
set_option linter.all false
set_option maxRecDepth 100000
set_option maxHeartbeats 2000000
/-! W29: the law's spans. -/
namespace Sd
theorem ssPut_map {κ α β : Type} [DecidableEq κ] (f : α → β) (ks : List κ) (l : List α) (k : κ) (x : α) : ssPut ks (l.map f) k (f x) = (ssPut ks l k x).map f := by
  unfold ssPut
  by_cases h : k ∈ ks
  · rw [if_pos h, if_pos h]
    clear h
    induction ks generalizing l with
    | nil => rfl
    | cons a ks ih =>
      cases l with
      | nil => rfl
      | cons b l =>
        simp only [List.map_cons, List.zip_cons_cons]
        rw [ih]
        congr 1
        by_cases e : a = k
        · simp [e]
        · simp [e]
  · rw [if_neg h, if_neg h, List.map_append]
    rfl
theorem valS_map {κ α β : Type} [DecidableEq κ] (f : α → β) : ∀ (ks : List κ) (l : List α) (k : κ), valS ks (l.map f) k = (valS ks l k).map f
  | [], _, _ => rfl
  | _ :: _, [], _ => rfl
  | a :: ks, b :: l, k => by
    rw [List.map_cons, valS_cons, valS_cons, valS_map f ks l k]
    by_cases e : a = k
    · rw [if_pos e, if_pos e]; rfl
    · rw [if_neg e, if_neg e]
end Sd
namespace Tx
open PySem PySem.Spec PyProof.Rows L2 Sd C8
/-- spans, by a dict -/
abbrev dSp (ks : List (List Key)) (ns : List Nat) : Sd.D := .dT ks (ns.map fun n => Sd.D.int ((n : Nat) : Int))
def spOf (ks : List (List Key)) (ns : List Nat) (x : Str) (k : Nat) : Nat := (valS ks ns (kT x k)).getD 0
section
variable {P : Program} {w : World} {K : Fg} {mg : Str → Option Value} {base : Heap}
theorem ok_law_spans (T : Txt K mg) : Cal P w K mg base 3 "_law_spans" (Pr K (fun ow ss post => ∃ (pp : Addr) (L : Ln), ow = [(pp, poolC)] ∧ ss = [.ptr pp, .val (dPlan L), iv 8] ∧ PlanOk L ∧ ∀ ks ns, ks.length = ns.length → post (.val (dSp ks ns)) [(pp, poolC)])) [] := by
  obtain ⟨fd, F⟩ := T.f_law_spans
  refine cal_of F sc_law_spans (T.glo _) (bd_law_spans F) (by rintro ow ss post ⟨_, _, _, rfl, _⟩; rfl) fun cdv A outer sh H E C D ow ss post hr hR hM Fn Fx => ?_
  obtain ⟨pp, L, rfl, rfl, hL, hp⟩ := hR
  have nd := sc_law_spans.nd
  have h4 := hL.n4
  refine sd_setN 3 (A := (· = .dT [] [])) en_dT ?_ nd
  rintro ps _ rfl
  refine sd_for (fun i ow en => ∃ (ks : List (List Key)) (ns : List Nat) (x4 x5 x6 x7 : SV), ow = [(ps, .dT ks (ns.map fun n => iv (n : Nat))), (pp, poolC)] ∧ en = [.ptr pp, .val (dPlan L), iv 8, .ptr ps, x4, x5, x6, x7] ∧ ks.length = ns.length ∧ ks.length ≤ i * 8) PassesOwn.never rfl
    (ei_tup (ds := L.sts.map St3.sides) (ed_ixT (ed_var 1) ed_int (.tup [.tup (L.sts.map St3.sides), .tup (L.lks.map Lk4.sides), .str L.out]) (atI_nat (j := 0) rfl))) ⟨[], [], .un, .un, .un, .un, rfl, rfl, rfl, Nat.le_refl _⟩ (fun _ _ _ _ q hq => by cases hq) ?_ ?_
  · rintro C' le i s ow en hi ⟨ks, ns, x4, x5, x6, x7, rfl, rfl, hl, hb⟩ ⟨d, hd, rfl⟩
    obtain ⟨x, hx, rfl⟩ := getE_map hd
    have hi : i < L.sts.length := by simpa using hi
    refine ⟨_, _, tg_tup rfl (tgs_cons (tg_name 4 nd) (tgs_cons (tg_name 5 nd) (tgs_cons (tg_name 6 nd) tgs_nil))), ?_⟩
    refine sd_for (fun j ow en => ∃ (ks : List (List Key)) (ns : List Nat) (x7 : SV), ow = [(ps, .dT ks (ns.map fun n => iv (n : Nat))), (pp, poolC)] ∧ en = [.ptr pp, .val (dPlan L), iv 8, .ptr ps, sv x.name, .val (oid x.hands), bv x.timed, x7] ∧ ks.length = ns.length ∧ ks.length ≤ i * 8 + j) PassesOwn.never rfl
      (ei_range2 (i := 1) (j := 8 + 1) ed_int (ed_add (ed_var 2) ed_int) (by decide) (T.free _)) ⟨ks, ns, x7, rfl, rfl, hl, hb⟩ (fun _ _ _ _ q hq => by cases hq) ?_ ?_
    · rintro C2 le2 j s ow en hj ⟨ks, ns, x7, rfl, rfl, hl, hb⟩ rfl
      have hj : j < 8 := hj
      have ej : (1 : Int) + (j : Nat) = ((1 + j : Nat) : Int) := by omega
      rw [ej]
      refine ⟨_, _, tg_name 7 nd, ?_⟩
      refine sd_if (k := x.timed) (et_val (ed_var 6)) (fun _ => ?_) fun _ => sd_back rfl (sd_stop rfl ⟨_, _, _, rfl, rfl, hl, by omega⟩)
      refine sd_asg (EvP.em (P := fun s => ∃ r : Nat, s = iv (r : Nat)) (ep_pool (ok_law_span T) hr (by decide) (ea_cons (ed_var 0) ea_nil) (by simp) fun ss e => ⟨pp, rfl, e, fun r => ⟨rfl, r, rfl⟩⟩) ?_)
      rintro _ ⟨r, rfl⟩
      have e1 := ssPut_map (fun n : Nat => iv (n : Nat)) ks ns (kT x.name (1 + j)) r
      have e2 := put_len (k := kT x.name (1 + j)) (s := r) hl
      have e3 := ksPut_len ks (kT x.name (1 + j))
      refine tgm_dT (ks := ks) (k := kT x.name (1 + j)) (ow' := [(ps, .dT (ksPut ks (kT x.name (1 + j))) ((ssPut ks ns (kT x.name (1 + j)) r).map fun n => iv (n : Nat))), (pp, poolC)]) (hu_of hr) (ed_var 3) (ed_keyT (ks := kT x.name (1 + j)) (ea_cons (ed_var 4) (ea_cons (ed_var 7) ea_nil))) (by rw [sizeLine_eq]; omega) (by rw [← e1]; exact .here) ?_
      exact sd_back rfl (sd_stop rfl ⟨_, _, _, rfl, rfl, e2, by omega⟩)
    · rintro ow en ⟨ks, ns, x7, rfl, rfl, hl, hb⟩
      have hb : ks.length ≤ i * 8 + 8 := hb
      exact sd_stop rfl ⟨_, _, _, _, _, _, rfl, rfl, hl, by omega⟩
  · rintro ow en ⟨ks, ns, x4, x5, x6, x7, rfl, rfl, hl, hb⟩
    have em : (ns.map fun n => iv (n : Nat)) = (ns.map fun n => Sd.D.int ((n : Nat) : Int)).map SV.val := by rw [List.map_map]; rfl
    rw [em]
    refine sd_freeze .here (.dT ks _) (by rw [hM]; simp) (ow2 := [(pp, poolC)]) .same (.cons (.inl rfl) (.cons (.inl rfl) (.cons (.inl rfl) (.cons (.inr ⟨rfl, rfl⟩) .same)))) ?_
    exact sdp_ret Fn (P := (· = .val (dSp ks ns))) (ed_var 3) fun s e => ⟨[(pp, poolC)], List.Sublist.refl _, by rw [e]; exact hp ks ns hl⟩
end
end Tx

/-! text M10 -/
set_option Elab.async false
set_option linter.all false
set_option maxRecDepth 100000
set_option maxHeartbeats 2000000
/-! M10: a play, task by task. -/
namespace Tx
open PySem Sd
/-- what a task waits for -/
def dueL (bg en : Str → Nat → Int) (k : Nat) (es : List Ent) : List Int := 0 :: (es.filter fun e => decide (e.lag < k)).map fun e => pv bg en e.pl e.src (k - e.lag)
theorem dueL_snoc {bg en : Str → Nat → Int} {k : Nat} {es : List Ent} {e : Ent} : dueL bg en k (es ++ [e]) = if e.lag < k then dueL bg en k es ++ [pv bg en e.pl e.src (k - e.lag)] else dueL bg en k es := by
  unfold dueL
  rw [List.filter_append]
  by_cases h : e.lag < k
  · rw [if_pos h]; simp [h]
  · rw [if_neg h]; simp [h]
def tspan (L : Ln) (sp : Str → Nat → Nat) (x : Str) (k : Nat) : Nat := if x ∈ L.timedN then sp x k else 0
structure PlAt (L : Ln) (sp : Str → Nat → Nat) (G : List (Str × Nat)) (bg en : Str → Nat → Int) (x : Str) (k : Nat) : Prop where
  nn : 0 ≤ bg x k
  ends : en x k = bg x k + (tspan L sp x k : Nat)
  wait : ∀ e ∈ L.entOf x, e.lag < k → (e.src, k - e.lag) ∈ G ∧ pv bg en e.pl e.src (k - e.lag) ≤ bg x k
  due : bg x k = 0 ∨ ∃ e ∈ L.entOf x, e.lag < k ∧ pv bg en e.pl e.src (k - e.lag) = bg x k
def Pl (L : Ln) (sp : Str → Nat → Nat) (G : List (Str × Nat)) (bg en : Str → Nat → Int) : Prop := ∀ x k, (x, k) ∈ G → PlAt L sp G bg en x k
def updT (f : Str → Nat → Int) (x : Str) (k : Nat) (v : Int) : Str → Nat → Int := fun y j => if y = x ∧ j = k then v else f y j
theorem updT_same {f : Str → Nat → Int} {x : Str} {k : Nat} {v : Int} : updT f x k v x k = v := if_pos ⟨rfl, rfl⟩
theorem updT_ne {f : Str → Nat → Int} {x : Str} {k : Nat} {v : Int} {G : List (Str × Nat)} (h : (x, k) ∉ G) {y : Str} {j : Nat} (hy : (y, j) ∈ G) : updT f x k v y j = f y j := if_neg fun ⟨e1, e2⟩ => h (by rw [← e1, ← e2]; exact hy)
theorem pv_upd {bg en : Str → Nat → Int} {x : Str} {k : Nat} {u v : Int} {G : List (Str × Nat)} (h : (x, k) ∉ G) {y : Str} {j : Nat} (hy : (y, j) ∈ G) {pl : Nat} : pv (updT bg x k u) (updT en x k v) pl y j = pv bg en pl y j := by
  unfold pv
  split
  · exact updT_ne h hy
  · exact updT_ne h hy
theorem Pl.add {L : Ln} {sp : Str → Nat → Nat} {G : List (Str × Nat)} {bg en : Str → Nat → Int} {x : Str} {k : Nat} {b : Int} (h : Pl L sp G bg en) (hn : (x, k) ∉ G) (hd : ∀ e ∈ L.entOf x, e.lag < k → (e.src, k - e.lag) ∈ G) (hb : b ∈ dueL bg en k (L.entOf x)) (hm : ∀ y ∈ dueL bg en k (L.entOf x), y ≤ b) :
    Pl L sp (G ++ [(x, k)]) (updT bg x k b) (updT en x k (b + (tspan L sp x k : Nat))) := by
  intro y j hy
  rw [List.mem_append, List.mem_singleton] at hy
  rcases hy with hy | hy
  · have q := h y j hy
    refine ⟨?_, ?_, fun e he hl => ⟨List.mem_append_left _ (q.wait e he hl).1, ?_⟩, ?_⟩
    · rw [updT_ne hn hy]; exact q.nn
    · rw [updT_ne hn hy, updT_ne hn hy]; exact q.ends
    · rw [pv_upd hn (q.wait e he hl).1, updT_ne hn hy]
      exact (q.wait e he hl).2
    · rw [updT_ne hn hy]
      rcases q.due with q1 | ⟨e, he, hl, q1⟩
      · exact .inl q1
      · exact .inr ⟨e, he, hl, by rw [pv_upd hn (q.wait e he hl).1]; exact q1⟩
  · cases hy
    refine ⟨?_, ?_, fun e he hl => ⟨List.mem_append_left _ (hd e he hl), ?_⟩, ?_⟩
    · rw [updT_same]; exact hm 0 List.mem_cons_self
    · rw [updT_same, updT_same]
    · rw [pv_upd hn (hd e he hl), updT_same]
      refine hm _ (List.mem_cons_of_mem _ (List.mem_map.mpr ⟨e, List.mem_filter.mpr ⟨he, decide_eq_true hl⟩, rfl⟩))
    · rw [updT_same]
      rcases List.mem_cons.mp hb with q | q
      · exact .inl q
      · obtain ⟨e, he, q⟩ := List.mem_map.mp q
        obtain ⟨he, hl⟩ := List.mem_filter.mp he
        have hl := of_decide_eq_true hl
        exact .inr ⟨e, he, hl, by rw [pv_upd hn (hd e he hl)]; exact q⟩
theorem Pl.play {L : Ln} {sp : Str → Nat → Nat} {K : Nat} {bg en : Str → Nat → Int} (h : Pl L sp (grid L.names K) bg en) : IsPlay L K bg en where
  nn x hx k h1 h2 := (h x k (grid_mem.mpr ⟨hx, h1, h2⟩)).nn
  span x hx k h1 h2 := by have := (h x k (grid_mem.mpr ⟨hx, h1, h2⟩)).ends; omega
  wait x hx k h1 h2 e he hl := ((h x k (grid_mem.mpr ⟨hx, h1, h2⟩)).wait e he hl).2
  due x hx k h1 h2 := (h x k (grid_mem.mpr ⟨hx, h1, h2⟩)).due
/-- the tasks so far -/
def gridU (xs : List Str) (k i : Nat) : List (Str × Nat) := grid xs k ++ (xs.take i).map fun x => (x, k + 1)
theorem gridU_zero (xs : List Str) (k : Nat) : gridU xs k 0 = grid xs k := by unfold gridU; simp
theorem gridU_full (xs : List Str) (k : Nat) : gridU xs k xs.length = grid xs (k + 1) := by
  unfold gridU grid
  rw [List.take_length, List.range_succ, List.flatMap_append]
  simp
theorem gridU_succ {xs : List Str} {k i : Nat} {x : Str} (h : xs[i]? = some x) : gridU xs k (i + 1) = gridU xs k i ++ [(x, k + 1)] := by
  unfold gridU
  rw [take_succ_map h, List.append_assoc]
theorem gridU_new {xs : List Str} {k i : Nat} {x : Str} (hn : xs.Nodup) (h : xs[i]? = some x) : (x, k + 1) ∉ gridU xs k i := fun hm => by
  unfold gridU at hm
  rcases List.mem_append.mp hm with hm | hm
  · have := (grid_mem.mp hm).2.2
    omega
  · obtain ⟨y, hy, e⟩ := List.mem_map.mp hm
    simp only [Prod.mk.injEq, and_true] at e
    subst e
    exact nodup_take hn h hy
/-- all that a task waits for comes ahead of it -/
theorem deps {L : Ln} (hL : PlanOk L) {k i : Nat} {s : St3} (hs : L.sts[i]? = some s) {e : Ent} (he : e ∈ L.entOf s.name) (hl : e.lag < k + 1) : (e.src, k + 1 - e.lag) ∈ gridU L.names k i := by
  have hsm := List.mem_of_getElem? hs
  have hx : L.names[i]? = some s.name := by rw [List.getElem?_map, hs]; rfl
  rw [entOf_at hL.nd hsm] at he
  have far : ∀ y ∈ L.names, ∀ j, 1 ≤ j → j ≤ k → (y, j) ∈ gridU L.names k i := fun y hy j h1 h2 => List.mem_append_left _ (grid_mem.mpr ⟨hy, h1, h2⟩)
  unfold entK at he
  rcases List.mem_append.mp he with he | he
  · unfold St3.ent at he
    split at he
    · cases he
    · rename_i h hh
      have he := List.mem_singleton.mp he
      subst he
      have h1 := ((hL.rows s hsm).hands h hh).1
      simp only at hl
      exact far _ (List.mem_map.mpr ⟨s, hsm, rfl⟩) _ (by simp only; omega) (by simp only; omega)
  · obtain ⟨l, hl2, rfl⟩ := List.mem_map.mp he
    obtain ⟨hlm, ht⟩ := List.mem_filter.mp hl2
    have ht := of_decide_eq_true ht
    obtain ⟨a, b, h1, h2, h3, _, h4⟩ := hL.wires l hlm
    have hsrc := List.mem_of_getElem? h1
    simp only [Lk4.ent] at hl ⊢
    by_cases h0 : l.stock = 0
    · have hlt := h4 h0
      have eb : b = i := by
        rw [ht] at h2
        exact (List.getElem?_inj (List.getElem?_eq_some_iff.mp h2).1 hL.nd).mp (h2.trans hx.symm)
      have e0 : l.stock.toNat = 0 := by omega
      rw [e0, Nat.sub_zero]
      refine List.mem_append_right _ (List.mem_map.mpr ⟨l.src, ?_, rfl⟩)
      refine List.mem_of_getElem? (i := a) ?_
      rw [List.getElem?_take, if_pos (by omega)]
      exact h1
    · exact far _ hsrc _ (by omega) (by omega)
theorem timed_at {L : Ln} (hn : L.names.Nodup) {s : St3} (hs : s ∈ L.sts) : s.name ∈ L.timedN ↔ s.timed = true := by
  constructor
  · intro h
    obtain ⟨t, ht, e⟩ := List.mem_map.mp h
    obtain ⟨ht1, ht2⟩ := List.mem_filter.mp ht
    have : t = s := by
      obtain ⟨i, hi⟩ := List.mem_iff_getElem?.mp ht1
      obtain ⟨j, hj⟩ := List.mem_iff_getElem?.mp hs
      have h1 : L.names[i]? = some t.name := by rw [List.getElem?_map, hi]; rfl
      have h2 : L.names[j]? = some s.name := by rw [List.getElem?_map, hj]; rfl
      rw [e] at h1
      have : i = j := (List.getElem?_inj (List.getElem?_eq_some_iff.mp h1).1 hn).mp (h1.trans h2.symm)
      subst this
      rw [hi] at hj
      exact Option.some.inj hj
    rw [← this]
    exact ht2
  · intro h
    exact List.mem_map.mpr ⟨s, List.mem_filter.mpr ⟨hs, h⟩, rfl⟩
/-! ### tasks as keys -/
theorem dTask_key {t u : Str × Nat} : dNK (dTask t) = dNK (dTask u) ↔ t = u := by
  constructor
  · intro h
    rw [dTask, dTask, dNK_tup, dNK_tup, NestedKey.tup.injEq] at h
    simp only [List.map_cons, List.map_nil, dNK, List.cons.injEq, NestedKey.text.injEq, NestedKey.num.injEq, and_true] at h
    obtain ⟨h1, h2⟩ := h
    cases t
    cases u
    simp only at h1 h2
    rw [h1]
    congr 1
    omega
  · rintro rfl; rfl
theorem gAt_task {G : List (Str × Nat)} {f : Str × Nat → Sd.D} {t : Str × Nat} (h : t ∈ G) : gAt (G.map dTask) (G.map f) (dTask t) = some (f t) := by
  induction G with
  | nil => cases h
  | cons u G ih =>
    rw [List.map_cons, List.map_cons, gAt]
    by_cases e : u = t
    · rw [if_pos (dTask_key.mpr e), e]
    · rw [if_neg fun z => e (dTask_key.mp z)]
      exact ih ((List.mem_cons.mp h).resolve_left fun z => e z.symm)
theorem gHas_task {G : List (Str × Nat)} {t : Str × Nat} (h : t ∉ G) : gHas (G.map dTask) (dTask t) = false := by
  unfold gHas
  rw [List.any_eq_false]
  intro d hd
  obtain ⟨u, hu, rfl⟩ := List.mem_map.mp hd
  rw [decide_eq_true_iff]
  intro z
  exact h (dTask_key.mp z ▸ hu)
theorem dTask_ok (t : Str × Nat) : dOk (dTask t) = true ∧ (dNK (dTask t)).depth ≤ 8 := by
  refine ⟨?_, Nat.le_trans (depth_tup (n := 0) fun d hd => ?_) (by omega)⟩
  · rw [dTask, dOk]
    refine dOks_all fun d hd => ?_
    rcases List.mem_cons.mp hd with rfl | hd
    · rw [dOk]
    · rw [List.mem_singleton.mp hd, dOk]
  · rcases List.mem_cons.mp hd with rfl | hd
    · rw [dNK, NestedKey.depth]; omega
    · rw [List.mem_singleton.mp hd, dNK, NestedKey.depth]; omega
abbrev dBE (bg en : Str → Nat → Int) (t : Str × Nat) : Sd.D := .tup [.int (bg t.1 t.2), .int (en t.1 t.2)]
theorem dBE_upd {G : List (Str × Nat)} {bg en : Str → Nat → Int} {x : Str} {k : Nat} {u v : Int} (h : (x, k) ∉ G) : (G ++ [(x, k)]).map (dBE (updT bg x k u) (updT en x k v)) = G.map (dBE bg en) ++ [.tup [.int u, .int v]] := by
  rw [List.map_append, List.map_cons, List.map_nil]
  congr 1
  · refine List.map_congr_left fun ⟨y, j⟩ hy => ?_
    simp only [dBE, updT_ne h hy]
  · simp only [dBE, updT_same]
end Tx

/-! text W30 -/
set_option Elab.async false
set_option linter.all false
set_option maxRecDepth 100000
set_option maxHeartbeats 2000000
/-! W30: the law's play. -/
namespace Tx
open PySem PySem.Spec PyProof.Rows L2 Sd C8
section
variable {P : Program} {w : World} {K : Fg} {mg : Str → Option Value} {base : Heap}
abbrev gdP (P : Program) (w : World) (K : Fg) (p : Addr) (G : List (Str × Nat)) (bg en : Str → Nat → Int) : OC := gdC P w K p (G.map dTask) (G.map (dBE bg en))
theorem entK_take {ls : List Lk4} {i : Nat} {l : Lk4} {s : St3} (h : ls[i]? = some l) : entK (ls.take (i + 1)) s = entK (ls.take i) s ++ if l.tgt = s.name then [l.ent] else [] := by
  rw [List.take_add_one, h]
  show entK (ls.take i ++ [l]) s = _
  by_cases e : l.tgt = s.name
  · rw [if_pos e, entK_snoc e.symm]
  · rw [if_neg e, List.append_nil]
    unfold entK
    rw [List.filter_append]
    simp [e]
theorem ok_law_play (T : Txt K mg) : Cal P w K mg base 1 "_law_play" (Pr K (fun ow ss post => ow = [] ∧ ∃ (L : Ln) (ks : List (List Key)) (ns : List Nat) (N : Nat), ss = [.val (dPlan L), .val (dSp ks ns), iv (N : Nat)] ∧ PlanOk L ∧ N ≤ 40 ∧
    ∀ p bg en, Pl L (spOf ks ns) (grid L.names N) bg en → post (.ptr p) [(p, gdP P w K p (grid L.names N) bg en)])) [] := by
  obtain ⟨fd, F⟩ := T.f_law_play
  refine cal_of F sc_law_play (T.glo _) (bd_law_play F) (by rintro ow ss post ⟨_, _, _, _, _, rfl, _⟩; rfl) fun cdv A outer sh H E C D ow ss post hr hR hM Fn Fx => ?_
  obtain ⟨rfl, L, ks, ns, N, rfl, hL, hN, hp⟩ := hR
  have nd := sc_law_play.nd
  have h4 := hL.n4
  have h7 := hL.n7
  have hnl : L.names.length = L.sts.length := List.length_map _
  refine sd_setM 3 (em_gd fun pf => ?_) nd
  refine sd_for (fun t ow en => ∃ (bg en' : Str → Nat → Int) (x4 x5 x6 x7 x8 x9 x10 x11 x12 x13 : SV), ow = [(pf, gdP P w K pf (grid L.names t) bg en')] ∧ en = [.val (dPlan L), .val (dSp ks ns), iv (N : Nat), .ptr pf, x4, x5, x6, x7, x8, x9, x10, x11, x12, x13] ∧ Pl L (spOf ks ns) (grid L.names t) bg en') PassesOwn.never rfl
    (ei_range2 (i := 1) (j := (N : Int) + 1) ed_int (ed_add (ed_var 2) ed_int) (by omega) (T.free _)) ⟨fun _ _ => 0, fun _ _ => 0, .un, .un, .un, .un, .un, .un, .un, .un, .un, .un, rfl, rfl, fun x k h => (by cases h)⟩ (fun _ _ _ _ q hq => by cases hq) ?_ ?_
  · rintro C' le t s ow en ht ⟨bg, ed, x4, x5, x6, x7, x8, x9, x10, x11, x12, x13, rfl, rfl, hP⟩ rfl
    have ht : t < N := by omega
    have et : (1 : Int) + (t : Nat) = ((t + 1 : Nat) : Int) := by omega
    rw [et]
    refine ⟨_, _, tg_name 4 nd, ?_⟩
    refine sd_for (fun i ow en => ∃ (bg en' : Str → Nat → Int) (x5 x6 x7 x8 x9 x10 x11 x12 x13 : SV), ow = [(pf, gdP P w K pf (gridU L.names t i) bg en')] ∧ en = [.val (dPlan L), .val (dSp ks ns), iv (N : Nat), .ptr pf, iv ((t + 1 : Nat) : Int), x5, x6, x7, x8, x9, x10, x11, x12, x13] ∧ Pl L (spOf ks ns) (gridU L.names t i) bg en') PassesOwn.never rfl
      (ei_tup (ds := L.sts.map St3.sides) (ed_ixT (ed_var 0) ed_int (.tup [.tup (L.sts.map St3.sides), .tup (L.lks.map Lk4.sides), .str L.out]) (atI_nat (j := 0) rfl))) ⟨bg, ed, x5, x6, x7, x8, x9, x10, x11, x12, x13, by rw [gridU_zero], rfl, by rw [gridU_zero]; exact hP⟩ (fun _ _ _ _ q hq => by cases hq) ?_ ?_
    · rintro C2 le2 i s ow en hi ⟨bg, ed, x5, x6, x7, x8, x9, x10, x11, x12, x13, rfl, rfl, hP⟩ ⟨d, hd, rfl⟩
      obtain ⟨x, hx, rfl⟩ := getE_map hd
      have hxm := List.mem_of_getElem? hx
      have hxn : L.names[i]? = some x.name := by rw [List.getElem?_map, hx]; rfl
      have hi : i < L.sts.length := by simpa using hi
      have hent := entOf_at hL.nd hxm
      have hdep : ∀ e ∈ L.entOf x.name, e.lag < t + 1 → (e.src, t + 1 - e.lag) ∈ gridU L.names t i := fun e he hl => deps hL hx he hl
      generalize hG : gridU L.names t i = G at hP hdep ⊢
      have hxG : (x.name, t + 1) ∉ G := hG ▸ gridU_new hL.nd hxn
      have hGl : G.length ≤ 200 := by
        rw [← hG]
        unfold gridU grid
        rw [List.length_append, List.length_map, List.length_take, List.length_flatMap]
        have : ((List.range t).map fun k => (L.names.map fun x => (x, k + 1)).length).sum ≤ t * 4 := by
          rw [List.map_congr_left (g := fun _ => L.names.length) fun k _ => List.length_map _]
          rw [List.map_const', List.sum_replicate_nat, List.length_range]
          exact Nat.mul_le_mul_left t (by omega)
        omega
      refine ⟨_, _, tg_tup rfl (tgs_cons (tg_name 5 nd) (tgs_cons (tg_name 6 nd) (tgs_cons (tg_name 7 nd) tgs_nil))), ?_⟩
      refine sd_setN 8 (A := (· = .lst [iv 0])) (en_lst (ea_cons ed_int ea_nil)) ?_ nd
      rintro pd _ rfl
      refine sd_ifJ (k := (match x.hands with | none => false | some h => decide (h < ((t + 1 : Nat) : Int)))) (I := fun ow en => ow = [(pd, .lst ((dueL bg ed (t + 1) x.ent).map iv)), (pf, gdP P w K pf G bg ed)] ∧ en = [.val (dPlan L), .val (dSp ks ns), iv (N : Nat), .ptr pf, iv ((t + 1 : Nat) : Int), sv x.name, .val (oid x.hands), bv x.timed, .ptr pd, x9, x10, x11, x12, x13]) ?_ ?_ ?_ ?_
      · cases hh : x.hands with
        | none => exact (et_and2 (k := false) (j := false) ((et_cmp (ed_var 6) ed_non cd_notN).to rfl) fun z => by cases z).to rfl
        | some h => exact (et_and2 (k := true) (j := decide (h < ((t + 1 : Nat) : Int))) ((et_cmp (ed_var 6) ed_non cd_notN).to rfl) fun _ => et_cmp (ed_var 4) (ed_var 6) cd_gt).to (by simp)
      · intro hk
        cases hh : x.hands with
        | none => rw [hh] at hk; cases hk
        | some h =>
          rw [hh] at hk
          have hlt : h < ((t + 1 : Nat) : Int) := of_decide_eq_true hk
          have h1 := ((hL.rows x hxm).hands h hh).1
          have hxe : x.ent = [⟨h.toNat, x.name, 0⟩] := by unfold St3.ent; rw [hh]
          have hmem : (x.name, t + 1 - h.toNat) ∈ G := hdep ⟨h.toNat, x.name, 0⟩ (by rw [hent]; unfold entK; rw [hxe]; exact List.mem_append_left _ List.mem_cons_self) (by show h.toNat < t + 1; omega)
          have ek : ((t + 1 : Nat) : Int) - h = ((t + 1 - h.toNat : Nat) : Int) := by omega
          have hd0 : dueL bg ed (t + 1) x.ent = [0] ++ [ed x.name (t + 1 - h.toNat)] := by
            have := dueL_snoc (bg := bg) (en := ed) (k := t + 1) (es := []) (e := ⟨h.toNat, x.name, 0⟩)
            rw [if_pos (by show h.toNat < t + 1; omega)] at this
            rw [hxe]
            exact this
          refine sd_exprM (em_append (ss := [iv 0]) (Pa := (· = iv (ed x.name (t + 1 - h.toNat)))) (ed_var 8) ?_ (by simp) (by rw [sizeLine_eq]; simp) ?_)
          · exact ed_ixT (ed_gget (z := dBE bg ed (x.name, t + 1 - h.toNat)) (hu9_of hr) (ed_var 3) (ed_tup (ds := [.str x.name, .int ((t + 1 - h.toNat : Nat) : Int)]) (ea_cons (ed_var 5) (ea_cons (EvD.is (ed_sub (ed_var 4) (ed_var 6)) (by rw [ek])) ea_nil))) (.own (List.mem_cons_of_mem _ List.mem_cons_self)) (dTask_ok (x.name, t + 1 - h.toNat)).1 (dTask_ok (x.name, t + 1 - h.toNat)).2 (gAt_task hmem)) ed_int (.tup [.int (bg x.name (t + 1 - h.toNat)), .int (ed x.name (t + 1 - h.toNat))]) (atI_nat (j := 1) rfl)
          · rintro _ rfl
            exact ⟨_, .here, sd_stop rfl ⟨by rw [hd0]; rfl, rfl⟩⟩
      · intro hk
        have hd0 : dueL bg ed (t + 1) x.ent = [0] := by
          cases hh : x.hands with
          | none =>
            have hxe : x.ent = [] := by unfold St3.ent; rw [hh]
            rw [hxe]; rfl
          | some h =>
            rw [hh] at hk
            have hge := of_decide_eq_false hk
            have hxe : x.ent = [⟨h.toNat, x.name, 0⟩] := by unfold St3.ent; rw [hh]
            have := dueL_snoc (bg := bg) (en := ed) (k := t + 1) (es := []) (e := ⟨h.toNat, x.name, 0⟩)
            rw [if_neg (by show ¬ h.toNat < t + 1; omega)] at this
            rw [hxe]
            exact this
        exact sd_stop rfl ⟨by rw [hd0]; rfl, rfl⟩
      rintro _ _ ⟨rfl, rfl⟩
      refine sd_for (fun j ow en => ∃ (x9 x10 x11 x12 : SV), ow = [(pd, .lst ((dueL bg ed (t + 1) (entK (L.lks.take j) x)).map iv)), (pf, gdP P w K pf G bg ed)] ∧ en = [.val (dPlan L), .val (dSp ks ns), iv (N : Nat), .ptr pf, iv ((t + 1 : Nat) : Int), sv x.name, .val (oid x.hands), bv x.timed, .ptr pd, x9, x10, x11, x12, x13]) PassesOwn.never rfl
        (ei_tup (ds := L.lks.map Lk4.sides) (ed_ixT (ed_var 0) ed_int (.tup [.tup (L.sts.map St3.sides), .tup (L.lks.map Lk4.sides), .str L.out]) (atI_nat (j := 1) rfl))) ⟨x9, x10, x11, x12, by simp [entK], rfl⟩ (fun _ _ _ _ q hq => by cases hq) ?_ ?_
      · rintro C3 le3 j s ow en hj ⟨x9, x10, x11, x12, rfl, rfl⟩ ⟨d, hd2, rfl⟩
        obtain ⟨l, hl, rfl⟩ := getE_map hd2
        refine ⟨_, _, tg_tup rfl (tgs_cons (tg_name 9 nd) (tgs_cons (tg_name 10 nd) (tgs_cons (tg_name 11 nd) (tgs_cons (tg_name 12 nd) tgs_nil)))), ?_⟩
        have hlm := List.mem_of_getElem? hl
        obtain ⟨_, _, _, _, h0, _, _⟩ := hL.wires l hlm
        have hj : j < L.lks.length := by simpa using hj
        have hsz : (dueL bg ed (t + 1) (entK (L.lks.take j) x)).length ≤ 100 := by
          unfold dueL
          rw [List.length_cons, List.length_map]
          have h1 := List.length_filter_le (fun e : Ent => decide (e.lag < t + 1)) (entK (L.lks.take j) x)
          have h2 : (entK (L.lks.take j) x).length ≤ 1 + 7 := by
            unfold entK
            rw [List.length_append, List.length_map]
            have h3 := List.length_filter_le (fun l : Lk4 => decide (l.tgt = x.name)) (L.lks.take j)
            rw [List.length_take] at h3
            have h4 : x.ent.length ≤ 1 := by unfold St3.ent; split <;> simp
            omega
          omega
        have htk := entK_take (s := x) hl
        refine sd_if (k := decide (l.tgt = x.name) && decide (l.stock < ((t + 1 : Nat) : Int))) (et_and2 (et_cmp (ed_var 10) (ed_var 5) cd_eqS) fun _ => et_cmp (ed_var 4) (ed_var 11) cd_gt) (fun hk => ?_) fun hk => ?_
        · rw [Bool.and_eq_true, decide_eq_true_iff, decide_eq_true_iff] at hk
          obtain ⟨hk1, hk2⟩ := hk
          rw [if_pos hk1] at htk
          have hlag : l.ent.lag < t + 1 := by show l.stock.toNat < t + 1; omega
          have hme : l.ent ∈ L.entOf x.name := by
            rw [hent]
            exact List.mem_append_right _ (List.mem_map.mpr ⟨l, List.mem_filter.mpr ⟨hlm, decide_eq_true hk1⟩, rfl⟩)
          have hmem : (l.src, t + 1 - l.stock.toNat) ∈ G := hdep l.ent hme hlag
          have ek : ((t + 1 : Nat) : Int) - l.stock = ((t + 1 - l.stock.toNat : Nat) : Int) := by omega
          have hd0 : dueL bg ed (t + 1) (entK (L.lks.take (j + 1)) x) = dueL bg ed (t + 1) (entK (L.lks.take j) x) ++ [pv bg ed l.ent.pl l.src (t + 1 - l.stock.toNat)] := by
            rw [htk, dueL_snoc, if_pos hlag]
            rfl
          refine sd_exprM (em_append (ss := (dueL bg ed (t + 1) (entK (L.lks.take j) x)).map iv) (Pa := (· = iv (pv bg ed l.ent.pl l.src (t + 1 - l.stock.toNat)))) (ed_var 8) ?_ (by simp) (by rw [sizeLine_eq, List.length_map]; omega) ?_)
          · have get := fun {C : FC} {X : Cx} {en : En} => (gAt_task (f := dBE bg ed) hmem)
            cases he : l.early with
            | true =>
              have e1 : pv bg ed l.ent.pl l.src (t + 1 - l.stock.toNat) = bg l.src (t + 1 - l.stock.toNat) := by
                have : l.ent.pl = 1 := by show (if l.early = true then 1 else 0) = 1; rw [he]; rfl
                rw [this]; rfl
              rw [e1]
              exact ed_ixT (i := 0) (ed_gget (z := dBE bg ed (l.src, t + 1 - l.stock.toNat)) (hu9_of hr) (ed_var 3) (ed_tup (ds := [.str l.src, .int ((t + 1 - l.stock.toNat : Nat) : Int)]) (ea_cons (ed_var 9) (ea_cons (EvD.is (ed_sub (ed_var 4) (ed_var 11)) (by rw [ek])) ea_nil))) (.own (List.mem_cons_of_mem _ List.mem_cons_self)) (dTask_ok (l.src, t + 1 - l.stock.toNat)).1 (dTask_ok (l.src, t + 1 - l.stock.toNat)).2 (gAt_task hmem)) (ep_if (k := true) (et_val (ed_var 12)) (fun _ => ed_int) fun z => by cases z) (.tup [.int (bg l.src (t + 1 - l.stock.toNat)), .int (ed l.src (t + 1 - l.stock.toNat))]) (atI_nat (j := 0) rfl)
            | false =>
              have e1 : pv bg ed l.ent.pl l.src (t + 1 - l.stock.toNat) = ed l.src (t + 1 - l.stock.toNat) := by
                have : l.ent.pl = 0 := by show (if l.early = true then 1 else 0) = 0; rw [he]; rfl
                rw [this]; rfl
              rw [e1]
              exact ed_ixT (i := 1) (ed_gget (z := dBE bg ed (l.src, t + 1 - l.stock.toNat)) (hu9_of hr) (ed_var 3) (ed_tup (ds := [.str l.src, .int ((t + 1 - l.stock.toNat : Nat) : Int)]) (ea_cons (ed_var 9) (ea_cons (EvD.is (ed_sub (ed_var 4) (ed_var 11)) (by rw [ek])) ea_nil))) (.own (List.mem_cons_of_mem _ List.mem_cons_self)) (dTask_ok (l.src, t + 1 - l.stock.toNat)).1 (dTask_ok (l.src, t + 1 - l.stock.toNat)).2 (gAt_task hmem)) (ep_if (k := false) (et_val (ed_var 12)) (fun z => by cases z) fun _ => ed_int) (.tup [.int (bg l.src (t + 1 - l.stock.toNat)), .int (ed l.src (t + 1 - l.stock.toNat))]) (atI_nat (j := 1) rfl)
          · rintro _ rfl
            exact ⟨_, .here, sd_back rfl (sd_stop rfl ⟨_, _, _, _, by rw [hd0, List.map_append]; rfl, rfl⟩)⟩
        · have hd0 : dueL bg ed (t + 1) (entK (L.lks.take (j + 1)) x) = dueL bg ed (t + 1) (entK (L.lks.take j) x) := by
            rw [htk]
            by_cases hk1 : l.tgt = x.name
            · rw [if_pos hk1, dueL_snoc, if_neg]
              rw [decide_eq_true hk1, Bool.true_and] at hk
              have := of_decide_eq_false hk
              show ¬ l.stock.toNat < t + 1
              omega
            · rw [if_neg hk1, List.append_nil]
          exact sd_back rfl (sd_stop rfl ⟨_, _, _, _, by rw [hd0], rfl⟩)
      · rintro ow en ⟨x9, x10, x11, x12, rfl, rfl⟩
        rw [List.length_map, List.take_length, ← hent]
        refine sdp_set 13 (P := fun s => ∃ m, s = iv m ∧ m ∈ dueL bg ed (t + 1) (L.entOf x.name) ∧ ∀ y ∈ dueL bg ed (t + 1) (L.entOf x.name), y ≤ m) (ep_callB (ea_cons (ed_var 8) ea_nil) (fun ss e => by subst e; exact cl_max (.own pd _ (by simp)) (by simp [dueL]) rfl) (T.free _) bb_max) (fun s hs => ?_) nd
        obtain ⟨m, rfl, hm1, hm2⟩ := hs
        have hsp : (if x.timed = true then (spOf ks ns x.name (t + 1) : Nat) else 0) = tspan L (spOf ks ns) x.name (t + 1) := by
          unfold tspan
          by_cases h : x.timed = true
          · rw [if_pos h, if_pos ((timed_at hL.nd hxm).mpr h)]
          · rw [if_neg h, if_neg fun z => h ((timed_at hL.nd hxm).mp z)]
        refine sd_asg (EvP.em (P := (· = .val (.tup [.int m, .int (m + (tspan L (spOf ks ns) x.name (t + 1) : Nat))]))) ?_ ?_)
        · refine ed_tup (ds := [.int m, .int (m + (tspan L (spOf ks ns) x.name (t + 1) : Nat))]) (ea_cons (ed_var 13) (ea_cons (ed_add (j := ((tspan L (spOf ks ns) x.name (t + 1) : Nat) : Int)) (ed_var 13) (ep_if (k := x.timed) (et_val (ed_var 7)) (fun h => ?_) fun h => ?_)) ea_nil))
          · rw [if_pos h] at hsp
            refine EvD.is (ed_dget2 (r := (valS ks ns (kT x.name (t + 1))).map fun n => iv (n : Nat)) (hu_of hr) (ed_var 1) (ed_keyT (ks := kT x.name (t + 1)) (ea_cons (ed_var 5) (ea_cons (ed_var 4) ea_nil))) ed_int (.t (k := kT x.name (t + 1)) (.val ks _) rfl ?_)) ?_
            · rw [List.map_map]
              exact valS_map (fun n : Nat => iv (n : Nat)) ks ns _
            · rw [← hsp]
              unfold spOf
              cases valS ks ns (kT x.name (t + 1)) <;> rfl
          · rw [if_neg (by rw [h]; exact Bool.false_ne_true)] at hsp
            rw [← hsp]
            exact ed_int
        rintro _ rfl
        have e1 : gKs (G.map dTask) (dTask (x.name, t + 1)) = (G ++ [(x.name, t + 1)]).map dTask := by
          unfold gKs
          rw [gHas_task hxG, if_neg Bool.false_ne_true, List.map_append]; rfl
        have e2 : gDs (G.map dTask) (G.map (dBE bg ed)) (dTask (x.name, t + 1)) (.tup [.int m, .int (m + (tspan L (spOf ks ns) x.name (t + 1) : Nat))]) = (G ++ [(x.name, t + 1)]).map (dBE (updT bg x.name (t + 1) m) (updT ed x.name (t + 1) (m + (tspan L (spOf ks ns) x.name (t + 1) : Nat)))) := by
          unfold gDs
          rw [gHas_task hxG, if_neg Bool.false_ne_true, dBE_upd hxG]
        refine tgm_gd (ks := G.map dTask) (ds := G.map (dBE bg ed)) (y := .tup [.int m, .int (m + (tspan L (spOf ks ns) x.name (t + 1) : Nat))]) (ow' := [(pd, .lst ((dueL bg ed (t + 1) (L.entOf x.name)).map iv)), (pf, gdP P w K pf (G ++ [(x.name, t + 1)]) (updT bg x.name (t + 1) m) (updT ed x.name (t + 1) (m + (tspan L (spOf ks ns) x.name (t + 1) : Nat))))]) (hu9_of hr) (ed_var 3) (ed_tup (ds := [.str x.name, .int ((t + 1 : Nat) : Int)]) (ea_cons (ed_var 5) (ea_cons (ed_var 4) ea_nil))) (dTask_ok (x.name, t + 1)).1 (dTask_ok (x.name, t + 1)).2 (by rw [sizeLine_eq, List.length_map]; omega) ?_ ?_
        · rw [e1, e2]
          exact .there .here
        · have hG2 : gridU L.names t (i + 1) = G ++ [(x.name, t + 1)] := by rw [gridU_succ hxn, hG]
          exact SD.drop (sd_stop rfl ⟨_, _, _, _, _, _, _, _, _, _, _, by rw [hG2], rfl, by rw [hG2]; exact hP.add hxG hdep hm1 hm2⟩) (List.sublist_cons_self _ _)
    · rintro ow en ⟨bg, ed, x5, x6, x7, x8, x9, x10, x11, x12, x13, rfl, rfl, hP⟩
      rw [List.length_map, ← hnl, gridU_full] at hP ⊢
      exact sd_stop rfl ⟨bg, ed, _, _, _, _, _, _, _, _, _, _, rfl, rfl, hP⟩
  · rintro ow en ⟨bg, ed, x4, x5, x6, x7, x8, x9, x10, x11, x12, x13, rfl, rfl, hP⟩
    have e : ((N : Int) + 1 - 1).toNat = N := by omega
    rw [e] at hP ⊢
    exact sd_ret Fn (ed_var 3) (List.Sublist.refl _) (hp pf bg ed hP)
end
end Tx

/-! text W31 -/
set_option Elab.async false
set_option linter.all false
set_option maxRecDepth 100000
set_option maxHeartbeats 2000000
/-! W31: the law's count of what is under way. -/
namespace Tx
open PySem PySem.Spec PyProof.Rows L2 Sd C8
section
variable {P : Program} {w : World} {K : Fg} {mg : Str → Option Value} {base : Heap}
abbrev gdF (P : Program) (w : World) (K : Fg) (p : Addr) (od : Obj) (es : List GEnt) (G : List (Str × Nat)) (bg en : Str → Nat → Int) : OC := gdL P w K p od es (G.map dTask) (G.map (dBE bg en))
/-- how many of G, of the stations cs, are under way at m -/
def busyG (G : List (Str × Nat)) (cs : List Str) (bg en : Str → Nat → Int) (m : Int) : Nat := (G.filter fun z => decide (z.1 ∈ cs) && busyP bg en m z.1 z.2).length
theorem take_succ_filter {α : Type} {l : List α} {i : Nat} {x : α} (q : α → Bool) (h : l[i]? = some x) : (l.take (i + 1)).filter q = (l.take i).filter q ++ if q x = true then [x] else [] := by
  rw [List.take_add_one, h, List.filter_append]
  congr 1
  by_cases e : q x = true
  · simp [e]
  · simp [e]
theorem ok_law_busy (T : Txt K mg) : Cal P w K mg base 1 "_law_busy" (Pr K (fun ow ss post => ∃ (p : Addr) (od : Obj) (es : List GEnt) (G : List (Str × Nat)) (bg en : Str → Nat → Int) (cs : List Str) (m : Int), ow = [(p, gdF P w K p od es G bg en)] ∧ ss = [.ptr p, .val (.lst (cs.map Sd.D.str)), iv m] ∧ G.length ≤ 1000 ∧
    post (iv (busyG G cs bg en m : Nat)) [(p, gdF P w K p od es G bg en)])) [] := by
  obtain ⟨fd, F⟩ := T.f_law_busy
  refine cal_of F sc_law_busy (T.glo _) (bd_law_busy F) (by rintro ow ss post ⟨_, _, _, _, _, _, _, _, _, rfl, _⟩; rfl) fun cdv A outer sh H E C D ow ss post hr hR hM Fn Fx => ?_
  obtain ⟨p, od, es, G, bg, ed, cs, m, rfl, rfl, hG, hp⟩ := hR
  have nd := sc_law_busy.nd
  refine sd_setLcD 3 [("_law_task", 4)] (fun i ds => ds = ((G.take i).filter fun z => decide (z.1 ∈ cs) && decide (bg z.1 z.2 ≤ m)).map dTask) (ei_gkeys (ed_var 0) List.mem_cons_self) (by rw [sizeLine_eq, List.length_map]; omega) (fun q hq => by rw [List.mem_singleton.mp hq]; exact List.mem_cons_self) rfl ?_ ?_ (by rw [hM]; simp) nd (blk (N := N_law_busy) (sc := fnScope s_law_busy) (by decide +kernel))
  · rintro C' le i s ds hi ⟨d, hd, rfl⟩ rfl
    obtain ⟨z, hz, rfl⟩ := getE_map hd
    have hzm := List.mem_of_getElem? hz
    have hs := take_succ_filter (fun z => decide (z.1 ∈ cs) && decide (bg z.1 z.2 ≤ m)) hz
    refine ⟨[4], _, (· = (decide (z.1 ∈ cs) && decide (bg z.1 z.2 ≤ m))), by decide, fun _ _ _ _ _ => tg_name 4 nd, fun _ _ _ _ _ => ets_one (et_and2 (et_cmp (ed_ixT (s := sv z.1) (ed_var 4) ed_int (.tup [.str z.1, .int (z.2 : Nat)]) (atI_nat (j := 0) rfl)) (ed_var 1) (cd_inS (seqS cs))) fun _ => et_cmp (ed_ixT (s := iv (bg z.1 z.2)) (ed_gget (z := dBE bg ed z) (hu9_of hr) (ed_var 0) (ed_var 4) (.lck od es List.mem_cons_self) (dTask_ok z).1 (dTask_ok z).2 (gAt_task hzm)) ed_int (.tup [.int (bg z.1 z.2), .int (ed z.1 z.2)]) (atI_nat (j := 0) rfl)) (ed_var 2) cd_le), fun h => ?_, fun h => ⟨(· = .val (dTask z)), fun _ _ _ _ _ => ed_var 4, fun r e => ?_⟩⟩
    · refine ⟨_, rfl, ?_⟩
      rw [hs, if_neg (by rw [← h]; exact Bool.false_ne_true), List.append_nil]
    · subst e
      refine ⟨((G.take (i + 1)).filter fun z => decide (z.1 ∈ cs) && decide (bg z.1 z.2 ≤ m)).map dTask, ?_, rfl⟩
      rw [hs, if_pos h.symm]
      simp
  rintro ds rfl
  rw [List.length_map, List.take_length]
  generalize hg : (G.filter fun z => decide (z.1 ∈ cs) && decide (bg z.1 z.2 ≤ m)) = G1
  have hsub : ∀ z ∈ G1, z ∈ G := fun z hz => by rw [← hg] at hz; exact (List.mem_filter.mp hz).1
  have hl1 : G1.length ≤ G.length := by rw [← hg]; exact List.length_filter_le _ _
  have hcnt : (G1.filter fun z => decide (m < ed z.1 z.2)).length = busyG G cs bg ed m := by
    unfold busyG
    rw [← hg, List.filter_filter]
    congr 1
    refine List.filter_congr fun z _ => ?_
    simp only [busyP]
    cases decide (z.1 ∈ cs) <;> cases decide (bg z.1 z.2 ≤ m) <;> cases decide (m < ed z.1 z.2) <;> rfl
  refine sdp_ret Fn (P := (· = iv (busyG G cs bg ed m : Nat))) (ep_callB (A := (· = [.val (.lst ((G1.filter fun z => decide (m < ed z.1 z.2)).map dTask))])) (eap_cons (ed_lc [("_law_task", 4)] (fun i ds => ds = ((G1.take i).filter fun z => decide (m < ed z.1 z.2)).map dTask) (ei_lst (ed_var 3)) (by rw [sizeLine_eq, List.length_map]; omega) (fun q hq => by cases hq) rfl ?_ nd (blk (N := N_law_busy) (sc := fnScope s_law_busy) (by decide +kernel))) ea_nil (fun s ss h1 h2 => by
      obtain ⟨ds, e1, e2⟩ := h1
      rw [List.length_map, List.take_length] at e2
      rw [e1, e2, h2])) (fun ss e => ?_) (T.free _) bb_len) fun s e => ⟨_, List.Sublist.refl _, by rw [e]; exact hp⟩
  · rintro C' le i s ds hi ⟨d, hd, rfl⟩ rfl
    obtain ⟨z, hz, rfl⟩ := getE_map hd
    have hzm := hsub z (List.mem_of_getElem? hz)
    have hs := take_succ_filter (fun z => decide (m < ed z.1 z.2)) hz
    refine ⟨[4], _, (· = decide (m < ed z.1 z.2)), by decide, fun _ _ _ _ _ => tg_name 4 nd, fun _ _ _ _ _ => ets_one (et_cmp (ed_ixT (s := iv (ed z.1 z.2)) (ed_gget (z := dBE bg ed z) (hu9_of hr) (ed_var 0) (ed_var 4) (.lck od es List.mem_cons_self) (dTask_ok z).1 (dTask_ok z).2 (gAt_task hzm)) ed_int (.tup [.int (bg z.1 z.2), .int (ed z.1 z.2)]) (atI_nat (j := 1) rfl)) (ed_var 2) cd_gt), fun h => ?_, fun h => ⟨(· = .val (dTask z)), fun _ _ _ _ _ => ed_var 4, fun r e => ?_⟩⟩
    · refine ⟨_, rfl, ?_⟩
      rw [hs, if_neg (by rw [← h]; exact Bool.false_ne_true), List.append_nil]
    · subst e
      refine ⟨((G1.take (i + 1)).filter fun z => decide (m < ed z.1 z.2)).map dTask, ?_, rfl⟩
      rw [hs, if_pos h.symm]
      simp
  · subst e
    have := cl_len (C := C) (X := (cxOf L2.CX0 P w K mg base N_law_busy d_law_busy.qual (fnScope s_law_busy) (d_law_busy.at_ K) cdv A outer sh H E).nox) (ow := [(p, gdF P w K p od es G bg ed)]) (en := ([.ptr p, .val (.lst (cs.map Sd.D.str)), iv m] ++ List.replicate (N_law_busy.length - [SV.ptr p, .val (.lst (cs.map Sd.D.str)), iv m].length) SV.un).set 3 (.val (.lst (G1.map dTask)))) (.lst ((G1.filter fun z => decide (m < ed z.1 z.2)).map dTask))
    rw [List.length_map, List.length_map, hcnt] at this
    exact this
end
end Tx

/-! text Sd24 -/
set_option Elab.async false
set_option linter.all false
set_option maxRecDepth 100000
set_option maxHeartbeats 2000000
/-! Sd24: dict(pairs), the keys tuples. -/
namespace Sd
open PySem PySem.Spec PyProof.Rows L2
/-- a pair: the key, where it stands, the value, where the pair stands -/
structure KPr where
  key : List Key
  ka : Addr
  val : V
  pa : Addr
theorem pick_all {α β : Type} {R : α → β → Prop} : ∀ {l : List α}, (∀ x ∈ l, ∃ y, R x y) → ∃ ys : List β, Paired R l ys
  | [], _ => ⟨[], .nil⟩
  | x :: l, h => by
    obtain ⟨y, hy⟩ := h x List.mem_cons_self
    obtain ⟨ys, hys⟩ := pick_all fun z hz => h z (List.mem_cons_of_mem _ hz)
    exact ⟨y :: ys, .cons hy hys⟩
theorem paired_at {α β : Type} {R : α → β → Prop} {l : List α} {ys : List β} (h : Paired R l ys) : ∀ {i : Nat} {x : α} {y : β}, l[i]? = some x → ys[i]? = some y → R x y := by
  induction h with
  | nil => intro i x y e; simp at e
  | @cons a b l ys r t ih =>
    intro i x y e1 e2
    cases i with
    | zero =>
      simp only [List.getElem?_cons_zero, Option.some.injEq] at e1 e2
      subst e1 e2
      exact r
    | succ i =>
      rw [List.getElem?_cons_succ] at e1 e2
      exact ih e1 e2
theorem cr_dictP {X : Cx} (hu : X.A.units + 9 < cLine) (hc : X.calm = true) : CallR X (.type "dict") (fun vs H Q => ∃ (a : Addr) (ts : List KPr), vs = [V.ref a] ∧ SqL X.K H a (ts.map fun t => V.ref t.pa) ∧ (∀ t ∈ ts, SqT X.K H t.pa [V.ref t.ka, t.val]) ∧ (∀ t ∈ ts, H t.ka = some (.tup (t.key.map kV))) ∧ (ts.map (·.key)).Nodup ∧
    ∀ p, H p = none → Q (.ref p) (upd H p (.dT (ts.map fun t => (t.key, t.val))))) := by
  intro pins s σ H xs us Q I r h
  obtain ⟨a, ts, rfl, hl, hp, hk, hn, q⟩ := h
  obtain ⟨u, rfl, ru⟩ := vals1 r
  cases ru
  obtain ⟨its, rv, pl, hz⟩ := I.list hl
  have hits : its = ts.map fun t => Value.ref t.pa := by
    clear hl hp hk hn q pl hz
    induction ts generalizing its with
    | nil => cases rv; rfl
    | cons t ts ih =>
      cases rv with
      | cons r1 rv => cases r1; rw [List.map_cons, ih _ rv]
  obtain ⟨vs, hvs⟩ := pick_all (R := fun (t : KPr) (u : Value) => RelV t.val u ∧ s.heap.IsTuple t.pa #[.ref t.ka, u]) (l := ts) fun t ht => by
    obtain ⟨its2, rv2, p2, _⟩ := I.tuple (hp t ht)
    cases rv2 with
    | cons r1 rv2 =>
      cases r1
      cases rv2 with
      | cons r2 rv2 =>
        cases rv2
        exact ⟨_, r2, p2⟩
  have hvl : ts.length = vs.length := Paired.length hvs
  let ps : List (Value × Value) := (ts.zip vs).map fun z => (Value.ref z.1.ka, z.2)
  let kx : List (List Key × Addr × Value) := (ts.zip vs).map fun z => (z.1.key, z.1.ka, z.2)
  have hpl : ps.length = ts.length := by show (List.map _ _).length = _; rw [List.length_map, List.length_zip]; omega
  have hkl : kx.length = ts.length := by show (List.map _ _).length = _; rw [List.length_map, List.length_zip]; omega
  have hat : ∀ (i : Nat) (t : KPr), ts[i]? = some t → ∃ u, vs[i]? = some u ∧ (ts.zip vs)[i]? = some (t, u) := fun i t e => by
    have hi := (List.getElem?_eq_some_iff.mp e).1
    have hu2 : vs[i]? = some vs[i] := List.getElem?_eq_getElem (by omega)
    exact ⟨_, hu2, List.getElem?_zip_eq_some.mpr ⟨e, hu2⟩⟩
  let Ts : Nat → Addr := fun j => (ts.map (·.pa)).getD j 0
  have hTs : ∀ (i : Nat) (t : KPr), ts[i]? = some t → Ts i = t.pa := fun i t e => by
    show (ts.map (·.pa)).getD i 0 = _
    rw [List.getD_eq_getElem?_getD, List.getElem?_map, e]
    rfl
  have hkx : ∀ x ∈ kx, ∃ t ∈ ts, x.1 = t.key ∧ x.2.1 = t.ka := fun x hx => by
    obtain ⟨z, hz, rfl⟩ := List.mem_map.mp hx
    exact ⟨z.1, (List.of_mem_zip hz).1, rfl, rfl⟩
  have hkn : (kx.map (·.1)).Nodup := by
    have : kx.map (·.1) = ts.map (·.key) := by
      show (List.map _ (List.map _ _)) = _
      rw [List.map_map]
      have : (ts.zip vs).map (fun z => z.1.key) = ((ts.zip vs).map Prod.fst).map (·.key) := by rw [List.map_map]; rfl
      show (ts.zip vs).map (fun z => z.1.key) = _
      rw [this, List.map_fst_zip (by omega)]
    rw [this]
    exact hn
  have hroom : (tupleKind (mixKind X.prog X.w)).room X.A.in1.in1 := by show X.A.units + 1 + 1 < cLine; omega
  refine call_dict_pairsH (knd := tupleKind (mixKind X.prog X.w)) (ps := kx) (PairArg.list a its.toArray Ts ps) (I.ok.hd hc) hroom ⟨pl, ?_, ?_⟩ ⟨by rw [hkl, hpl], ?_⟩ ?_ (by rw [hpl]; rw [List.length_map] at hz; exact hz) ?_
  · rw [hits, hpl]; simp
  · intro j k v e
    obtain ⟨z, hz2, e2⟩ := List.getElem?_map .. ▸ e |> Option.map_eq_some_iff.mp
    cases e2
    obtain ⟨h1, h2⟩ := List.getElem?_zip_eq_some.mp hz2
    refine ⟨?_, ?_⟩
    · rw [hTs _ _ h1, hits]
      simp [h1]
    · rw [hTs _ _ h1]
      exact .inl (paired_at hvs h1 h2).2
  · intro i key v e
    have e : ps[i]? = some (key, v) := e
    obtain ⟨z, hz2, e2⟩ := List.getElem?_map .. ▸ e |> Option.map_eq_some_iff.mp
    cases e2
    refine ⟨z.1.key, z.1.ka, ?_, rfl⟩
    show (List.map _ _)[i]? = _
    rw [List.getElem?_map, hz2]
    rfl
  · intro h' hkeep x hx
    obtain ⟨t, ht, e1, e2⟩ := hkx x hx
    have hk2 := key_of I.hok (hk t ht)
    obtain ⟨o, items, n, h1, h2⟩ := hk2
    rw [e1, e2]
    exact ⟨o, items, n, hkeep _ _ (Nat.ne_of_lt (Heap.lt_size h1)) (fun z => nomatch z) h1, h2⟩
  · intro h' tk hd hkeep
    rw [storedAllH_nil_of_nodup _ hkn] at hd
    obtain ⟨o, es, ep, g1, g2, g3, g4, g5, g6⟩ := hd
    have hnone : H s.heap.objs.size = none := I.hok.fresh (Nat.le_refl _)
    refine ⟨.ref s.heap.objs.size, _, I.laid (a := s.heap.objs.size) (o := .dT (ts.map fun t => (t.key, t.val))) (t' := tk) (fun b u e => hkeep b u (fun z => nomatch z) e) (Nat.le_refl _) ⟨?_, ?_, kx, ?_, o, es, ep, g1, g2, g3, g4, g6⟩, rfl, q _ hnone⟩
    · rw [List.length_map] at hz ⊢; exact hz
    · exact beq_eq_false_iff_ne.mpr (Ne.symm (Nat.ne_of_lt I.big))
    · have : ∀ {ts : List KPr} {vs : List Value}, Paired (fun (t : KPr) (u : Value) => RelV t.val u ∧ s.heap.IsTuple t.pa #[.ref t.ka, u]) ts vs → (∀ t ∈ ts, H t.ka = some (.tup (t.key.map kV))) → (∀ t ∈ ts, t.ka ≠ s.heap.objs.size) →
          Paired (fun (p : List Key × V) (q : List Key × Addr × Value) => p.1 = q.1 ∧ upd H s.heap.objs.size (.dT (ts.map fun t => (t.key, t.val))) q.2.1 = some (.tup (p.1.map kV)) ∧ RelV p.2 q.2.2) (ts.map fun t => (t.key, t.val)) ((ts.zip vs).map fun z => (z.1.key, z.1.ka, z.2)) := by
        intro ts vs hp hk hne
        generalize HO.dT (ts.map fun t => (t.key, t.val)) = oo
        induction hp with
        | nil => exact .nil
        | @cons t u ts vs r t2 ih =>
          rw [List.map_cons, List.zip_cons_cons, List.map_cons]
          refine .cons ⟨rfl, ?_, r.1⟩ (ih (fun x hx => hk x (List.mem_cons_of_mem _ hx)) fun x hx => hne x (List.mem_cons_of_mem _ hx))
          rw [upd_ne (hne t List.mem_cons_self)]
          exact hk t List.mem_cons_self
      exact this hvs hk fun t ht e => by
        have := hk t ht
        rw [e, hnone] at this
        cases this
section
variable {C : FC} {X : Cx} {ow : Ow} {en : En} {s : SV}
theorem kpr_of {K : Fg} {B : Hp} : ∀ {ks : List (List Key)} {xs : List V}, RpSL K B ((ks.map fun k => Sd.D.tup [.key k, .int 1]).map SV.val) xs →
    ∃ ts : List KPr, ts.map (·.key) = ks ∧ xs = ts.map (fun t => V.ref t.pa) ∧ ∀ t ∈ ts, t.val = .int 1 ∧ SqT K B t.pa [V.ref t.ka, t.val] ∧ B t.ka = some (.tup (t.key.map kV))
  | [], xs, h => ⟨[], rfl, h, fun t ht => nomatch ht⟩
  | k :: ks, xs, h => by
    obtain ⟨y, ys, e, r, l⟩ := h
    obtain ⟨ts, h1, h2, h3⟩ := kpr_of l
    simp only [RpS, Rp] at r
    obtain ⟨pa, zs, e2, hq, y1, ys1, e3, r1, y2, ys2, e4, r2, e5⟩ := r
    simp only [Rp] at r1 r2
    obtain ⟨ka, e6, hk⟩ := r1
    have e5 : ys2 = [] := e5
    subst e e2 e3 e4 e5 e6 r2
    refine ⟨⟨k, ka, .int 1, pa⟩ :: ts, by rw [List.map_cons, h1], by rw [List.map_cons, h2], fun t ht => ?_⟩
    rcases List.mem_cons.mp ht with rfl | ht
    · exact ⟨rfl, hq, hk⟩
    · exact h3 t ht
theorem cn_dictP {ks : List (List Key)} (h : LstOf ow s ((ks.map fun k => Sd.D.tup [.key k, .int 1]).map SV.val)) (hn : ks.Nodup) (hu : X.A.units + 9 < cLine) (hc : X.calm = true) : ClN C X ow en (.type "dict") [s] (· = .dT ks (ks.map fun _ => iv 1)) := ⟨_, cr_dictP hu hc, fun B σ H vs S rs Q q => by
  obtain ⟨v, e, r⟩ := sl1 rs
  obtain ⟨a, xs, e1, hq, l⟩ := h.at S r
  obtain ⟨ts, h1, h2, h3⟩ := kpr_of l
  subst e e1 h2
  refine ⟨a, ts, rfl, hq, fun t ht => S.sub.t (h3 t ht).2.1, fun t ht => S.sub _ _ (h3 t ht).2.2, by rw [h1]; exact hn, fun p hp => q p _ _ _ rfl (NxN.hold S hp ⟨ts.map fun _ => V.int 1, ?_, ?_, ?_⟩)⟩
  · rw [upd_same, ← h1, List.zip_map]
    congr 2
    clear hq q l hn h h1
    induction ts with
    | nil => rfl
    | cons t ts ih =>
      rw [List.map_cons, List.zip_cons_cons, List.map_cons, ih (fun x hx => h3 x (List.mem_cons_of_mem _ hx)), (h3 t List.mem_cons_self).1]
      rfl
  · rw [← h1, List.length_map, List.length_map]
  · rw [← h1]
    clear hq q l hn h h1
    induction ts with
    | nil => exact RpSL.nil
    | cons t ts ih => exact RpSL.cons (rs_int.mpr rfl) (ih fun x hx => h3 x (List.mem_cons_of_mem _ hx))⟩
end
end Sd

/-! text M11 -/
set_option Elab.async false
set_option linter.all false
set_option maxRecDepth 100000
set_option maxHeartbeats 2000000
/-! M11: the line turned about its stations; what is told is told alike. -/
namespace Tx
open PySem Sd
theorem lagd_same {L : Ln} {cs : List Str} {F G : Str → Str → Option Nat} (h : Lagd L cs F) (k : Lagd L cs G) : ∀ n ∈ cs, ∀ m ∈ cs, F n m = G n m := by
  have key : ∀ {F G : Str → Str → Option Nat}, Lagd L cs F → Lagd L cs G → ∀ n ∈ cs, ∀ m ∈ cs, ∀ l, F n m = some l → ∃ j, j ≤ l ∧ G n m = some j := fun h k n hn m hm l e => k.all n hn m hm l (h.sound n hn m hm l e)
  intro n hn m hm
  cases e : F n m with
  | none =>
    cases e2 : G n m with
    | none => rfl
    | some l =>
      obtain ⟨j, _, h1⟩ := key k h n hn m hm l e2
      rw [e] at h1
      cases h1
  | some l =>
    obtain ⟨j, h1, h2⟩ := key h k n hn m hm l e
    obtain ⟨i, h3, h4⟩ := key k h n hn m hm j h2
    rw [e] at h4
    cases h4
    rw [h2]
    congr 1
    omega
theorem tot_same2 {F G : Str → Str → Option Nat} {cs : List Str} (h : ∀ n ∈ cs, ∀ m ∈ cs, F n m = G n m) : ∀ {ns ms : List Str} {c : Nat}, (∀ n ∈ ns, n ∈ cs) → (∀ m ∈ ms, m ∈ cs) → tot F ns ms = some c → tot G ns ms = some c
  | [], [], c, _, _, e => e
  | [], _ :: _, _, _, _, e => by cases e
  | _ :: _, [], _, _, _, e => by cases e
  | n :: ns, m :: ms, c, hn, hm, e => by
    obtain ⟨a, b, h1, h2, rfl⟩ := tot_cons.mp e
    exact tot_cons.mpr ⟨a, b, by rw [← h n (hn n List.mem_cons_self) m (hm m List.mem_cons_self)]; exact h1, tot_same2 h (fun x hx => hn x (List.mem_cons_of_mem _ hx)) (fun x hx => hm x (List.mem_cons_of_mem _ hx)) h2, rfl⟩
theorem least_same {F G : Str → Str → Option Nat} {cs ms ms' : List Str} {c c' : Nat} (h : ∀ n ∈ cs, ∀ m ∈ cs, F n m = G n m) (hF : Least F cs ms c) (hG : Least G cs ms' c') : c = c' := by
  have h1 := hG.least ms c hF.perm (tot_same2 h (fun n hn => hn) (fun m hm => hF.perm.mem_iff.mp hm) hF.cost)
  have h2 := hF.least ms' c' hG.perm (tot_same2 (fun n hn m hm => (h n hn m hm).symm) (fun n hn => hn) (fun m hm => hG.perm.mem_iff.mp hm) hG.cost)
  omega
theorem rot_low {L : Ln} (h : PlanOk L) (r : Nat) : (rotL L r).Low where
  few := ⟨rot_ok h r, by have := (rotS_perm L r).length_eq; have := h.n4; show (rotS L r).length ≤ 4; omega, h.n7⟩
  hands s hs j hj := (h.rows s ((rotS_perm L r).mem_iff.mp hs)).hands j hj
  stocks l hl := by
    obtain ⟨_, _, _, _, h1, h2, _⟩ := h.wires l hl
    exact ⟨h1, h2⟩
theorem idx_at {zs : List Str} (hn : zs.Nodup) {i : Nat} {x : Str} (h : zs[i]? = some x) : zs.idxOf x = i := by
  obtain ⟨hi, e⟩ := List.getElem?_eq_some_iff.mp h
  rw [← e]
  exact hn.idxOf_getElem i hi
theorem rot_ranked {L : Ln} (h : PlanOk L) (r : Nat) : (rotL L r).Ranked := by
  refine ⟨fun l hl => by obtain ⟨_, _, _, _, h1, _⟩ := h.wires l hl; exact h1, fun k => L.names.idxOf ((rotL L r).names.getD k ""), fun l hl h0 => ?_⟩
  obtain ⟨i, j, h1, h2, _, _, h3⟩ := h.wires l hl
  have key : ∀ x ∈ L.names, (rotL L r).names.getD ((rotL L r).names.idxOf x) "" = x := fun x hx => by
    have hx2 := (rot_names L r).mem_iff.mpr hx
    have hlt := List.idxOf_lt_length_of_mem hx2
    rw [List.getD_eq_getElem?_getD, List.getElem?_eq_getElem hlt, Option.getD_some]
    exact List.getElem_idxOf hlt
  show L.names.idxOf _ < L.names.idxOf _
  rw [key _ (List.mem_of_getElem? h1), key _ (List.mem_of_getElem? h2), idx_at h.nd h1, idx_at h.nd h2]
  exact h3 h0
theorem rot_ent {L : Ln} (h : PlanOk L) (r : Nat) (x : Str) : (rotL L r).entOf x = L.entOf x := by
  by_cases hx : x ∈ L.names
  · obtain ⟨s, hs, rfl⟩ := List.mem_map.mp hx
    rw [entOf_at h.nd hs]
    have hs2 : s ∈ (rotL L r).sts := (rotS_perm L r).mem_iff.mpr hs
    rw [entOf_at (rot_ok h r).nd hs2]
    rfl
  · have key : ∀ M : Ln, x ∉ M.names → M.entOf x = [] := fun M hM => by
      unfold Ln.entOf
      split
      · rename_i s hs
        have h1 := List.find?_some hs
        exact absurd (List.mem_map.mpr ⟨s, List.mem_of_find?_eq_some hs, of_decide_eq_true h1⟩) hM
      · rfl
    rw [key L hx, key _ fun z => hx ((rot_names L r).mem_iff.mp z)]
theorem play_rot {L : Ln} (h : PlanOk L) (r : Nat) {K : Nat} {bg en : Str → Nat → Int} (hP : IsPlay L K bg en) : IsPlay (rotL L r) K bg en where
  nn x hx := hP.nn x ((rot_names L r).mem_iff.mp hx)
  span x hx := hP.span x ((rot_names L r).mem_iff.mp hx)
  wait x hx k h1 h2 e he := hP.wait x ((rot_names L r).mem_iff.mp hx) k h1 h2 e (by rw [← rot_ent h r]; exact he)
  due x hx k h1 h2 := by
    rcases hP.due x ((rot_names L r).mem_iff.mp hx) k h1 h2 with q | ⟨e, he, q⟩
    · exact .inl q
    · exact .inr ⟨e, by rw [rot_ent h r]; exact he, q⟩
theorem rot_timed {L : Ln} (r : Nat) {x : Str} (h : x ∈ L.timedN) : x ∈ (rotL L r).timedN := by
  obtain ⟨s, hs, e⟩ := List.mem_map.mp h
  obtain ⟨h1, h2⟩ := List.mem_filter.mp hs
  exact List.mem_map.mpr ⟨s, List.mem_filter.mpr ⟨(rotS_perm L r).mem_iff.mpr h1, h2⟩, e⟩
theorem busy_rot {L : Ln} (h : PlanOk L) (r : Nat) {cs : List Str} (hc : cs.Nodup) (hs : ∀ x ∈ cs, x ∈ L.names) {K : Nat} {bg en : Str → Nat → Int} {t : Int} : busyG (grid L.names K) cs bg en t = busyN (rotL L r).names cs K bg en t := by
  show busyN L.names cs K bg en t = _
  rw [busyN_sum h.nd hc hs, busyN_sum (rot_ok h r).nd hc fun x hx => (rot_names L r).mem_iff.mpr (hs x hx)]
/-- the law's first look: never more than told -/
theorem first_look {L : Ln} (h : PlanOk L) (r : Nat) {K : Nat} {bg en : Str → Nat → Int} {sp : Str → Nat → Nat} (hP : Pl L sp (grid L.names K) bg en) {cs ms : List Str} {c : Nat} {F : Str → Str → Option Nat} (hc : cs.Nodup) (hs : ∀ x ∈ cs, x ∈ L.names) (hF : Lagd (rotL L r) cs F) (hL : Least F cs ms c) (t : Int) : busyG (grid L.names K) cs bg en t ≤ c := by
  rw [busy_rot h r hc hs]
  exact weak (rot_ok h r).nd (play_rot h r hP.play) hc (fun x hx => (rot_names L r).mem_iff.mpr (hs x hx)) hF hL t
/-- the law's second look: all the shown at once -/
theorem second_look {L : Ln} (h : PlanOk L) (r : Nat) {K : Nat} {bg en : Str → Nat → Int} {sp : Str → Nat → Nat} (hP : Pl L sp (grid L.names K) bg en) {cs ms : List Str} {c : Nat} {F : Str → Str → Option Nat} {g : Str → Nat} {T : List (Str × Nat)} (hc : cs.Nodup) (hs : ∀ x ∈ cs, x ∈ L.timedN) (hF : Lagd (rotL L r) cs F) (hL : Least F cs ms c) (hg : Floors F cs ms g) (hT : T.Perm (apart g F cs ms))
    (hsp : ∀ x k, sp x k = if (x, k) ∈ T then 1 else 0) (hK : ∀ z ∈ T, z.2 ≤ K) : busyG (grid L.names K) cs bg en 0 = c := by
  have hs2 : ∀ x ∈ cs, x ∈ L.names := fun x hx => Ln.timed_names (hs x hx)
  rw [busy_rot h r hc hs2]
  refine strong (rot_low h r) (rot_ranked h r) (play_rot h r hP.play) (rot_ok h r).nd hc (fun x hx => (rot_names L r).mem_iff.mpr (hs2 x hx)) hF hL hg hT (fun x hx k h1 h2 => ?_) hK
  rw [(hP x k (grid_mem.mpr ⟨(rot_names L r).mem_iff.mp hx, h1, h2⟩)).ends]
  congr 1
  unfold tspan
  rw [hsp]
  by_cases hm : (x, k) ∈ T
  · obtain ⟨n, hz, _⟩ := apart_mem (hT.mem_iff.mp hm)
    rw [if_pos hm, if_pos hm, if_pos (hs x (hL.perm.mem_iff.mp (List.of_mem_zip hz).2))]
    rfl
  · rw [if_neg hm, if_neg hm]
    split <;> rfl
theorem shown_names {F : Str → Str → Option Nat} {cs ms : List Str} {c : Nat} {g : Str → Nat} {T : List (Str × Nat)} (hL : Least F cs ms c) (hT : T.Perm (apart g F cs ms)) : ∀ z ∈ T, z.1 ∈ cs ∧ 1 ≤ z.2 := by
  rintro ⟨x, k⟩ hz
  obtain ⟨n, h1, h2, _⟩ := apart_mem (hT.mem_iff.mp hz)
  exact ⟨hL.perm.mem_iff.mp (List.of_mem_zip h1).2, by show 1 ≤ k; omega⟩
theorem shown_nodup {F : Str → Str → Option Nat} {cs ms : List Str} {c : Nat} {g : Str → Nat} {T : List (Str × Nat)} (hc : cs.Nodup) (hL : Least F cs ms c) (hT : T.Perm (apart g F cs ms)) : T.Nodup := hT.nodup_iff.mpr (apart_nodup (hL.perm.nodup_iff.mpr hc))
theorem kT_inj {x y : Str} {j k : Nat} (h : kT x j = kT y k) : x = y ∧ j = k := by
  simp only [kT, List.cons.injEq, Sum.inr.injEq, Sum.inl.injEq, and_true] at h
  exact ⟨h.1, by omega⟩
/-- the spans of the shown tasks -/
theorem sp_shown (T : List (Str × Nat)) (x : Str) (k : Nat) : spOf (T.map fun t => kT t.1 t.2) (T.map fun _ => 1) x k = if (x, k) ∈ T then 1 else 0 := by
  unfold spOf
  induction T with
  | nil => rfl
  | cons t T ih =>
    rw [List.map_cons, List.map_cons, valS_cons]
    by_cases e : kT t.1 t.2 = kT x k
    · obtain ⟨h1, h2⟩ := kT_inj e
      have : (x, k) = t := by rw [← h1, ← h2]
      rw [if_pos e, if_pos (by rw [this]; exact List.mem_cons_self)]
      rfl
    · have ne : (x, k) ≠ t := fun z => e (by rw [← z])
      rw [if_neg e, ih]
      by_cases hm : (x, k) ∈ T
      · rw [if_pos hm, if_pos (List.mem_cons_of_mem _ hm)]
      · rw [if_neg hm, if_neg fun z => (List.mem_cons.mp z).elim ne hm]
end Tx

/-! text Sd25 -/
set_option Elab.async false
set_option linter.all false
set_option maxRecDepth 100000
set_option maxHeartbeats 2000000
/-! Sd25: a call that hands back a new object, told with its address; lists joined. -/
namespace Sd
open PySem PySem.Spec PyProof.Rows L2
section
variable {C : FC} {X : Cx} {ow owA : Ow} {en : En} {a b e : Expr} {es : List Expr} {pos p0 : Pos} {k j : Nat} {x : Str} {R : Rel}
theorem em_call {Q' : SV → Ow → Prop} {AL : List SV → Prop} (cal : C8.Cal X.prog X.w X.K X.mg X.base k x (Pr X.K R) []) (hr : Room j X.A) (hk : k ≤ j) (ha : EvA C X ow en (e :: es) AL)
    (h : ∀ ss, AL ss → ∃ owA post, owA.Sublist ow ∧ R owA ss post ∧ ∀ s ow', post s ow' → ∃ p oc, s = .ptr p ∧ ow' = (p, oc) :: owA ∧ Q' (.ptr p) ((p, oc) :: ow)) (hg : Gl X x := by rfl)
    (hdb : (x == ("__debug__" : Str)) = false := by decide) (he : starEach (e :: es) X.env = (false, eval e X.env) :: starEach es X.env := by rfl) (hpl : (backTo pos (starEach es X.env)).any (·.1) = false := by rfl) :
    EvM C X ow en (.Call (.Name x p0) (e :: es) [] pos) Q' :=
  ⟨fun B σ H S Q q => ⟨_, C8.pe_c cal hr hk hg pa_wa hdb he hpl, ha.run B σ H S _ fun vs ss B' H' ps n rs => by
    obtain ⟨owA, post, sb, hR, hp⟩ := h ss ps
    refine ⟨B', owA, ss, post, n.sta.sub, n.sta.nd.sublist (sb.map _), fun q hq => ⟨(n.sta.own q (sb.subset hq)).1, (n.sta.own q (sb.subset hq)).2.2⟩, by rw [List.append_nil]; exact rs, hR, ⟨fun v s ow' B2 H2 pp keep alive exB new sub own nd rv => ?_⟩⟩
    obtain ⟨p, oc, e1, e2, pa⟩ := hp s ow' pp
    subst e1 e2
    exact q v _ _ B2 H2 pa (n.trN (calledN n.sta sb keep alive exB new sub own nd)).sta rv⟩⟩
/-- xs + ys, two new lists -/
theorem en_catN {xs ys : List SV} (ha : EvN C X ow en a (· = .lst xs)) (hb : ∀ p, EvN C X ((p, .lst xs) :: ow) en b (· = .lst ys)) (hl : xs.length + ys.length ≤ sizeLine) : EvN C X ow en (.BinOp a .Add b pos) (· = .lst (xs ++ ys)) :=
  ⟨fun B σ H S Q q => ⟨_, pe_op op_cat pe_we pe_we, ha.run B σ H S _ fun p oc B1 H1 e1 n1 => by
    subst e1
    refine (hb p).run B1 σ H1 n1.sta _ fun p2 oc2 B2 H2 e2 n2 => ?_
    subst e2
    obtain ⟨_, _, us, hu, l2⟩ := n2.sta.own _ List.mem_cons_self
    obtain ⟨_, _, vs, hv, l1⟩ := n2.sta.own _ (List.mem_cons_of_mem _ List.mem_cons_self)
    have m1 := l1.length
    have m2 := l2.length
    refine ⟨p, p2, vs, us, rfl, rfl, hv, hu, by omega, fun p3 hp3 => q p3 _ B2 (upd H2 p3 (.lst (vs ++ us))) rfl ?_⟩
    have S2 : Sta C X.K B2 ow en σ H2 := n2.sta.drop ((List.sublist_cons_self _ _).trans (List.sublist_cons_self _ _))
    have S3 := S2.hold hp3 (oc := .lst (xs ++ ys)) (o := .lst (vs ++ us)) ⟨_, upd_same, l1.append l2⟩
    have free2 : ∀ a, H2 a = none → H1 a = none := fun a h => lc_read.free1 n2 h
    have free1 : ∀ a, H1 a = none → H a = none := fun a h => lc_read.free1 n1 h
    refine ⟨n1.exB.trans n2.exB, fun x o h1 h2 => ?_, fun x h => ?_, free1 _ (free2 _ hp3), S3⟩
    · have ne : x ≠ p := ne_of_none h2 n1.new
      have k1 := n1.fr x o h1 h2
      have k2 := n2.fr x o (by simp [h1, ne]) k1
      rw [upd_ne (ne_of_none k2 hp3)]
      exact k2
    · rcases n2.nw x h with h | h
      · exact n1.nw x h
      · exact .inr (free1 _ h)⟩⟩
end
end Sd

/-! text W32 -/
set_option Elab.async false
set_option linter.all false
set_option maxRecDepth 100000
set_option maxHeartbeats 2000000
/-! W32: the law's look at one pool. -/
namespace Tx
open PySem PySem.Spec PyProof.Rows L2 Sd C8
section
variable {P : Program} {w : World} {K : Fg} {mg : Str → Option Value} {base : Heap}
theorem ok_law_right (T : Txt K mg) : Cal P w K mg base 13 "_law_right" (Pr K (fun ow ss post => ∃ pp : Addr, ow = [(pp, poolC)] ∧ ss = [.ptr pp] ∧ post (bv true) [(pp, poolC)])) [] := by
  obtain ⟨fd, F⟩ := T.f_law_right
  refine cal_of F sc_law_right (T.glo _) (bd_law_right F) (by rintro ow ss post ⟨_, _, rfl, _⟩; rfl) fun cdv A outer sh H E C D ow ss post hr hR hM Fn Fx => ?_
  obtain ⟨pp, rfl, rfl, hp⟩ := hR
  have nd := sc_law_right.nd
  have fin : ∀ {ow : Ow} {s : SV}, (pp, poolC) ∈ ow → s = bv true → ∃ ow', ow'.Sublist ow ∧ post s ow' := fun hm e => ⟨[(pp, poolC)], List.singleton_sublist.mpr hm, e ▸ hp⟩
  refine sdp_set 1 (P := fun s => ∃ L, s = .val (dPlan L) ∧ PlanOk L) (ep_pool (ok_law_plan T) hr (by decide) (ea_cons (ed_var 0) (ea_cons ed_int (ea_cons ed_int ea_nil))) (List.mem_singleton.mpr rfl) fun ss e => ⟨pp, rfl, e, fun L hL => ⟨rfl, L, rfl, hL⟩⟩) (fun s hs => ?_) nd
  obtain ⟨L, rfl, hL⟩ := hs
  have h4 := hL.n4
  refine sdp_set 2 (P := fun s => ∃ r : Nat, s = .val (dLn K (rotL L r))) (ep_callX (A := fun ss => ∃ r : Nat, ss = [.val (dPlan L), iv (r : Nat)]) (ok_law_line T) hr (by decide) (eap_cons (Pa := (· = .val (dPlan L))) (A := fun ss => ∃ r : Nat, ss = [iv (r : Nat)]) (ed_var 1) (eap_cons (ep_draw (n := 4) (ok_law_draw T) hr (by decide) (ed_var 0) ed_int (List.mem_singleton.mpr rfl) (by decide) (by decide)) ea_nil fun s ss ⟨r, e, _⟩ e2 => ⟨r, by rw [e, e2]⟩) fun s ss e ⟨r, e2⟩ => ⟨r, by rw [e, e2]⟩) fun ss ⟨r, e⟩ => ⟨(L, r), e, hL, fun s e => ⟨r, e⟩⟩) (fun s hs => ?_) nd
  obtain ⟨r, rfl⟩ := hs
  refine sdp_set 3 (ed_lc [("_law_row", 9)] (fun i ds => ∃ zs : List Str, ds = zs.map Sd.D.str ∧ zs.Sublist (((L.sts.take i).filter (·.timed)).map (·.name))) (ei_tup (ds := L.sts.map St3.sides) (ed_ixT (ed_var 1) ed_int (.tup [.tup (L.sts.map St3.sides), .tup (L.lks.map Lk4.sides), .str L.out]) (atI_nat (j := 0) rfl))) (by rw [sizeLine_eq, List.length_map]; omega) (fun q hq => by cases hq) ⟨[], rfl, List.nil_sublist _⟩ ?_ nd (blk (N := N_law_right) (sc := fnScope s_law_right) (by decide +kernel))) (fun s hs => ?_) nd
  · rintro C' le i s ds hi ⟨d, hd, rfl⟩ ⟨zs, rfl, hz⟩
    obtain ⟨x, hx, rfl⟩ := getE_map hd
    have hs := take_succ_filter (fun s : St3 => s.timed) hx
    refine ⟨[9], _, (fun r => r = true → x.timed = true), by decide, fun _ _ _ _ _ => tg_name 9 nd, fun _ _ _ _ _ => ets_one (etp_and2 (k := x.timed) (et_val (ed_ixT (s := bv x.timed) (ed_var 9) ed_int (.tup [.str x.name, oid x.hands, .bl x.timed]) (atI_nat (j := 2) rfl))) (fun h => etp_cmp (ep_draw (n := 4) (ok_law_draw T) hr (by decide) (ed_var 0) ed_int (List.mem_singleton.mpr rfl) (by decide) (by decide)) ed_int fun y z ⟨r, e1, _⟩ e2 => ⟨decide ((0 : Int) < (r : Nat)), fun _ => h, by rw [e1, e2]; exact cd_gt⟩) fun h z => nomatch z), fun _ => ?_, fun h => ⟨(· = sv x.name), fun _ _ _ _ _ => ed_ixT (ed_var 9) ed_int (.tup [.str x.name, oid x.hands, .bl x.timed]) (atI_nat (j := 0) rfl), fun r e => ?_⟩⟩
    · refine ⟨_, rfl, zs, rfl, hz.trans ?_⟩
      rw [hs, List.map_append]
      exact List.sublist_append_left _ _
    · subst e
      refine ⟨(zs ++ [x.name]).map Sd.D.str, by simp, zs ++ [x.name], rfl, ?_⟩
      rw [hs, if_pos (h rfl), List.map_append]
      exact hz.append (List.Sublist.refl _)
  obtain ⟨ds, rfl, zs, rfl, hz⟩ := hs
  rw [List.length_map, List.take_length] at hz
  have hz : zs.Sublist L.timedN := hz
  have hzt : ∀ x ∈ zs, x ∈ L.timedN := fun x hx => hz.subset hx
  have hzs : ∀ x ∈ zs, x ∈ L.names := fun x hx => Ln.timed_names (hzt x hx)
  have hzn : zs.Nodup := by
    refine List.Sublist.nodup ?_ hL.nd
    exact hz.trans (List.filter_sublist.map _)
  have hin : ExIn (rotL L r, zs) := ⟨rot_low hL r, rot_ranked hL r, hzn, fun x hx => rot_timed r (hzt x hx)⟩
  refine sd_par 4 5 (eaw_val (Pa := rMost (rotL L r, zs)) (ep_callX (ok_most_at_once T) hr (by decide) (ea_cons (ed_var 2) (ea_cons (s := .val (dSs zs)) (ep_callTy (ea_cons (ed_var 3) ea_nil) (fun ss e => by subst e; exact cl_tuple (.lst _)) (T.free _) bt_tuple) ea_nil)) fun ss e => ⟨(rotL L r, zs), e, hin, fun s h => h⟩) ?_) rfl nd (by decide)
  rintro told ⟨F1, hF1, h1⟩
  refine eaw_val (Pa := rOver (rotL L r, zs)) (ep_callX (ok_overlapping T) hr (by decide) (ea_cons (ed_var 2) (ea_cons (s := .val (dSs zs)) (ep_callTy (ea_cons (ed_var 3) ea_nil) (fun ss e => by subst e; exact cl_tuple (.lst _)) (T.free _) bt_tuple) ea_nil)) fun ss e => ⟨(rotL L r, zs), e, hin, fun s h => h⟩) ?_
  rintro shown ⟨F2, hF2, h2⟩
  refine eaw_nil ⟨_, _, rfl, ?_⟩
  have hsame := lagd_same hF1 hF2
  rcases h1 with ⟨⟨n, hn, h1⟩, rfl⟩ | ⟨ms, c, hall, hL1, rfl⟩
  · rcases h2 with ⟨_, rfl⟩ | ⟨_, _, _, _, hall, _⟩
    · refine sd_if (k := true) ((et_cmp (ed_var 4) ed_non cd_isN).to rfl) (fun _ => ?_) (fun z => by cases z)
      exact sdp_ret ⟨Fn.rt⟩ (P := (· = bv true)) (ed_cmp (ed_var 5) ed_non cd_isN) fun s e => fin (List.mem_singleton.mpr rfl) e
    · exact absurd (by rw [← hsame n hn n hn]; exact h1) (hall n hn)
  rcases h2 with ⟨⟨n, hn, h2⟩, rfl⟩ | ⟨ms2, c2, g, T2, hall2, hL2, hg, hT, hTl, rfl⟩
  · exact absurd (by rw [hsame n hn n hn]; exact h2) (hall n hn)
  have hcc : c = c2 := least_same hsame hL1 hL2
  subst hcc
  refine sd_no ((et_cmp (ed_var 4) ed_non cd_isN).to rfl) ?_
  refine sd_setM 6 (em_call (AL := fun ss => ∃ ks ns, ss = [.val (dPlan L), .val (dSp ks ns), iv 8]) (ok_law_play T) hr (by decide) ?_ fun ss ⟨ks, ns, e⟩ => ⟨[], fun s ow' => ∃ p bg en', s = .ptr p ∧ ow' = [(p, gdP P w K p (grid L.names 8) bg en')] ∧ Pl L (spOf ks ns) (grid L.names 8) bg en', List.nil_sublist _, ⟨rfl, L, ks, ns, 8, e, hL, by decide, fun p bg en' h => ⟨p, bg, en', rfl, rfl, h⟩⟩, ?_⟩) nd
  · refine eap_cons (Pa := (· = .val (dPlan L))) (A := fun ss => ∃ ks ns, ss = [.val (dSp ks ns), iv 8]) (ed_var 1) ?_ fun s ss e ⟨ks, ns, e2⟩ => ⟨ks, ns, by rw [e, e2]⟩
    refine eap_cons (Pa := fun s => ∃ ks ns, s = .val (dSp ks ns)) (A := (· = [iv 8])) ?_ (ea_cons ed_int ea_nil) fun s ss ⟨ks, ns, e⟩ e2 => ⟨ks, ns, by rw [e, e2]⟩
    exact ep_pool (ok_law_spans T) hr (by decide) (ea_cons (ed_var 0) (ea_cons (ed_var 1) (ea_cons ed_int ea_nil))) (List.mem_singleton.mpr rfl) fun ss e => ⟨pp, L, rfl, e, hL, fun ks ns _ => ⟨rfl, ks, ns, rfl⟩⟩
  rintro _ _ ⟨pg, bg, ed, rfl, rfl, hP⟩
  refine ⟨pg, _, rfl, rfl, ?_⟩
  refine sd_lock (p := pg) List.mem_cons_self fun od es _ => ⟨_, .here, ?_⟩
  have hGl : (grid L.names 8).length ≤ 1000 := by
    unfold grid
    rw [List.length_flatMap, List.map_congr_left (g := fun _ => L.names.length) fun k _ => List.length_map _, List.map_const', List.sum_replicate_nat, List.length_range, List.length_map]
    omega
  have look := fun t => first_look hL r hP hzn hzs hF1 hL1 t
  refine sd_for (fun i ow en => ∃ x7 : SV, ow = [(pg, gdF P w K pg od es (grid L.names 8) bg ed), (pp, poolC)] ∧ en = [.ptr pp, .val (dPlan L), .val (dLn K (rotL L r)), .val (.lst (zs.map Sd.D.str)), iv (c : Nat), .val (.tup (T2.map dTaskK)), .ptr pg, x7, .un, .un]) PassesOwn.never rfl
    (ei_gkeys (ed_var 6) List.mem_cons_self) ⟨.un, rfl, rfl⟩ (fun i ow en hI q hq => ?_) ?_ ?_
  · obtain ⟨x7, rfl, _⟩ := hI
    rw [List.mem_singleton.mp hq]
    exact List.mem_cons_self
  · rintro C' le i s ow en hi ⟨x7, rfl, rfl⟩ ⟨d, hd, rfl⟩
    obtain ⟨z, hz2, rfl⟩ := getE_map hd
    have hzm := List.mem_of_getElem? hz2
    have hmg : (pg, gdF P w K pg od es (grid L.names 8) bg ed) ∈ [(pg, gdF P w K pg od es (grid L.names 8) bg ed), (pp, poolC)] := List.mem_cons_self
    refine ⟨_, _, tg_name 7 nd, ?_⟩
    refine sd_no ((et_and2 (k := decide (z.1 ∈ zs)) (j := false) (et_cmp (ed_ixT (s := sv z.1) (ed_var 7) ed_int (.tup [.str z.1, .int (z.2 : Nat)]) (atI_nat (j := 0) rfl)) (ed_var 3) (cd_inS (seqS zs))) fun _ => ?_).to (by simp)) (sd_stop rfl ⟨_, rfl, rfl⟩)
    refine (et_cmp (x := iv (busyG (grid L.names 8) zs bg ed (bg z.1 z.2) : Nat)) (y := iv (c : Nat)) ?_ (ed_var 4) cd_gt).to ?_
    · refine ep_call (dd := []) (ok_law_busy T) hr (by decide) (ea_cons (ed_var 6) (ea_cons (ed_var 3) (ea_cons (s := iv (bg z.1 z.2)) ?_ ea_nil))) (fun _ => RpSL.nil) fun ss e => ⟨[(pg, gdF P w K pg od es (grid L.names 8) bg ed)], fun s ow' => ow' = [(pg, gdF P w K pg od es (grid L.names 8) bg ed)] ∧ s = iv (busyG (grid L.names 8) zs bg ed (bg z.1 z.2) : Nat), by simp, ⟨pg, od, es, grid L.names 8, bg, ed, zs, bg z.1 z.2, rfl, by rw [e]; rfl, hGl, rfl, rfl⟩, fun s ow' h => h⟩
      exact ed_ixT (ed_gget (z := dBE bg ed z) (hu9_of hr) (ed_var 6) (ed_var 7) (.lck od es hmg) (dTask_ok z).1 (dTask_ok z).2 (gAt_task hzm)) ed_int (.tup [.int (bg z.1 z.2), .int (ed z.1 z.2)]) (atI_nat (j := 0) rfl)
    · have := look (bg z.1 z.2)
      exact decide_eq_false (by omega)
  · rintro ow en ⟨x7, rfl, rfl⟩
    have hTn := shown_nodup hzn hL2 hT
    have hTz := shown_names hL2 hT
    have hTc : T2.length = c := by rw [hT.length_eq]; exact apart_cost hzn hF2 hL2 hg
    have atK : ∀ {ow : Ow} (z : Str × Nat), TupOf ow (.val (dTaskK z)) [sv z.1, iv (z.2 : Nat)] := fun z => .key (kT z.1 z.2)
    refine sdp_set 8 (P := fun s => ∃ m, s = iv m ∧ m ∈ (1 :: T2.map fun z => ((z.2 : Nat) : Int)) ∧ ∀ y ∈ (1 :: T2.map fun z => ((z.2 : Nat) : Int)), y ≤ m) (ep_callB (A := (· = [.val (.lst ((1 :: T2.map fun z => ((z.2 : Nat) : Int)).map Sd.D.int))])) (ea_cons (ed_ofN ?_) ea_nil) (fun ss e => by subst e; exact cl_max (lstI _) (by simp) rfl) (T.free _) bb_max) (fun s hs => ?_) nd
    · have e0 : ((1 :: T2.map fun z => ((z.2 : Nat) : Int)).map Sd.D.int).map SV.val = [iv 1] ++ T2.map fun z => iv (z.2 : Nat) := by simp
      rw [e0]
      refine en_catN (en_lst (ea_cons ed_int ea_nil)) (fun p => ?_) (by rw [sizeLine_eq]; simp; omega)
      refine (en_lc [("_law_task", 7)] (fun i acc => acc = (T2.take i).map fun z => iv (z.2 : Nat)) (ei_tup (ds := T2.map dTaskK) (ed_var 5)) (by rw [sizeLine_eq, List.length_map]; omega) (fun q hq => by cases hq) rfl ?_ nd (blk (N := N_law_right) (sc := fnScope s_law_right) (by decide +kernel))).is fun oc ⟨acc, e, e2⟩ => by rw [e, e2, List.length_map, List.take_length]
      rintro C' le i s acc hi ⟨d, hd, rfl⟩ rfl
      obtain ⟨z, hz2, rfl⟩ := getE_map hd
      refine ⟨[7], _, (· = true), by decide, fun _ _ _ _ _ => tg_name 7 nd, fun _ _ _ _ _ => ets_nil, fun h => (by cases h), fun _ => ⟨(· = iv (z.2 : Nat)), fun _ _ _ _ _ => ed_ixT (ed_var 7) ed_int (atK z) (atI_nat (j := 1) rfl), fun r e => ?_⟩⟩
      subst e
      rw [take_succ_map hz2]
    obtain ⟨m', rfl, hm1, hm2⟩ := hs
    obtain ⟨m, rfl⟩ : ∃ m : Nat, m' = (m : Nat) := by
      rcases List.mem_cons.mp hm1 with h | h
      · exact ⟨1, h⟩
      · obtain ⟨z, _, h⟩ := List.mem_map.mp h
        exact ⟨z.2, h.symm⟩
    have hmT : ∀ z ∈ T2, z.2 ≤ m := fun z hz => by
      have := hm2 _ (List.mem_cons_of_mem _ (List.mem_map.mpr ⟨z, hz, rfl⟩))
      omega
    refine sd_if (k := decide ((40 : Int) < (m : Nat))) (et_cmp (ed_var 8) ed_int cd_gt) (fun _ => ?_) fun hk => sd_back rfl ?_
    · exact sdp_ret ⟨Fn.rt⟩ (P := (· = bv true)) (EvD.is (ed_cmp (x := iv (c : Nat)) (EvD.is (ep_callB (ea_cons (ed_var 5) ea_nil) (fun ss e => e ▸ cl_len (.tup (T2.map dTaskK))) (T.free _) bb_len) (by rw [List.length_map, List.length_map, hTc])) (ed_var 4) cd_eqI) (by simp)) fun s e => fin (List.mem_cons_of_mem _ List.mem_cons_self) e
    have hk := of_decide_eq_false hk
    have hkn : (T2.map fun t => kT t.1 t.2).Nodup := List.Pairwise.map _ (fun a b (hab : a ≠ b) e => hab (by
      obtain ⟨h1, h2⟩ := kT_inj e
      cases a
      cases b
      simp only at h1 h2
      rw [h1, h2])) hTn
    refine sd_setM 6 (em_call (AL := (· = [.val (dPlan L), .val (dSp (T2.map fun t => kT t.1 t.2) (T2.map fun _ => 1)), iv (m : Nat)])) (ok_law_play T) hr (by decide) ?_ fun ss e => ⟨[], fun s ow' => ∃ p bg en', s = .ptr p ∧ ow' = [(p, gdP P w K p (grid L.names m) bg en')] ∧ Pl L (spOf (T2.map fun t => kT t.1 t.2) (T2.map fun _ => 1)) (grid L.names m) bg en', List.nil_sublist _, ⟨rfl, L, _, _, m, e, hL, by omega, fun p bg en' h => ⟨p, bg, en', rfl, rfl, h⟩⟩, ?_⟩) nd
    · refine ea_cons (ed_var 1) (ea_cons ?_ (ea_cons (ed_var 8) ea_nil))
      refine ep_ofN (en_callTy (A2 := (· = .dT (T2.map fun t => kT t.1 t.2) ((T2.map fun t => kT t.1 t.2).map fun _ => iv 1))) (ea_cons (s := .val (.lst ((T2.map fun t => kT t.1 t.2).map fun k => Sd.D.tup [.key k, .int 1]))) (ed_ofN ?_) ea_nil) (fun ss e => by subst e; exact cn_dictP (.lst _) hkn (hu9_of hr) rfl) (T.free _) bt_dict) fun oc e => ⟨dSp (T2.map fun t => kT t.1 t.2) (T2.map fun _ => 1), ?_, rfl⟩
      · refine (en_lc [("_law_task", 7)] (fun i acc => acc = (((T2.take i).map fun t => kT t.1 t.2).map fun k => Sd.D.tup [.key k, .int 1]).map SV.val) (ei_tup (ds := T2.map dTaskK) (ed_var 5)) (by rw [sizeLine_eq, List.length_map]; omega) (fun q hq => by cases hq) rfl ?_ nd (blk (N := N_law_right) (sc := fnScope s_law_right) (by decide +kernel))).is fun oc ⟨acc, e, e2⟩ => by rw [e, e2, List.length_map, List.take_length]
        rintro C' le i s acc hi ⟨d, hd, rfl⟩ rfl
        obtain ⟨z, hz2, rfl⟩ := getE_map hd
        refine ⟨[7], _, (· = true), by decide, fun _ _ _ _ _ => tg_name 7 nd, fun _ _ _ _ _ => ets_nil, fun h => (by cases h), fun _ => ⟨(· = .val (.tup [.key (kT z.1 z.2), .int 1])), fun _ _ _ _ _ => ed_tup (ds := [.key (kT z.1 z.2), .int 1]) (ea_cons (ed_var 7) (ea_cons ed_int ea_nil)), fun r e => ?_⟩⟩
        subst e
        rw [take_succ_map hz2]
        simp
      · have e0 : ((T2.map fun t => kT t.1 t.2).map fun _ => iv 1) = ((T2.map fun _ => (1 : Nat)).map fun n => Sd.D.int ((n : Nat) : Int)).map SV.val := by
          rw [List.map_map, List.map_map, List.map_map]
          rfl
        rw [e, e0]
        exact .dT _ _
    rintro _ _ ⟨p2, bg2, ed2, rfl, rfl, hP2⟩
    refine ⟨p2, _, rfl, rfl, ?_⟩
    refine sd_lock (p := p2) List.mem_cons_self fun od2 es2 _ => ⟨_, .here, ?_⟩
    have hlook := second_look hL r hP2 hzn hzt hF2 hL2 hg hT (sp_shown T2) hmT
    have hGl2 : (grid L.names m).length ≤ 1000 := by
      unfold grid
      rw [List.length_flatMap, List.map_congr_left (g := fun _ => L.names.length) fun k _ => List.length_map _, List.map_const', List.sum_replicate_nat, List.length_range, List.length_map]
      have : m * L.sts.length ≤ 40 * 4 := Nat.mul_le_mul (by omega) (by omega)
      omega
    refine sdp_ret Fn (P := (· = bv true)) (EvD.is (ed_and2 (k := true) (j := true) ?_ fun _ => ?_) rfl) fun s e => fin (by simp) e
    · refine EvD.is (ed_cmp (x := iv (c : Nat)) ?_ (ed_var 4) cd_eqI) (by simp)
      refine EvP.imp (ep_call (dd := []) (P := fun s => s = iv (busyG (grid L.names m) zs bg2 ed2 0 : Nat)) (ok_law_busy T) hr (by decide) (ea_cons (ed_var 6) (ea_cons (ed_var 3) (ea_cons ed_int ea_nil))) (fun _ => RpSL.nil) fun ss e => ⟨[(p2, gdF P w K p2 od2 es2 (grid L.names m) bg2 ed2)], fun s ow' => ow' = [(p2, gdF P w K p2 od2 es2 (grid L.names m) bg2 ed2)] ∧ s = iv (busyG (grid L.names m) zs bg2 ed2 0 : Nat), List.singleton_sublist.mpr List.mem_cons_self, ⟨p2, od2, es2, grid L.names m, bg2, ed2, zs, 0, rfl, by rw [e]; rfl, hGl2, rfl, rfl⟩, fun s ow' h => h⟩) fun s e => by rw [e, hlook]
    · refine EvD.is (ed_cmp (x := .val (.lst [])) (y := .val (.lst [])) ?_ (ed_ofN (ds := []) (en_lst ea_nil)) (cd_eqLB hr.units (lstB []) (lstB []))) rfl
      refine EvP.imp (ed_lc [("_law_task", 7)] (fun i ds => ds = []) (ei_tup (ds := T2.map dTaskK) (ed_var 5)) (by rw [sizeLine_eq, List.length_map]; omega) (fun q hq => by cases hq) rfl ?_ nd (blk (N := N_law_right) (sc := fnScope s_law_right) (by decide +kernel))) fun s ⟨ds, e, e2⟩ => by rw [e, e2]
      rintro C' le i s ds hi ⟨d, hd, rfl⟩ rfl
      obtain ⟨z, hz2, rfl⟩ := getE_map hd
      have hzz := (hTz z (List.mem_of_getElem? hz2)).1
      exact ⟨[7], _, (· = false), by decide, fun _ _ _ _ _ => tg_name 7 nd, fun _ _ _ _ _ => ets_one ((et_cmp (ed_ixT (s := sv z.1) (ed_var 7) ed_int (atK z) (atI_nat (j := 0) rfl)) (ed_var 3) (cd_notInS (seqS zs))).to (by simp [hzz])), fun _ => ⟨_, rfl, rfl⟩, fun h => nomatch h⟩
end
end Tx

/-! text W33 -/
set_option Elab.async false
set_option linter.all false
set_option maxRecDepth 100000
set_option maxHeartbeats 2000000
/-! W33: the law. -/
namespace Tx
open PySem PySem.Spec PyProof.Rows L2 Sd C8
section
variable {P : Program} {w : World} {K : Fg} {mg : Str → Option Value} {base : Heap}
abbrev rLaw : Rel := FX (fun ns : List Int => [.val (dIs ns)]) (fun ns => ns.length ≤ 63) (fun _ s => s = bv true)
theorem law_fn (T : Txt K mg) {fd : FuncData} (F : FunD K d_law.name d_law.qual (fnArgs s_law) (fnBody s_law) (fnScope s_law) (d_law.dvs K) (d_law.kws K) (d_law.at_ K) fd) : FnOk P w K mg base L2.CX0 14 (d_law.at_ K) fd p_law (Pr K rLaw) := by
  refine fn_pr F sc_law (by rintro ow ss post ⟨_, L, rfl, _⟩; rfl) fun cdv A outer sh H E C D ow ss post hr hR hM Fn Fx => ?_
  obtain ⟨rfl, ns, rfl, hl, hp⟩ := hR
  have nd := sc_law.nd
  refine sd_for (fun i ow en => ∃ x1 : SV, ow = [] ∧ en = [.val (dIs ns), x1]) PassesOwn.never rfl
    (ei_range1 (j := (if (if (3 : Int) < (ns.length : Nat) then (3 : Int) else (ns.length : Nat)) > 2 then (if (3 : Int) < (ns.length : Nat) then (3 : Int) else (ns.length : Nat)) else 2)) (A := fun _ => True) (ep_callB (ea_cons ed_int (ea_cons (ep_callB (ea_cons (EvD.is (s' := iv (ns.length : Nat)) (ep_callB (ea_cons (ed_var 0) ea_nil) (fun ss e => e ▸ cl_len (.lst (ns.map Sd.D.int))) (T.free _) bb_len) (by rw [List.length_map, List.length_map])) (ea_cons ed_int ea_nil)) (fun ss e => e ▸ cl_min2 rfl) (T.free _) bb_min) ea_nil)) (fun ss e => e ▸ cl_max2 rfl) (T.free _) bb_max) (by split <;> split <;> omega) (T.free _)) ⟨.un, rfl, rfl⟩ (fun _ _ _ _ q hq => by cases hq) ?_ ?_
  · rintro C' le i s ow en hi ⟨x1, rfl, rfl⟩ e
    rw [Int.zero_add] at e
    subst e
    have hi : i < 3 := by
      split at hi <;> split at hi <;> omega
    refine ⟨_, _, tg_name 1 nd, ?_⟩
    refine sd_no ((et_not (et_val (k := true) ?_)).to rfl) (sd_stop rfl ⟨_, rfl, rfl⟩)
    refine ep_callW (dd := []) (ok_law_right T) hr (by decide) (fun _ => RpSL.nil) (eaw_new (A := (· = poolC)) (en_call (dd := []) (AL := fun ss => ∃ i, ss = [iv i]) (ok_law_pool T) hr (by decide) (eap_cons (Pa := fun s => ∃ i, s = iv i) (ep_callX (ok_law_cell T) hr (by decide) (ea_cons (ed_var 0) (ea_cons (ed_var 1) ea_nil)) fun ss e => ⟨(ns, i), e, ⟨hl, by show i ≤ 62; omega⟩, fun s h => h⟩) ea_nil fun s ss ⟨i, e⟩ e2 => ⟨i, by rw [e, e2]⟩) (fun _ => RpSL.nil) fun ss ⟨i, e⟩ => ⟨[], fun s ow' => ∃ p, s = .ptr p ∧ ow' = [(p, poolC)], List.nil_sublist _, ⟨rfl, i, by rw [e]; rfl, fun p => ⟨p, rfl, rfl⟩⟩, fun s ow' ⟨p, e1, e2⟩ => ⟨p, poolC, e1, e2, rfl⟩⟩) fun p oc e => eaw_nil ⟨[(p, poolC)], fun s ow' => ow' = [(p, poolC)] ∧ s = bv true, ?_, ⟨p, rfl, rfl, rfl, rfl⟩, fun s ow' h => h⟩)
    rw [e]
    exact List.Sublist.refl _
  · rintro ow en ⟨x1, rfl, rfl⟩
    exact sd_ret Fn ed_bl (List.Sublist.refl _) (hp _ rfl)
/-- the law's promise, called with a script -/
theorem law_said {K : Fg} {H : Hp} {a : Addr} {ns : List Int} (hl : ns.length ≤ 63) (hS : SqL K H a (ns.map V.int)) : Pr K rLaw [.ref a] H (fun v _ => v = .bl true) fun _ _ _ => False := by
  refine ⟨H, [], [.val (dIs ns)], fun s ow' => s = bv true, Ex.refl _, .nil, (fun q hq => nomatch hq), RpSL.cons ?_ RpSL.nil, ⟨rfl, ns, rfl, hl, fun s e => e⟩, ⟨fun v s ow' B' H' e _ _ _ _ _ _ _ rv => ?_⟩⟩
  · simp only [RpS, Rp]
    refine ⟨a, _, rfl, hS, ?_⟩
    clear hS hl
    induction ns with
    | nil => exact RpL.nil
    | cons n ns ih => exact RpL.cons (by simp only [Rp]) ih
  · have e : s = bv true := e
    rw [e] at rv
    exact rs_bl.mp rv
end
end Tx

/-! text Fin -/
set_option Elab.async false
set_option linter.all false
set_option maxRecDepth 100000
set_option maxHeartbeats 0
/-! the law holds -/
open PySem PySem.W PySem.Calls PyProof.Rows
theorem PySem.Challenge.cw_owntimes_k50_whole_none_more_for_any_tim_holds : PySem.Challenge.rw_owntimes_k50_whole_none_more_for_any_tim.Holds := by
  w_on; o_law
  refine HandSHeadRun.head_any (r := Hd.R) (q := Hd.qv) (H := Hd.hk) (ob := Hd.ob) (M := 30000) (loose := Hd.names) (d := HandSHeadRun.topDef Hd.R.prog 110) (kwd := []) Hd.ob_eq
    (by kernel_rfl) (fun s => by kernel_rfl) Hd.run (by kernel_rfl) (by kernel_rfl) (by kernel_rfl) (by rfl) (by first | assumption | decide +kernel) (by decide +kernel) ⟨rfl, rfl, rfl, rfl, rfl, by decide +kernel⟩ ?hw ?hc
  case hw => w_witness2
  case hc =>
    refine L2.walk_ofE (l := PySem.Challenge.rw_owntimes_k50_whole_none_more_for_any_tim) (n := 63) (k := 14) (x := "_law_cells") (CX := L2.CX0) rfl (by decide) (by kernel_rfl) ⟨rfl, by decide, by decide⟩ ?F (fun _ _ _ _ z => z)
    intro w mg fa h Y G hmg0
    obtain ⟨K, KX, c⟩ := Y
    have hmg : mg ("law" : PySem.Str) = some (.ref fa) := by
      have e : (HandSHeadRun.topDef Hd.R.prog 110).name = ("law" : PySem.Str) := by kernel_rfl
      rw [← e]
      exact hmg0
    have T : Tx.Txt K mg := ⟨c, h, KX, G⟩
    obtain ⟨fd, F⟩ := T.f_law
    have e2 : fa = Tx.d_law.at_ K := by
      have := hmg.symm.trans (T.glo "law")
      cases this
      rfl
    subst e2
    have b := L2.FunD.bindsA (ps := ["_law_cells"]) F fun _ _ _ _ _ _ us hl => match us, hl with | [_], _ => rfl
    exact ⟨K, fd, Sd.Pr K Tx.rLaw, KX, fun s u => b s [u] rfl, fun H a ns hl _ hS => Tx.law_said hl hS, fun base _ _ => Tx.law_fn T F⟩

