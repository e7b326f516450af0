import PyProof.Rows.All
import Wide.All
import OpenK.AllK
import Wide.FinOn
import KE.KStateDown
import HandS.ForMost
import HandS.Property
import HandS.Defaults
import HandS.IsInst
import HandS.Head0
import HandS.Head1
import HandS.Head2
import HandS.HeadEnd
import HandS.HeadHook1
import HandS.HeadHook2
import HandS.NoneIn
import HandS.EndBits
import KE.GoesMore
import HandS.Walk
import HandS.Flow
import HandS.Style
import HandS.MakeKwOnly
import HandS.Star
import HandS.Dict
import HandS.DictComp
import KE.LtData
import KE.SortData
import KE.KeyNested
import KE.KDictKeyed
import PySem.Challenge.RW_owntimes_k32_whole_least_cases_by_trying
set_option Elab.async false
set_option linter.all false
set_option maxRecDepth 100000
set_option maxHeartbeats 4000000
set_option maxHeartbeats 0
namespace Ow
open PySem PySem.Spec PyProof.Rows L2 He
/-! ### what the top has written, by names: defs at any address, and any tests of the written part -/
structure DM where
  adr : PySem.W.Frag → Addr
  name : Str
  qual : Str
  params : Arguments
  body : List Stmt
  scope : Scope
  dfl : List Dv := []
  kwd : List (Str × Dv) := []
def fnA (K : PySem.W.Frag) (a : Addr) : FnW := match K.lookup a with
  | some ⟨_, _, .func fd, _⟩ => some (fd.name, fd.qualname, fd.params, fd.body, fd.scope, fd.globals, fd.closure, fd.builtins)
  | _ => Option.none
def DM.val (d : DM) : FnW := some (d.name, d.qual, d.params, .stmts d.body, d.scope, mainGlobals, [], builtinsNs)
def DM.dvs (K : PySem.W.Frag) (d : DM) : List V := d.dfl.map (Dv.v K)
def DM.kws (K : PySem.W.Frag) (d : DM) : List (Str × V) := d.kwd.map fun q => (q.1, q.2.v K)
def DM.good (K : PySem.W.Frag) (d : DM) : Bool := match K.lookup (d.adr K) with
  | some ⟨_, _, .func fd, _⟩ => PySem.W.keepIn K (.ref (d.adr K)) && (PySem.W.codeIn K fd.code d.qual && (dflB K fd.defaults (d.dvs K) && kwdB K fd.kwdefaults (d.kws K)))
  | _ => false
theorem DM.fun_of {K : PySem.W.Frag} {d : DM} (e : fnA K (d.adr K) = d.val) (c : d.good K = true) : ∃ fd, FunD K d.name d.qual d.params d.body d.scope (d.dvs K) (d.kws K) (d.adr K) fd := by
  unfold DM.good at c
  unfold fnA at e
  cases q : K.lookup (d.adr K) with
  | none => rw [q] at c; cases c
  | some o =>
    obtain ⟨oc, od, dt, osl⟩ := o
    rw [q] at c e
    cases dt with
    | func fd =>
      obtain ⟨n1, n2, n3, n4, n5, n6, n7, n8, n9, n10, n11, n12, n13, n14, n15⟩ := fd
      have e2 : (some (n1, n2, n3, n4, n5, n6, n7, n15) : FnW) = some (d.name, d.qual, d.params, .stmts d.body, d.scope, mainGlobals, [], builtinsNs) := e
      simp only [Option.some.injEq, Prod.mk.injEq] at e2
      obtain ⟨h1, h2, h3, h4, h5, h6, h7, h8⟩ := e2
      subst h1 h2 h3 h4 h5 h6 h7 h8
      have c3 : (PySem.W.keepIn K (.ref (d.adr K)) && (PySem.W.codeIn K n13 d.qual && (dflB K n8 (d.dvs K) && kwdB K n9 (d.kws K)))) = true := c
      obtain ⟨k0, k1⟩ := ba c3
      obtain ⟨k2, k3⟩ := ba k1
      obtain ⟨k4, k5⟩ := ba k3
      exact ⟨_, ⟨oc, od, n8, n9, n10, n11, n12, n13, n14, osl, rfl, q, k2, dflB_ok k4, kwdB_ok k5⟩, k0⟩
    | _ => cases c
abbrev Tst := PySem.W.Frag → Bool
abbrev AlM : Type := Bool × List FnW
def obsM (cs : List Tst) (ds : List DM) (K : PySem.W.Frag) : AlM := (cs.all (fun c => c K) && ds.all (fun d => d.good K), ds.map fun d => fnA K (d.adr K))
def valM (ds : List DM) : AlM := (true, ds.map DM.val)
def obsMG (as : List Addr) (cs : List Tst) (ds : List DM) (g : Addr → Option Obj) : AlM := obsM cs ds (frG g as)
def hookM (as : List Addr) (cs : List Tst) (ds : List DM) : PySem.W.Hook where
  α := AlM
  obs := fun s => obsMG as cs ds s.heap.get?
  val := fun _ => valM ds
  says := fun _ h => ∃ K : PySem.W.Frag, K.In h ∧ obsM cs ds K = valM ds
  of := fun _ _ e => ⟨_, frG_in, e⟩
  keeps := fun _ _ _ ⟨K, hK, c⟩ k => ⟨K, PySem.W.Frag.In.keeps hK k, c⟩
theorem obsMG_eq {as : List Addr} {cs : List Tst} {ds : List DM} {g : Addr → Option Obj} {s : Shared} (h : ∀ a, g a = s.heap.get? a) : obsMG as cs ds g = (hookM as cs ds).obs s := by
  have e : g = s.heap.get? := funext h
  rw [e]; rfl
theorem saysM_test {cs : List Tst} {ds : List DM} {K : PySem.W.Frag} (c : obsM cs ds K = valM ds) {t : Tst} (i : Nat) (h : cs[i]? = some t) : t K = true := by
  have c1 := (ba (show (cs.all (fun c => c K) && ds.all (fun d => d.good K)) = true from congrArg (fun z : AlM => z.1) c)).1
  exact List.all_eq_true.mp c1 t (List.mem_of_getElem? h)
theorem saysM_def {cs : List Tst} {ds : List DM} {K : PySem.W.Frag} (c : obsM cs ds K = valM ds) {d : DM} (i : Nat) (h : ds[i]? = some d) : ∃ fd, FunD K d.name d.qual d.params d.body d.scope (d.dvs K) (d.kws K) (d.adr K) fd := by
  have c2 := (ba (show (cs.all (fun c => c K) && ds.all (fun d => d.good K)) = true from congrArg (fun z : AlM => z.1) c)).2
  have e : ds.map (fun d => fnA K (d.adr K)) = ds.map DM.val := congrArg (fun z : AlM => z.2) c
  have e2 : (ds.map fun d => fnA K (d.adr K))[i]? = (ds.map DM.val)[i]? := by rw [e]
  rw [List.getElem?_map, List.getElem?_map, h] at e2
  exact DM.fun_of (Option.some.inj e2) (List.all_eq_true.mp c2 d (List.mem_of_getElem? h))
/-! tests -/
/-- a property of a class: its object, its getter -/
def prG (K : PySem.W.Frag) (C f : Str) : Addr := match PySem.W.recIn K (ma K (ga K C) f) "property" with
  | some (.ref g :: _) => g
  | _ => 0
def prB (C f : Str) : Tst := fun K => eqO (PySem.W.findIn K (.ref (ga K C)) f) (some (some (.ref (ma K (ga K C) f)))) && (eqO (PySem.W.specialIn K (.ref (ma K (ga K C) f)) "__get__") (some (some (.builtin "property.__get__"))) &&
  (decide (PySem.W.takesIn K (.ref (ma K (ga K C) f)) = some true) && (match PySem.W.recIn K (ma K (ga K C) f) "property" with
    | some (.ref _ :: _) => true
    | _ => false)))
theorem prB_ok {K : PySem.W.Frag} {C f : Str} (h : prB C f K = true) : PropOf K (ga K C) f (ma K (ga K C) f) (prG K C f) := by
  obtain ⟨h1, h⟩ := ba h
  obtain ⟨h2, h⟩ := ba h
  obtain ⟨h3, h4⟩ := ba h
  refine ⟨eqO_ok h1, eqO_ok h2, of_decide_eq_true h3, ?_⟩
  unfold prG
  cases e : PySem.W.recIn K (ma K (ga K C) f) "property" with
  | none => rw [e] at h4; cases h4
  | some l =>
    rw [e] at h4
    cases l with
    | nil => cases h4
    | cons v r =>
      cases v with
      | ref g => exact ⟨r, rfl⟩
      | _ => cases h4
/-- an instance of this class has it for its class -/
def icB (C : Str) : Tst := fun K => eqO (PySem.W.findIn K (.ref (ga K C)) "__class__") (some (some (.builtin "object.__class__"))) && (eqO (PySem.W.specialIn K (.builtin "object.__class__") "__get__") (some (some (.builtin "getset_descriptor.__get__"))) &&
  (decide (PySem.W.takesIn K (.builtin "object.__class__") = some true) && decide (PySem.W.mroIn K (ga K C) (.type "object") = some true)))
/-- two places of the text are one -/
def sameB (a b : PySem.W.Frag → Addr) : Tst := fun K => decide (a K = b K)
/-- an empty tuple of the text -/
def tup0B (a : PySem.W.Frag → Addr) : Tst := fun K => match K.lookup (a K) with
  | some ⟨.type c, _, .seq its _, _⟩ => decide (c = "tuple") && decide (its.size = 0)
  | _ => false
theorem tup0B_ok {K : PySem.W.Frag} {a : PySem.W.Frag → Addr} (h : tup0B a K = true) (H : Hp) : SqT K H (a K) [] := by
  unfold tup0B at h
  cases q : K.lookup (a K) with
  | none => rw [q] at h; cases h
  | some o =>
    obtain ⟨oc, od, dt, osl⟩ := o
    rw [q] at h
    cases oc with
    | type c =>
      cases dt with
      | seq its n =>
        obtain ⟨h1, h2⟩ := ba h
        have e2 := of_decide_eq_true h2
        refine .inr ⟨_, its, n, q, congrArg Value.type (of_decide_eq_true h1), rfl, by omega, ?_⟩
        have e3 : its.toList = [] := List.length_eq_zero_iff.mp (by simpa using e2)
        rw [e3]
        exact .nil
      | _ => cases h
    | _ => cases dt <;> cases h
/-- the i-th default of the def at an address -/
def dfA (f : PySem.W.Frag → Addr) (i : Nat) (K : PySem.W.Frag) : Addr := match K.lookup (f K) with
  | some ⟨_, _, .func fd, _⟩ => (match fd.defaults with
    | .ref T => (match K.lookup T with
      | some ⟨_, _, .seq its _, _⟩ => (match its.toList[i]? with
        | some (.ref a) => a
        | _ => 0)
      | _ => 0)
    | _ => 0)
  | _ => 0
end Ow
namespace Ow
open PySem PySem.Spec PyProof.Rows L2 He
/-! ### the text by places -/
def top (i : Nat) : Stmt := PySem.Challenge.pw_owntimes_k32_whole_least_cases_by_trying.main.body.getD i (.Pass ⟨0, 0, 0, 0⟩)
abbrev s_is_integer : Stmt := top 30
abbrev s_is_name : Stmt := top 31
abbrev s_check_numbers : Stmt := top 37
abbrev s_least_period : Stmt := top 38
abbrev s_least_form : Stmt := top 39
abbrev s_flags_of : Stmt := top 40
abbrev s_flag_at : Stmt := top 41
abbrev s_lags_with : Stmt := top 49
abbrev s_common_multiple : Stmt := top 51
abbrev s_both_ends : Stmt := top 52
abbrev s_form_left : Stmt := top 53
abbrev s_lags_of : Stmt := top 57
abbrev s_left_of : Stmt := top 58
abbrev s_check_name : Stmt := top 60
abbrev s_check_flag : Stmt := top 61
abbrev s_check_stations : Stmt := top 64
abbrev s_check_links : Stmt := top 65
abbrev s_check_line : Stmt := top 75
abbrev s_ends_of : Stmt := top 77
abbrev s_rings_from : Stmt := top 78
abbrev s_rings : Stmt := top 79
abbrev s_stuck : Stmt := top 80
abbrev s_check_free : Stmt := top 81
abbrev s_width_of : Stmt := top 83
abbrev s_entries_of : Stmt := top 84
abbrev s_is_begun : Stmt := top 85
abbrev s_next_row : Stmt := top 86
abbrev s_walked : Stmt := top 88
abbrev s_check_pair : Stmt := top 92
abbrev s_check_whole : Stmt := top 93
abbrev s_ordered : Stmt := top 94
abbrev s_rank_of : Stmt := top 95
abbrev s_bad_lags : Stmt := top 96
abbrev s_single_cases : Stmt := top 97
abbrev s_pair_cases : Stmt := top 98
abbrev s_least_case : Stmt := top 99
abbrev s_later_case : Stmt := top 100
abbrev s_law_purl : Stmt := top 102
abbrev s_law_dig : Stmt := top 103
abbrev s_law_words : Stmt := top 104
abbrev s_law_tie : Stmt := top 105
abbrev s_law_post : Stmt := top 106
abbrev s_law_chained : Stmt := top 107
abbrev s_law_plan : Stmt := top 108
abbrev s_law_swapped : Stmt := top 109
abbrev s_law_kin : Stmt := top 110
abbrev s_law_line : Stmt := top 111
abbrev s_law_onset : Stmt := top 112
abbrev s_law_settled : Stmt := top 113
abbrev s_law_played : Stmt := top 114
abbrev s_law_ended : Stmt := top 115
abbrev s_law_ranked : Stmt := top 116
abbrev s_law_later : Stmt := top 117
abbrev s_law_first : Stmt := top 118
abbrev s_law_fits : Stmt := top 119
abbrev s_law_right : Stmt := top 120
abbrev s_law : Stmt := top 121
abbrev s_Lags_init : Stmt := inClass (top 46) 0
abbrev s_Lags_contains : Stmt := inClass (top 46) 7
abbrev s_FormedLags_init : Stmt := inClass (top 48) 0
abbrev s_Station_init : Stmt := inClass (top 62) 0
abbrev s_Link_init : Stmt := inClass (top 63) 0
abbrev s_Line_init : Stmt := inClass (top 71) 0
abbrev s_Line_len : Stmt := inClass (top 71) 7
abbrev s_Walk_init : Stmt := inClass (top 87) 0
abbrev s_Walk_lags_at : Stmt := inClass (top 87) 1
abbrev s_Walk_ends : Stmt := inClass (top 87) 2
abbrev s_Walk_begins : Stmt := inClass (top 87) 3
abbrev s_Orders_init : Stmt := inClass (top 90) 0
abbrev s_Orders_to_outlet : Stmt := inClass (top 90) 1
abbrev s_Orders_between : Stmt := inClass (top 90) 2
abbrev s_Lags_members : Stmt := inClass (top 46) 4
abbrev s_Lags_first : Stmt := inClass (top 46) 5
abbrev s_Station_name : Stmt := inClass (top 62) 1
abbrev s_Station_hands : Stmt := inClass (top 62) 2
abbrev s_Station_timed : Stmt := inClass (top 62) 3
abbrev s_Link_source : Stmt := inClass (top 63) 1
abbrev s_Link_target : Stmt := inClass (top 63) 2
abbrev s_Link_stock : Stmt := inClass (top 63) 3
abbrev s_Link_early : Stmt := inClass (top 63) 4
abbrev s_Line_stations : Stmt := inClass (top 71) 2
abbrev s_Line_links : Stmt := inClass (top 71) 3
abbrev s_Line_outlet : Stmt := inClass (top 71) 4
abbrev s_Line_names : Stmt := inClass (top 71) 5
abbrev s_Line_timed : Stmt := inClass (top 71) 6
def lags_t0 : PySem.W.Frag → Addr := dfA (fun K => ma K (ga K "Lags") "__init__") 0
def lags_t1 : PySem.W.Frag → Addr := dfA (fun K => ma K (ga K "Lags") "__init__") 1
def dm_is_integer : DM := ⟨fun K => ga K "is_integer", "is_integer", "is_integer", defArgs s_is_integer, defBody s_is_integer, defScope s_is_integer, [], []⟩
def dm_is_name : DM := ⟨fun K => ga K "is_name", "is_name", "is_name", defArgs s_is_name, defBody s_is_name, defScope s_is_name, [], []⟩
def dm_check_numbers : DM := ⟨fun K => ga K "check_numbers", "check_numbers", "check_numbers", defArgs s_check_numbers, defBody s_check_numbers, defScope s_check_numbers, [], []⟩
def dm_least_period : DM := ⟨fun K => ga K "least_period", "least_period", "least_period", defArgs s_least_period, defBody s_least_period, defScope s_least_period, [], []⟩
def dm_least_form : DM := ⟨fun K => ga K "least_form", "least_form", "least_form", defArgs s_least_form, defBody s_least_form, defScope s_least_form, [], []⟩
def dm_flags_of : DM := ⟨fun K => ga K "flags_of", "flags_of", "flags_of", defArgs s_flags_of, defBody s_flags_of, defScope s_flags_of, [], []⟩
def dm_flag_at : DM := ⟨fun K => ga K "flag_at", "flag_at", "flag_at", defArgs s_flag_at, defBody s_flag_at, defScope s_flag_at, [], []⟩
def dm_lags_with : DM := ⟨fun K => ga K "lags_with", "lags_with", "lags_with", defArgs s_lags_with, defBody s_lags_with, defScope s_lags_with, [], []⟩
def dm_common_multiple : DM := ⟨fun K => ga K "common_multiple", "common_multiple", "common_multiple", defArgs s_common_multiple, defBody s_common_multiple, defScope s_common_multiple, [], []⟩
def dm_both_ends : DM := ⟨fun K => ga K "both_ends", "both_ends", "both_ends", defArgs s_both_ends, defBody s_both_ends, defScope s_both_ends, [], []⟩
def dm_form_left : DM := ⟨fun K => ga K "form_left", "form_left", "form_left", defArgs s_form_left, defBody s_form_left, defScope s_form_left, [], []⟩
def dm_lags_of : DM := ⟨fun K => ga K "lags_of", "lags_of", "lags_of", defArgs s_lags_of, defBody s_lags_of, defScope s_lags_of, [], []⟩
def dm_left_of : DM := ⟨fun K => ga K "left_of", "left_of", "left_of", defArgs s_left_of, defBody s_left_of, defScope s_left_of, [], []⟩
def dm_check_name : DM := ⟨fun K => ga K "check_name", "check_name", "check_name", defArgs s_check_name, defBody s_check_name, defScope s_check_name, [], []⟩
def dm_check_flag : DM := ⟨fun K => ga K "check_flag", "check_flag", "check_flag", defArgs s_check_flag, defBody s_check_flag, defScope s_check_flag, [], []⟩
def dm_check_stations : DM := ⟨fun K => ga K "check_stations", "check_stations", "check_stations", defArgs s_check_stations, defBody s_check_stations, defScope s_check_stations, [], []⟩
def dm_check_links : DM := ⟨fun K => ga K "check_links", "check_links", "check_links", defArgs s_check_links, defBody s_check_links, defScope s_check_links, [], []⟩
def dm_check_line : DM := ⟨fun K => ga K "check_line", "check_line", "check_line", defArgs s_check_line, defBody s_check_line, defScope s_check_line, [], []⟩
def dm_ends_of : DM := ⟨fun K => ga K "ends_of", "ends_of", "ends_of", defArgs s_ends_of, defBody s_ends_of, defScope s_ends_of, [], []⟩
def dm_rings_from : DM := ⟨fun K => ga K "rings_from", "rings_from", "rings_from", defArgs s_rings_from, defBody s_rings_from, defScope s_rings_from, [], []⟩
def dm_rings : DM := ⟨fun K => ga K "rings", "rings", "rings", defArgs s_rings, defBody s_rings, defScope s_rings, [], []⟩
def dm_stuck : DM := ⟨fun K => ga K "stuck", "stuck", "stuck", defArgs s_stuck, defBody s_stuck, defScope s_stuck, [], []⟩
def dm_check_free : DM := ⟨fun K => ga K "check_free", "check_free", "check_free", defArgs s_check_free, defBody s_check_free, defScope s_check_free, [], []⟩
def dm_width_of : DM := ⟨fun K => ga K "width_of", "width_of", "width_of", defArgs s_width_of, defBody s_width_of, defScope s_width_of, [], []⟩
def dm_entries_of : DM := ⟨fun K => ga K "entries_of", "entries_of", "entries_of", defArgs s_entries_of, defBody s_entries_of, defScope s_entries_of, [], []⟩
def dm_is_begun : DM := ⟨fun K => ga K "is_begun", "is_begun", "is_begun", defArgs s_is_begun, defBody s_is_begun, defScope s_is_begun, [], []⟩
def dm_next_row : DM := ⟨fun K => ga K "next_row", "next_row", "next_row", defArgs s_next_row, defBody s_next_row, defScope s_next_row, [], []⟩
def dm_walked : DM := ⟨fun K => ga K "walked", "walked", "walked", defArgs s_walked, defBody s_walked, defScope s_walked, [], []⟩
def dm_check_pair : DM := ⟨fun K => ga K "check_pair", "check_pair", "check_pair", defArgs s_check_pair, defBody s_check_pair, defScope s_check_pair, [], []⟩
def dm_check_whole : DM := ⟨fun K => ga K "check_whole", "check_whole", "check_whole", defArgs s_check_whole, defBody s_check_whole, defScope s_check_whole, [], []⟩
def dm_ordered : DM := ⟨fun K => ga K "ordered", "ordered", "ordered", defArgs s_ordered, defBody s_ordered, defScope s_ordered, [], []⟩
def dm_rank_of : DM := ⟨fun K => ga K "rank_of", "rank_of", "rank_of", defArgs s_rank_of, defBody s_rank_of, defScope s_rank_of, [], []⟩
def dm_bad_lags : DM := ⟨fun K => ga K "bad_lags", "bad_lags", "bad_lags", defArgs s_bad_lags, defBody s_bad_lags, defScope s_bad_lags, [], []⟩
def dm_single_cases : DM := ⟨fun K => ga K "single_cases", "single_cases", "single_cases", defArgs s_single_cases, defBody s_single_cases, defScope s_single_cases, [], []⟩
def dm_pair_cases : DM := ⟨fun K => ga K "pair_cases", "pair_cases", "pair_cases", defArgs s_pair_cases, defBody s_pair_cases, defScope s_pair_cases, [], []⟩
def dm_least_case : DM := ⟨fun K => ga K "least_case", "least_case", "least_case", defArgs s_least_case, defBody s_least_case, defScope s_least_case, [], []⟩
def dm_later_case : DM := ⟨fun K => ga K "later_case", "later_case", "later_case", defArgs s_later_case, defBody s_later_case, defScope s_later_case, [], [("whole", .bl false)]⟩
def dm_law_purl : DM := ⟨fun K => ga K "_law_purl", "_law_purl", "_law_purl", defArgs s_law_purl, defBody s_law_purl, defScope s_law_purl, [], []⟩
def dm_law_dig : DM := ⟨fun K => ga K "_law_dig", "_law_dig", "_law_dig", defArgs s_law_dig, defBody s_law_dig, defScope s_law_dig, [], []⟩
def dm_law_words : DM := ⟨fun K => ga K "_law_words", "_law_words", "_law_words", defArgs s_law_words, defBody s_law_words, defScope s_law_words, [], []⟩
def dm_law_tie : DM := ⟨fun K => ga K "_law_tie", "_law_tie", "_law_tie", defArgs s_law_tie, defBody s_law_tie, defScope s_law_tie, [], []⟩
def dm_law_post : DM := ⟨fun K => ga K "_law_post", "_law_post", "_law_post", defArgs s_law_post, defBody s_law_post, defScope s_law_post, [], []⟩
def dm_law_chained : DM := ⟨fun K => ga K "_law_chained", "_law_chained", "_law_chained", defArgs s_law_chained, defBody s_law_chained, defScope s_law_chained, [], []⟩
def dm_law_plan : DM := ⟨fun K => ga K "_law_plan", "_law_plan", "_law_plan", defArgs s_law_plan, defBody s_law_plan, defScope s_law_plan, [], []⟩
def dm_law_swapped : DM := ⟨fun K => ga K "_law_swapped", "_law_swapped", "_law_swapped", defArgs s_law_swapped, defBody s_law_swapped, defScope s_law_swapped, [], []⟩
def dm_law_kin : DM := ⟨fun K => ga K "_law_kin", "_law_kin", "_law_kin", defArgs s_law_kin, defBody s_law_kin, defScope s_law_kin, [], []⟩
def dm_law_line : DM := ⟨fun K => ga K "_law_line", "_law_line", "_law_line", defArgs s_law_line, defBody s_law_line, defScope s_law_line, [], []⟩
def dm_law_onset : DM := ⟨fun K => ga K "_law_onset", "_law_onset", "_law_onset", defArgs s_law_onset, defBody s_law_onset, defScope s_law_onset, [], []⟩
def dm_law_settled : DM := ⟨fun K => ga K "_law_settled", "_law_settled", "_law_settled", defArgs s_law_settled, defBody s_law_settled, defScope s_law_settled, [], []⟩
def dm_law_played : DM := ⟨fun K => ga K "_law_played", "_law_played", "_law_played", defArgs s_law_played, defBody s_law_played, defScope s_law_played, [], []⟩
def dm_law_ended : DM := ⟨fun K => ga K "_law_ended", "_law_ended", "_law_ended", defArgs s_law_ended, defBody s_law_ended, defScope s_law_ended, [], []⟩
def dm_law_ranked : DM := ⟨fun K => ga K "_law_ranked", "_law_ranked", "_law_ranked", defArgs s_law_ranked, defBody s_law_ranked, defScope s_law_ranked, [], []⟩
def dm_law_later : DM := ⟨fun K => ga K "_law_later", "_law_later", "_law_later", defArgs s_law_later, defBody s_law_later, defScope s_law_later, [], []⟩
def dm_law_first : DM := ⟨fun K => ga K "_law_first", "_law_first", "_law_first", defArgs s_law_first, defBody s_law_first, defScope s_law_first, [], []⟩
def dm_law_fits : DM := ⟨fun K => ga K "_law_fits", "_law_fits", "_law_fits", defArgs s_law_fits, defBody s_law_fits, defScope s_law_fits, [], []⟩
def dm_law_right : DM := ⟨fun K => ga K "_law_right", "_law_right", "_law_right", defArgs s_law_right, defBody s_law_right, defScope s_law_right, [], []⟩
def dm_law : DM := ⟨fun K => ga K "law", "law", "law", defArgs s_law, defBody s_law, defScope s_law, [], []⟩
def dm_Lags_init : DM := ⟨fun K => ma K (ga K "Lags") "__init__", "__init__", "Lags.__init__", defArgs s_Lags_init, defBody s_Lags_init, defScope s_Lags_init, [.adr lags_t0, .adr lags_t1, .int 1], []⟩
def dm_Lags_contains : DM := ⟨fun K => ma K (ga K "Lags") "__contains__", "__contains__", "Lags.__contains__", defArgs s_Lags_contains, defBody s_Lags_contains, defScope s_Lags_contains, [], []⟩
def dm_FormedLags_init : DM := ⟨fun K => ma K (ga K "FormedLags") "__init__", "__init__", "FormedLags.__init__", defArgs s_FormedLags_init, defBody s_FormedLags_init, defScope s_FormedLags_init, [], []⟩
def dm_Station_init : DM := ⟨fun K => ma K (ga K "Station") "__init__", "__init__", "Station.__init__", defArgs s_Station_init, defBody s_Station_init, defScope s_Station_init, [.int 1], [("timed", .bl true)]⟩
def dm_Link_init : DM := ⟨fun K => ma K (ga K "Link") "__init__", "__init__", "Link.__init__", defArgs s_Link_init, defBody s_Link_init, defScope s_Link_init, [.int 0], [("early", .bl false)]⟩
def dm_Line_init : DM := ⟨fun K => ma K (ga K "Line") "__init__", "__init__", "Line.__init__", defArgs s_Line_init, defBody s_Line_init, defScope s_Line_init, [], []⟩
def dm_Line_len : DM := ⟨fun K => ma K (ga K "Line") "__len__", "__len__", "Line.__len__", defArgs s_Line_len, defBody s_Line_len, defScope s_Line_len, [], []⟩
def dm_Walk_init : DM := ⟨fun K => ma K (ga K "Walk") "__init__", "__init__", "Walk.__init__", defArgs s_Walk_init, defBody s_Walk_init, defScope s_Walk_init, [], []⟩
def dm_Walk_lags_at : DM := ⟨fun K => ma K (ga K "Walk") "lags_at", "lags_at", "Walk.lags_at", defArgs s_Walk_lags_at, defBody s_Walk_lags_at, defScope s_Walk_lags_at, [], []⟩
def dm_Walk_ends : DM := ⟨fun K => ma K (ga K "Walk") "ends", "ends", "Walk.ends", defArgs s_Walk_ends, defBody s_Walk_ends, defScope s_Walk_ends, [], []⟩
def dm_Walk_begins : DM := ⟨fun K => ma K (ga K "Walk") "begins", "begins", "Walk.begins", defArgs s_Walk_begins, defBody s_Walk_begins, defScope s_Walk_begins, [], []⟩
def dm_Orders_init : DM := ⟨fun K => ma K (ga K "Orders") "__init__", "__init__", "Orders.__init__", defArgs s_Orders_init, defBody s_Orders_init, defScope s_Orders_init, [], []⟩
def dm_Orders_to_outlet : DM := ⟨fun K => ma K (ga K "Orders") "to_outlet", "to_outlet", "Orders.to_outlet", defArgs s_Orders_to_outlet, defBody s_Orders_to_outlet, defScope s_Orders_to_outlet, [], []⟩
def dm_Orders_between : DM := ⟨fun K => ma K (ga K "Orders") "between", "between", "Orders.between", defArgs s_Orders_between, defBody s_Orders_between, defScope s_Orders_between, [], []⟩
def dm_Lags_members : DM := ⟨fun K => prG K "Lags" "members", "members", "Lags.members", defArgs s_Lags_members, defBody s_Lags_members, defScope s_Lags_members, [], []⟩
def dm_Lags_first : DM := ⟨fun K => prG K "Lags" "first", "first", "Lags.first", defArgs s_Lags_first, defBody s_Lags_first, defScope s_Lags_first, [], []⟩
def dm_Station_name : DM := ⟨fun K => prG K "Station" "name", "name", "Station.name", defArgs s_Station_name, defBody s_Station_name, defScope s_Station_name, [], []⟩
def dm_Station_hands : DM := ⟨fun K => prG K "Station" "hands", "hands", "Station.hands", defArgs s_Station_hands, defBody s_Station_hands, defScope s_Station_hands, [], []⟩
def dm_Station_timed : DM := ⟨fun K => prG K "Station" "timed", "timed", "Station.timed", defArgs s_Station_timed, defBody s_Station_timed, defScope s_Station_timed, [], []⟩
def dm_Link_source : DM := ⟨fun K => prG K "Link" "source", "source", "Link.source", defArgs s_Link_source, defBody s_Link_source, defScope s_Link_source, [], []⟩
def dm_Link_target : DM := ⟨fun K => prG K "Link" "target", "target", "Link.target", defArgs s_Link_target, defBody s_Link_target, defScope s_Link_target, [], []⟩
def dm_Link_stock : DM := ⟨fun K => prG K "Link" "stock", "stock", "Link.stock", defArgs s_Link_stock, defBody s_Link_stock, defScope s_Link_stock, [], []⟩
def dm_Link_early : DM := ⟨fun K => prG K "Link" "early", "early", "Link.early", defArgs s_Link_early, defBody s_Link_early, defScope s_Link_early, [], []⟩
def dm_Line_stations : DM := ⟨fun K => prG K "Line" "stations", "stations", "Line.stations", defArgs s_Line_stations, defBody s_Line_stations, defScope s_Line_stations, [], []⟩
def dm_Line_links : DM := ⟨fun K => prG K "Line" "links", "links", "Line.links", defArgs s_Line_links, defBody s_Line_links, defScope s_Line_links, [], []⟩
def dm_Line_outlet : DM := ⟨fun K => prG K "Line" "outlet", "outlet", "Line.outlet", defArgs s_Line_outlet, defBody s_Line_outlet, defScope s_Line_outlet, [], []⟩
def dm_Line_names : DM := ⟨fun K => prG K "Line" "names", "names", "Line.names", defArgs s_Line_names, defBody s_Line_names, defScope s_Line_names, [], []⟩
def dm_Line_timed : DM := ⟨fun K => prG K "Line" "timed", "timed", "Line.timed", defArgs s_Line_timed, defBody s_Line_timed, defScope s_Line_timed, [], []⟩
def ds0 : List DM := [dm_is_integer, dm_is_name, dm_check_numbers, dm_least_period, dm_least_form, dm_flags_of, dm_flag_at, dm_lags_with, dm_common_multiple, dm_both_ends, dm_form_left, dm_lags_of, dm_left_of, dm_check_name, dm_check_flag]
def ds1 : List DM := [dm_check_stations, dm_check_links, dm_check_line, dm_ends_of, dm_rings_from, dm_rings, dm_stuck, dm_check_free, dm_width_of, dm_entries_of, dm_is_begun, dm_next_row, dm_walked, dm_check_pair, dm_check_whole]
def ds2 : List DM := [dm_ordered, dm_rank_of, dm_bad_lags, dm_single_cases, dm_pair_cases, dm_least_case, dm_later_case, dm_law_purl, dm_law_dig, dm_law_words, dm_law_tie, dm_law_post, dm_law_chained, dm_law_plan, dm_law_swapped]
def ds3 : List DM := [dm_law_kin, dm_law_line, dm_law_onset, dm_law_settled, dm_law_played, dm_law_ended, dm_law_ranked, dm_law_later, dm_law_first, dm_law_fits, dm_law_right, dm_law, dm_Lags_init, dm_Lags_contains, dm_FormedLags_init]
def ds4 : List DM := [dm_Station_init, dm_Link_init, dm_Line_init, dm_Line_len, dm_Walk_init, dm_Walk_lags_at, dm_Walk_ends, dm_Walk_begins, dm_Orders_init, dm_Orders_to_outlet, dm_Orders_between, dm_Lags_members, dm_Lags_first, dm_Station_name, dm_Station_hands]
def ds5 : List DM := [dm_Station_timed, dm_Link_source, dm_Link_target, dm_Link_stock, dm_Link_early, dm_Line_stations, dm_Line_links, dm_Line_outlet, dm_Line_names, dm_Line_timed]
def ds : List DM := ds0 ++ (ds1 ++ (ds2 ++ (ds3 ++ (ds4 ++ (ds5)))))
def cs0 : List Tst := [fun K => (Fa.glo "is_integer").ok K, fun K => (Fa.glo "is_name").ok K, fun K => (Fa.glo "check_numbers").ok K, fun K => (Fa.glo "least_period").ok K, fun K => (Fa.glo "least_form").ok K, fun K => (Fa.glo "flags_of").ok K, fun K => (Fa.glo "flag_at").ok K, fun K => (Fa.glo "lags_with").ok K, fun K => (Fa.glo "common_multiple").ok K, fun K => (Fa.glo "both_ends").ok K, fun K => (Fa.glo "form_left").ok K, fun K => (Fa.glo "lags_of").ok K]
def cs1 : List Tst := [fun K => (Fa.glo "left_of").ok K, fun K => (Fa.glo "check_name").ok K, fun K => (Fa.glo "check_flag").ok K, fun K => (Fa.glo "check_stations").ok K, fun K => (Fa.glo "check_links").ok K, fun K => (Fa.glo "check_line").ok K, fun K => (Fa.glo "ends_of").ok K, fun K => (Fa.glo "rings_from").ok K, fun K => (Fa.glo "rings").ok K, fun K => (Fa.glo "stuck").ok K, fun K => (Fa.glo "check_free").ok K, fun K => (Fa.glo "width_of").ok K]
def cs2 : List Tst := [fun K => (Fa.glo "entries_of").ok K, fun K => (Fa.glo "is_begun").ok K, fun K => (Fa.glo "next_row").ok K, fun K => (Fa.glo "walked").ok K, fun K => (Fa.glo "check_pair").ok K, fun K => (Fa.glo "check_whole").ok K, fun K => (Fa.glo "ordered").ok K, fun K => (Fa.glo "rank_of").ok K, fun K => (Fa.glo "bad_lags").ok K, fun K => (Fa.glo "single_cases").ok K, fun K => (Fa.glo "pair_cases").ok K, fun K => (Fa.glo "least_case").ok K]
def cs3 : List Tst := [fun K => (Fa.glo "later_case").ok K, fun K => (Fa.glo "_law_purl").ok K, fun K => (Fa.glo "_law_dig").ok K, fun K => (Fa.glo "_law_words").ok K, fun K => (Fa.glo "_law_tie").ok K, fun K => (Fa.glo "_law_post").ok K, fun K => (Fa.glo "_law_chained").ok K, fun K => (Fa.glo "_law_plan").ok K, fun K => (Fa.glo "_law_swapped").ok K, fun K => (Fa.glo "_law_kin").ok K, fun K => (Fa.glo "_law_line").ok K, fun K => (Fa.glo "_law_onset").ok K]
def cs4 : List Tst := [fun K => (Fa.glo "_law_settled").ok K, fun K => (Fa.glo "_law_played").ok K, fun K => (Fa.glo "_law_ended").ok K, fun K => (Fa.glo "_law_ranked").ok K, fun K => (Fa.glo "_law_later").ok K, fun K => (Fa.glo "_law_first").ok K, fun K => (Fa.glo "_law_fits").ok K, fun K => (Fa.glo "_law_right").ok K, fun K => (Fa.glo "law").ok K, fun K => (Fa.glo "Lags").ok K, fun K => (Fa.glo "FormedLags").ok K, fun K => (Fa.glo "Station").ok K]
def cs5 : List Tst := [fun K => (Fa.glo "Link").ok K, fun K => (Fa.glo "Line").ok K, fun K => (Fa.glo "Walk").ok K, fun K => (Fa.glo "Orders").ok K, fun K => (Fa.free "isinstance").ok K, fun K => (Fa.free "int").ok K, fun K => (Fa.free "bool").ok K, fun K => (Fa.free "str").ok K, fun K => (Fa.free "tuple").ok K, fun K => (Fa.free "len").ok K, fun K => (Fa.free "all").ok K, fun K => (Fa.free "range").ok K]
def cs6 : List Tst := [fun K => (Fa.free "list").ok K, fun K => (Fa.free "enumerate").ok K, fun K => (Fa.free "max").ok K, fun K => (Fa.free "any").ok K, fun K => (Fa.free "sorted").ok K, fun K => (Fa.free "sum").ok K, fun K => (Fa.free "abs").ok K, fun K => (Fa.free "divmod").ok K, fun K => (Fa.free "repr").ok K, fun K => (Fa.int "MOST_STATIONS" 6).ok K, fun K => (Fa.int "MOST_LINKS" 12).ok K, fun K => (Fa.int "MOST_HANDS" 4).ok K]
def cs7 : List Tst := [fun K => (Fa.int "MOST_STOCK" 5).ok K, fun K => (Fa.int "MOST_SIGNS" 8).ok K, fun K => (Fa.int "MOST_MEMBER" 1000).ok K, fun K => (Fa.int "MOST_PERIOD" 60).ok K, fun K => (Fa.str "LETTERS" "abcdefghijklmnopqrstuvwxyz").ok K, fun K => (Fa.str "DIGITS" "0123456789").ok K, fun K => (Fa.cls "Lags").ok K, fun K => (Fa.cls "FormedLags").ok K, fun K => (Fa.cls "Station").ok K, fun K => (Fa.cls "Link").ok K, fun K => (Fa.cls "Line").ok K, fun K => (Fa.cls "Walk").ok K]
def cs8 : List Tst := [fun K => (Fa.cls "Orders").ok K, icB "Lags", icB "FormedLags", icB "Station", icB "Link", icB "Line", icB "Walk", icB "Orders", fun K => (Fa.mkr "Lags").ok K, fun K => (Fa.mkr "FormedLags").ok K, fun K => (Fa.mkr "Station").ok K, fun K => (Fa.mkr "Link").ok K]
def cs9 : List Tst := [fun K => (Fa.mkr "Line").ok K, fun K => (Fa.mkr "Walk").ok K, fun K => (Fa.mkr "Orders").ok K, fun K => (Fa.noat "Lags" "form").ok K, fun K => (Fa.noat "FormedLags" "form").ok K, fun K => (Fa.noat "Station" "sides").ok K, fun K => (Fa.noat "Link" "sides").ok K, fun K => (Fa.noat "Line" "sides").ok K, fun K => (Fa.noat "Walk" "rows").ok K, fun K => (Fa.noat "Walk" "begin_row").ok K, fun K => (Fa.noat "Walk" "end_row").ok K, fun K => (Fa.noat "Orders" "known").ok K]
def cs10 : List Tst := [fun K => (Fa.noat "Orders" "outlets").ok K, fun K => (Fa.noat "Orders" "found").ok K, fun K => (Fa.noat "Orders" "none").ok K, fun K => (Fa.meth "Lags" "__contains__").ok K, fun K => (Fa.meth "Line" "__len__").ok K, fun K => (Fa.meth "Walk" "lags_at").ok K, fun K => (Fa.meth "Walk" "ends").ok K, fun K => (Fa.meth "Walk" "begins").ok K, fun K => (Fa.meth "Orders" "to_outlet").ok K, fun K => (Fa.meth "Orders" "between").ok K, fun K => (Fa.meth "FormedLags" "__contains__").ok K, prB "Lags" "members"]
def cs11 : List Tst := [prB "Lags" "first", prB "Station" "name", prB "Station" "hands", prB "Station" "timed", prB "Link" "source", prB "Link" "target", prB "Link" "stock", prB "Link" "early", prB "Line" "stations", prB "Line" "links", prB "Line" "outlet", prB "Line" "names"]
def cs12 : List Tst := [prB "Line" "timed", prB "FormedLags" "members", prB "FormedLags" "first", sameB (fun K => ma K (ga K "FormedLags") "__contains__") (fun K => ma K (ga K "Lags") "__contains__"), sameB (fun K => prG K "FormedLags" "members") (fun K => prG K "Lags" "members"), sameB (fun K => prG K "FormedLags" "first") (fun K => prG K "Lags" "first"), tup0B lags_t0, tup0B lags_t1]
def cs : List Tst := cs0 ++ (cs1 ++ (cs2 ++ (cs3 ++ (cs4 ++ (cs5 ++ (cs6 ++ (cs7 ++ (cs8 ++ (cs9 ++ (cs10 ++ (cs11 ++ (cs12))))))))))))
/-- what the text is, behind its top -/
structure Txt (K : PySem.W.Frag) (mg : Str → Option Value) : Prop where
  ex : ∃ h : Heap, K.In h ∧ h.Ns mainGlobals mg
  says : obsM cs ds K = valM ds
section
variable {K : PySem.W.Frag} {mg : Str → Option Value}
theorem Txt.d_is_integer (T : Txt K mg) : ∃ fd, FunD K "is_integer" "is_integer" (defArgs s_is_integer) (defBody s_is_integer) (defScope s_is_integer) [] [] (ga K "is_integer") fd := saysM_def (d := dm_is_integer) T.says 0 rfl
theorem Txt.d_is_name (T : Txt K mg) : ∃ fd, FunD K "is_name" "is_name" (defArgs s_is_name) (defBody s_is_name) (defScope s_is_name) [] [] (ga K "is_name") fd := saysM_def (d := dm_is_name) T.says 1 rfl
theorem Txt.d_check_numbers (T : Txt K mg) : ∃ fd, FunD K "check_numbers" "check_numbers" (defArgs s_check_numbers) (defBody s_check_numbers) (defScope s_check_numbers) [] [] (ga K "check_numbers") fd := saysM_def (d := dm_check_numbers) T.says 2 rfl
theorem Txt.d_least_period (T : Txt K mg) : ∃ fd, FunD K "least_period" "least_period" (defArgs s_least_period) (defBody s_least_period) (defScope s_least_period) [] [] (ga K "least_period") fd := saysM_def (d := dm_least_period) T.says 3 rfl
theorem Txt.d_least_form (T : Txt K mg) : ∃ fd, FunD K "least_form" "least_form" (defArgs s_least_form) (defBody s_least_form) (defScope s_least_form) [] [] (ga K "least_form") fd := saysM_def (d := dm_least_form) T.says 4 rfl
theorem Txt.d_flags_of (T : Txt K mg) : ∃ fd, FunD K "flags_of" "flags_of" (defArgs s_flags_of) (defBody s_flags_of) (defScope s_flags_of) [] [] (ga K "flags_of") fd := saysM_def (d := dm_flags_of) T.says 5 rfl
theorem Txt.d_flag_at (T : Txt K mg) : ∃ fd, FunD K "flag_at" "flag_at" (defArgs s_flag_at) (defBody s_flag_at) (defScope s_flag_at) [] [] (ga K "flag_at") fd := saysM_def (d := dm_flag_at) T.says 6 rfl
theorem Txt.d_lags_with (T : Txt K mg) : ∃ fd, FunD K "lags_with" "lags_with" (defArgs s_lags_with) (defBody s_lags_with) (defScope s_lags_with) [] [] (ga K "lags_with") fd := saysM_def (d := dm_lags_with) T.says 7 rfl
theorem Txt.d_common_multiple (T : Txt K mg) : ∃ fd, FunD K "common_multiple" "common_multiple" (defArgs s_common_multiple) (defBody s_common_multiple) (defScope s_common_multiple) [] [] (ga K "common_multiple") fd := saysM_def (d := dm_common_multiple) T.says 8 rfl
theorem Txt.d_both_ends (T : Txt K mg) : ∃ fd, FunD K "both_ends" "both_ends" (defArgs s_both_ends) (defBody s_both_ends) (defScope s_both_ends) [] [] (ga K "both_ends") fd := saysM_def (d := dm_both_ends) T.says 9 rfl
theorem Txt.d_form_left (T : Txt K mg) : ∃ fd, FunD K "form_left" "form_left" (defArgs s_form_left) (defBody s_form_left) (defScope s_form_left) [] [] (ga K "form_left") fd := saysM_def (d := dm_form_left) T.says 10 rfl
theorem Txt.d_lags_of (T : Txt K mg) : ∃ fd, FunD K "lags_of" "lags_of" (defArgs s_lags_of) (defBody s_lags_of) (defScope s_lags_of) [] [] (ga K "lags_of") fd := saysM_def (d := dm_lags_of) T.says 11 rfl
theorem Txt.d_left_of (T : Txt K mg) : ∃ fd, FunD K "left_of" "left_of" (defArgs s_left_of) (defBody s_left_of) (defScope s_left_of) [] [] (ga K "left_of") fd := saysM_def (d := dm_left_of) T.says 12 rfl
theorem Txt.d_check_name (T : Txt K mg) : ∃ fd, FunD K "check_name" "check_name" (defArgs s_check_name) (defBody s_check_name) (defScope s_check_name) [] [] (ga K "check_name") fd := saysM_def (d := dm_check_name) T.says 13 rfl
theorem Txt.d_check_flag (T : Txt K mg) : ∃ fd, FunD K "check_flag" "check_flag" (defArgs s_check_flag) (defBody s_check_flag) (defScope s_check_flag) [] [] (ga K "check_flag") fd := saysM_def (d := dm_check_flag) T.says 14 rfl
theorem Txt.d_check_stations (T : Txt K mg) : ∃ fd, FunD K "check_stations" "check_stations" (defArgs s_check_stations) (defBody s_check_stations) (defScope s_check_stations) [] [] (ga K "check_stations") fd := saysM_def (d := dm_check_stations) T.says 15 rfl
theorem Txt.d_check_links (T : Txt K mg) : ∃ fd, FunD K "check_links" "check_links" (defArgs s_check_links) (defBody s_check_links) (defScope s_check_links) [] [] (ga K "check_links") fd := saysM_def (d := dm_check_links) T.says 16 rfl
theorem Txt.d_check_line (T : Txt K mg) : ∃ fd, FunD K "check_line" "check_line" (defArgs s_check_line) (defBody s_check_line) (defScope s_check_line) [] [] (ga K "check_line") fd := saysM_def (d := dm_check_line) T.says 17 rfl
theorem Txt.d_ends_of (T : Txt K mg) : ∃ fd, FunD K "ends_of" "ends_of" (defArgs s_ends_of) (defBody s_ends_of) (defScope s_ends_of) [] [] (ga K "ends_of") fd := saysM_def (d := dm_ends_of) T.says 18 rfl
theorem Txt.d_rings_from (T : Txt K mg) : ∃ fd, FunD K "rings_from" "rings_from" (defArgs s_rings_from) (defBody s_rings_from) (defScope s_rings_from) [] [] (ga K "rings_from") fd := saysM_def (d := dm_rings_from) T.says 19 rfl
theorem Txt.d_rings (T : Txt K mg) : ∃ fd, FunD K "rings" "rings" (defArgs s_rings) (defBody s_rings) (defScope s_rings) [] [] (ga K "rings") fd := saysM_def (d := dm_rings) T.says 20 rfl
theorem Txt.d_stuck (T : Txt K mg) : ∃ fd, FunD K "stuck" "stuck" (defArgs s_stuck) (defBody s_stuck) (defScope s_stuck) [] [] (ga K "stuck") fd := saysM_def (d := dm_stuck) T.says 21 rfl
theorem Txt.d_check_free (T : Txt K mg) : ∃ fd, FunD K "check_free" "check_free" (defArgs s_check_free) (defBody s_check_free) (defScope s_check_free) [] [] (ga K "check_free") fd := saysM_def (d := dm_check_free) T.says 22 rfl
theorem Txt.d_width_of (T : Txt K mg) : ∃ fd, FunD K "width_of" "width_of" (defArgs s_width_of) (defBody s_width_of) (defScope s_width_of) [] [] (ga K "width_of") fd := saysM_def (d := dm_width_of) T.says 23 rfl
theorem Txt.d_entries_of (T : Txt K mg) : ∃ fd, FunD K "entries_of" "entries_of" (defArgs s_entries_of) (defBody s_entries_of) (defScope s_entries_of) [] [] (ga K "entries_of") fd := saysM_def (d := dm_entries_of) T.says 24 rfl
theorem Txt.d_is_begun (T : Txt K mg) : ∃ fd, FunD K "is_begun" "is_begun" (defArgs s_is_begun) (defBody s_is_begun) (defScope s_is_begun) [] [] (ga K "is_begun") fd := saysM_def (d := dm_is_begun) T.says 25 rfl
theorem Txt.d_next_row (T : Txt K mg) : ∃ fd, FunD K "next_row" "next_row" (defArgs s_next_row) (defBody s_next_row) (defScope s_next_row) [] [] (ga K "next_row") fd := saysM_def (d := dm_next_row) T.says 26 rfl
theorem Txt.d_walked (T : Txt K mg) : ∃ fd, FunD K "walked" "walked" (defArgs s_walked) (defBody s_walked) (defScope s_walked) [] [] (ga K "walked") fd := saysM_def (d := dm_walked) T.says 27 rfl
theorem Txt.d_check_pair (T : Txt K mg) : ∃ fd, FunD K "check_pair" "check_pair" (defArgs s_check_pair) (defBody s_check_pair) (defScope s_check_pair) [] [] (ga K "check_pair") fd := saysM_def (d := dm_check_pair) T.says 28 rfl
theorem Txt.d_check_whole (T : Txt K mg) : ∃ fd, FunD K "check_whole" "check_whole" (defArgs s_check_whole) (defBody s_check_whole) (defScope s_check_whole) [] [] (ga K "check_whole") fd := saysM_def (d := dm_check_whole) T.says 29 rfl
theorem Txt.d_ordered (T : Txt K mg) : ∃ fd, FunD K "ordered" "ordered" (defArgs s_ordered) (defBody s_ordered) (defScope s_ordered) [] [] (ga K "ordered") fd := saysM_def (d := dm_ordered) T.says 30 rfl
theorem Txt.d_rank_of (T : Txt K mg) : ∃ fd, FunD K "rank_of" "rank_of" (defArgs s_rank_of) (defBody s_rank_of) (defScope s_rank_of) [] [] (ga K "rank_of") fd := saysM_def (d := dm_rank_of) T.says 31 rfl
theorem Txt.d_bad_lags (T : Txt K mg) : ∃ fd, FunD K "bad_lags" "bad_lags" (defArgs s_bad_lags) (defBody s_bad_lags) (defScope s_bad_lags) [] [] (ga K "bad_lags") fd := saysM_def (d := dm_bad_lags) T.says 32 rfl
theorem Txt.d_single_cases (T : Txt K mg) : ∃ fd, FunD K "single_cases" "single_cases" (defArgs s_single_cases) (defBody s_single_cases) (defScope s_single_cases) [] [] (ga K "single_cases") fd := saysM_def (d := dm_single_cases) T.says 33 rfl
theorem Txt.d_pair_cases (T : Txt K mg) : ∃ fd, FunD K "pair_cases" "pair_cases" (defArgs s_pair_cases) (defBody s_pair_cases) (defScope s_pair_cases) [] [] (ga K "pair_cases") fd := saysM_def (d := dm_pair_cases) T.says 34 rfl
theorem Txt.d_least_case (T : Txt K mg) : ∃ fd, FunD K "least_case" "least_case" (defArgs s_least_case) (defBody s_least_case) (defScope s_least_case) [] [] (ga K "least_case") fd := saysM_def (d := dm_least_case) T.says 35 rfl
theorem Txt.d_later_case (T : Txt K mg) : ∃ fd, FunD K "later_case" "later_case" (defArgs s_later_case) (defBody s_later_case) (defScope s_later_case) [] [("whole", .bl false)] (ga K "later_case") fd := saysM_def (d := dm_later_case) T.says 36 rfl
theorem Txt.d_law_purl (T : Txt K mg) : ∃ fd, FunD K "_law_purl" "_law_purl" (defArgs s_law_purl) (defBody s_law_purl) (defScope s_law_purl) [] [] (ga K "_law_purl") fd := saysM_def (d := dm_law_purl) T.says 37 rfl
theorem Txt.d_law_dig (T : Txt K mg) : ∃ fd, FunD K "_law_dig" "_law_dig" (defArgs s_law_dig) (defBody s_law_dig) (defScope s_law_dig) [] [] (ga K "_law_dig") fd := saysM_def (d := dm_law_dig) T.says 38 rfl
theorem Txt.d_law_words (T : Txt K mg) : ∃ fd, FunD K "_law_words" "_law_words" (defArgs s_law_words) (defBody s_law_words) (defScope s_law_words) [] [] (ga K "_law_words") fd := saysM_def (d := dm_law_words) T.says 39 rfl
theorem Txt.d_law_tie (T : Txt K mg) : ∃ fd, FunD K "_law_tie" "_law_tie" (defArgs s_law_tie) (defBody s_law_tie) (defScope s_law_tie) [] [] (ga K "_law_tie") fd := saysM_def (d := dm_law_tie) T.says 40 rfl
theorem Txt.d_law_post (T : Txt K mg) : ∃ fd, FunD K "_law_post" "_law_post" (defArgs s_law_post) (defBody s_law_post) (defScope s_law_post) [] [] (ga K "_law_post") fd := saysM_def (d := dm_law_post) T.says 41 rfl
theorem Txt.d_law_chained (T : Txt K mg) : ∃ fd, FunD K "_law_chained" "_law_chained" (defArgs s_law_chained) (defBody s_law_chained) (defScope s_law_chained) [] [] (ga K "_law_chained") fd := saysM_def (d := dm_law_chained) T.says 42 rfl
theorem Txt.d_law_plan (T : Txt K mg) : ∃ fd, FunD K "_law_plan" "_law_plan" (defArgs s_law_plan) (defBody s_law_plan) (defScope s_law_plan) [] [] (ga K "_law_plan") fd := saysM_def (d := dm_law_plan) T.says 43 rfl
theorem Txt.d_law_swapped (T : Txt K mg) : ∃ fd, FunD K "_law_swapped" "_law_swapped" (defArgs s_law_swapped) (defBody s_law_swapped) (defScope s_law_swapped) [] [] (ga K "_law_swapped") fd := saysM_def (d := dm_law_swapped) T.says 44 rfl
theorem Txt.d_law_kin (T : Txt K mg) : ∃ fd, FunD K "_law_kin" "_law_kin" (defArgs s_law_kin) (defBody s_law_kin) (defScope s_law_kin) [] [] (ga K "_law_kin") fd := saysM_def (d := dm_law_kin) T.says 45 rfl
theorem Txt.d_law_line (T : Txt K mg) : ∃ fd, FunD K "_law_line" "_law_line" (defArgs s_law_line) (defBody s_law_line) (defScope s_law_line) [] [] (ga K "_law_line") fd := saysM_def (d := dm_law_line) T.says 46 rfl
theorem Txt.d_law_onset (T : Txt K mg) : ∃ fd, FunD K "_law_onset" "_law_onset" (defArgs s_law_onset) (defBody s_law_onset) (defScope s_law_onset) [] [] (ga K "_law_onset") fd := saysM_def (d := dm_law_onset) T.says 47 rfl
theorem Txt.d_law_settled (T : Txt K mg) : ∃ fd, FunD K "_law_settled" "_law_settled" (defArgs s_law_settled) (defBody s_law_settled) (defScope s_law_settled) [] [] (ga K "_law_settled") fd := saysM_def (d := dm_law_settled) T.says 48 rfl
theorem Txt.d_law_played (T : Txt K mg) : ∃ fd, FunD K "_law_played" "_law_played" (defArgs s_law_played) (defBody s_law_played) (defScope s_law_played) [] [] (ga K "_law_played") fd := saysM_def (d := dm_law_played) T.says 49 rfl
theorem Txt.d_law_ended (T : Txt K mg) : ∃ fd, FunD K "_law_ended" "_law_ended" (defArgs s_law_ended) (defBody s_law_ended) (defScope s_law_ended) [] [] (ga K "_law_ended") fd := saysM_def (d := dm_law_ended) T.says 50 rfl
theorem Txt.d_law_ranked (T : Txt K mg) : ∃ fd, FunD K "_law_ranked" "_law_ranked" (defArgs s_law_ranked) (defBody s_law_ranked) (defScope s_law_ranked) [] [] (ga K "_law_ranked") fd := saysM_def (d := dm_law_ranked) T.says 51 rfl
theorem Txt.d_law_later (T : Txt K mg) : ∃ fd, FunD K "_law_later" "_law_later" (defArgs s_law_later) (defBody s_law_later) (defScope s_law_later) [] [] (ga K "_law_later") fd := saysM_def (d := dm_law_later) T.says 52 rfl
theorem Txt.d_law_first (T : Txt K mg) : ∃ fd, FunD K "_law_first" "_law_first" (defArgs s_law_first) (defBody s_law_first) (defScope s_law_first) [] [] (ga K "_law_first") fd := saysM_def (d := dm_law_first) T.says 53 rfl
theorem Txt.d_law_fits (T : Txt K mg) : ∃ fd, FunD K "_law_fits" "_law_fits" (defArgs s_law_fits) (defBody s_law_fits) (defScope s_law_fits) [] [] (ga K "_law_fits") fd := saysM_def (d := dm_law_fits) T.says 54 rfl
theorem Txt.d_law_right (T : Txt K mg) : ∃ fd, FunD K "_law_right" "_law_right" (defArgs s_law_right) (defBody s_law_right) (defScope s_law_right) [] [] (ga K "_law_right") fd := saysM_def (d := dm_law_right) T.says 55 rfl
theorem Txt.d_law (T : Txt K mg) : ∃ fd, FunD K "law" "law" (defArgs s_law) (defBody s_law) (defScope s_law) [] [] (ga K "law") fd := saysM_def (d := dm_law) T.says 56 rfl
theorem Txt.d_Lags_init (T : Txt K mg) : ∃ fd, FunD K "__init__" "Lags.__init__" (defArgs s_Lags_init) (defBody s_Lags_init) (defScope s_Lags_init) [.ref (lags_t0 K), .ref (lags_t1 K), .int 1] [] (ma K (ga K "Lags") "__init__") fd := saysM_def (d := dm_Lags_init) T.says 57 rfl
theorem Txt.d_Lags_contains (T : Txt K mg) : ∃ fd, FunD K "__contains__" "Lags.__contains__" (defArgs s_Lags_contains) (defBody s_Lags_contains) (defScope s_Lags_contains) [] [] (ma K (ga K "Lags") "__contains__") fd := saysM_def (d := dm_Lags_contains) T.says 58 rfl
theorem Txt.d_FormedLags_init (T : Txt K mg) : ∃ fd, FunD K "__init__" "FormedLags.__init__" (defArgs s_FormedLags_init) (defBody s_FormedLags_init) (defScope s_FormedLags_init) [] [] (ma K (ga K "FormedLags") "__init__") fd := saysM_def (d := dm_FormedLags_init) T.says 59 rfl
theorem Txt.d_Station_init (T : Txt K mg) : ∃ fd, FunD K "__init__" "Station.__init__" (defArgs s_Station_init) (defBody s_Station_init) (defScope s_Station_init) [.int 1] [("timed", .bl true)] (ma K (ga K "Station") "__init__") fd := saysM_def (d := dm_Station_init) T.says 60 rfl
theorem Txt.d_Link_init (T : Txt K mg) : ∃ fd, FunD K "__init__" "Link.__init__" (defArgs s_Link_init) (defBody s_Link_init) (defScope s_Link_init) [.int 0] [("early", .bl false)] (ma K (ga K "Link") "__init__") fd := saysM_def (d := dm_Link_init) T.says 61 rfl
theorem Txt.d_Line_init (T : Txt K mg) : ∃ fd, FunD K "__init__" "Line.__init__" (defArgs s_Line_init) (defBody s_Line_init) (defScope s_Line_init) [] [] (ma K (ga K "Line") "__init__") fd := saysM_def (d := dm_Line_init) T.says 62 rfl
theorem Txt.d_Line_len (T : Txt K mg) : ∃ fd, FunD K "__len__" "Line.__len__" (defArgs s_Line_len) (defBody s_Line_len) (defScope s_Line_len) [] [] (ma K (ga K "Line") "__len__") fd := saysM_def (d := dm_Line_len) T.says 63 rfl
theorem Txt.d_Walk_init (T : Txt K mg) : ∃ fd, FunD K "__init__" "Walk.__init__" (defArgs s_Walk_init) (defBody s_Walk_init) (defScope s_Walk_init) [] [] (ma K (ga K "Walk") "__init__") fd := saysM_def (d := dm_Walk_init) T.says 64 rfl
theorem Txt.d_Walk_lags_at (T : Txt K mg) : ∃ fd, FunD K "lags_at" "Walk.lags_at" (defArgs s_Walk_lags_at) (defBody s_Walk_lags_at) (defScope s_Walk_lags_at) [] [] (ma K (ga K "Walk") "lags_at") fd := saysM_def (d := dm_Walk_lags_at) T.says 65 rfl
theorem Txt.d_Walk_ends (T : Txt K mg) : ∃ fd, FunD K "ends" "Walk.ends" (defArgs s_Walk_ends) (defBody s_Walk_ends) (defScope s_Walk_ends) [] [] (ma K (ga K "Walk") "ends") fd := saysM_def (d := dm_Walk_ends) T.says 66 rfl
theorem Txt.d_Walk_begins (T : Txt K mg) : ∃ fd, FunD K "begins" "Walk.begins" (defArgs s_Walk_begins) (defBody s_Walk_begins) (defScope s_Walk_begins) [] [] (ma K (ga K "Walk") "begins") fd := saysM_def (d := dm_Walk_begins) T.says 67 rfl
theorem Txt.d_Orders_init (T : Txt K mg) : ∃ fd, FunD K "__init__" "Orders.__init__" (defArgs s_Orders_init) (defBody s_Orders_init) (defScope s_Orders_init) [] [] (ma K (ga K "Orders") "__init__") fd := saysM_def (d := dm_Orders_init) T.says 68 rfl
theorem Txt.d_Orders_to_outlet (T : Txt K mg) : ∃ fd, FunD K "to_outlet" "Orders.to_outlet" (defArgs s_Orders_to_outlet) (defBody s_Orders_to_outlet) (defScope s_Orders_to_outlet) [] [] (ma K (ga K "Orders") "to_outlet") fd := saysM_def (d := dm_Orders_to_outlet) T.says 69 rfl
theorem Txt.d_Orders_between (T : Txt K mg) : ∃ fd, FunD K "between" "Orders.between" (defArgs s_Orders_between) (defBody s_Orders_between) (defScope s_Orders_between) [] [] (ma K (ga K "Orders") "between") fd := saysM_def (d := dm_Orders_between) T.says 70 rfl
theorem Txt.d_Lags_members (T : Txt K mg) : ∃ fd, FunD K "members" "Lags.members" (defArgs s_Lags_members) (defBody s_Lags_members) (defScope s_Lags_members) [] [] (prG K "Lags" "members") fd := saysM_def (d := dm_Lags_members) T.says 71 rfl
theorem Txt.d_Lags_first (T : Txt K mg) : ∃ fd, FunD K "first" "Lags.first" (defArgs s_Lags_first) (defBody s_Lags_first) (defScope s_Lags_first) [] [] (prG K "Lags" "first") fd := saysM_def (d := dm_Lags_first) T.says 72 rfl
theorem Txt.d_Station_name (T : Txt K mg) : ∃ fd, FunD K "name" "Station.name" (defArgs s_Station_name) (defBody s_Station_name) (defScope s_Station_name) [] [] (prG K "Station" "name") fd := saysM_def (d := dm_Station_name) T.says 73 rfl
theorem Txt.d_Station_hands (T : Txt K mg) : ∃ fd, FunD K "hands" "Station.hands" (defArgs s_Station_hands) (defBody s_Station_hands) (defScope s_Station_hands) [] [] (prG K "Station" "hands") fd := saysM_def (d := dm_Station_hands) T.says 74 rfl
theorem Txt.d_Station_timed (T : Txt K mg) : ∃ fd, FunD K "timed" "Station.timed" (defArgs s_Station_timed) (defBody s_Station_timed) (defScope s_Station_timed) [] [] (prG K "Station" "timed") fd := saysM_def (d := dm_Station_timed) T.says 75 rfl
theorem Txt.d_Link_source (T : Txt K mg) : ∃ fd, FunD K "source" "Link.source" (defArgs s_Link_source) (defBody s_Link_source) (defScope s_Link_source) [] [] (prG K "Link" "source") fd := saysM_def (d := dm_Link_source) T.says 76 rfl
theorem Txt.d_Link_target (T : Txt K mg) : ∃ fd, FunD K "target" "Link.target" (defArgs s_Link_target) (defBody s_Link_target) (defScope s_Link_target) [] [] (prG K "Link" "target") fd := saysM_def (d := dm_Link_target) T.says 77 rfl
theorem Txt.d_Link_stock (T : Txt K mg) : ∃ fd, FunD K "stock" "Link.stock" (defArgs s_Link_stock) (defBody s_Link_stock) (defScope s_Link_stock) [] [] (prG K "Link" "stock") fd := saysM_def (d := dm_Link_stock) T.says 78 rfl
theorem Txt.d_Link_early (T : Txt K mg) : ∃ fd, FunD K "early" "Link.early" (defArgs s_Link_early) (defBody s_Link_early) (defScope s_Link_early) [] [] (prG K "Link" "early") fd := saysM_def (d := dm_Link_early) T.says 79 rfl
theorem Txt.d_Line_stations (T : Txt K mg) : ∃ fd, FunD K "stations" "Line.stations" (defArgs s_Line_stations) (defBody s_Line_stations) (defScope s_Line_stations) [] [] (prG K "Line" "stations") fd := saysM_def (d := dm_Line_stations) T.says 80 rfl
theorem Txt.d_Line_links (T : Txt K mg) : ∃ fd, FunD K "links" "Line.links" (defArgs s_Line_links) (defBody s_Line_links) (defScope s_Line_links) [] [] (prG K "Line" "links") fd := saysM_def (d := dm_Line_links) T.says 81 rfl
theorem Txt.d_Line_outlet (T : Txt K mg) : ∃ fd, FunD K "outlet" "Line.outlet" (defArgs s_Line_outlet) (defBody s_Line_outlet) (defScope s_Line_outlet) [] [] (prG K "Line" "outlet") fd := saysM_def (d := dm_Line_outlet) T.says 82 rfl
theorem Txt.d_Line_names (T : Txt K mg) : ∃ fd, FunD K "names" "Line.names" (defArgs s_Line_names) (defBody s_Line_names) (defScope s_Line_names) [] [] (prG K "Line" "names") fd := saysM_def (d := dm_Line_names) T.says 83 rfl
theorem Txt.d_Line_timed (T : Txt K mg) : ∃ fd, FunD K "timed" "Line.timed" (defArgs s_Line_timed) (defBody s_Line_timed) (defScope s_Line_timed) [] [] (prG K "Line" "timed") fd := saysM_def (d := dm_Line_timed) T.says 84 rfl
theorem Txt.g_is_integer (T : Txt K mg) : mg "is_integer" = some (.ref (ga K "is_integer")) := let ⟨_, X, G⟩ := T.ex; glo_ok X G (saysM_test T.says 0 (t := fun K => (Fa.glo "is_integer").ok K) rfl)
theorem Txt.g_is_name (T : Txt K mg) : mg "is_name" = some (.ref (ga K "is_name")) := let ⟨_, X, G⟩ := T.ex; glo_ok X G (saysM_test T.says 1 (t := fun K => (Fa.glo "is_name").ok K) rfl)
theorem Txt.g_check_numbers (T : Txt K mg) : mg "check_numbers" = some (.ref (ga K "check_numbers")) := let ⟨_, X, G⟩ := T.ex; glo_ok X G (saysM_test T.says 2 (t := fun K => (Fa.glo "check_numbers").ok K) rfl)
theorem Txt.g_least_period (T : Txt K mg) : mg "least_period" = some (.ref (ga K "least_period")) := let ⟨_, X, G⟩ := T.ex; glo_ok X G (saysM_test T.says 3 (t := fun K => (Fa.glo "least_period").ok K) rfl)
theorem Txt.g_least_form (T : Txt K mg) : mg "least_form" = some (.ref (ga K "least_form")) := let ⟨_, X, G⟩ := T.ex; glo_ok X G (saysM_test T.says 4 (t := fun K => (Fa.glo "least_form").ok K) rfl)
theorem Txt.g_flags_of (T : Txt K mg) : mg "flags_of" = some (.ref (ga K "flags_of")) := let ⟨_, X, G⟩ := T.ex; glo_ok X G (saysM_test T.says 5 (t := fun K => (Fa.glo "flags_of").ok K) rfl)
theorem Txt.g_flag_at (T : Txt K mg) : mg "flag_at" = some (.ref (ga K "flag_at")) := let ⟨_, X, G⟩ := T.ex; glo_ok X G (saysM_test T.says 6 (t := fun K => (Fa.glo "flag_at").ok K) rfl)
theorem Txt.g_lags_with (T : Txt K mg) : mg "lags_with" = some (.ref (ga K "lags_with")) := let ⟨_, X, G⟩ := T.ex; glo_ok X G (saysM_test T.says 7 (t := fun K => (Fa.glo "lags_with").ok K) rfl)
theorem Txt.g_common_multiple (T : Txt K mg) : mg "common_multiple" = some (.ref (ga K "common_multiple")) := let ⟨_, X, G⟩ := T.ex; glo_ok X G (saysM_test T.says 8 (t := fun K => (Fa.glo "common_multiple").ok K) rfl)
theorem Txt.g_both_ends (T : Txt K mg) : mg "both_ends" = some (.ref (ga K "both_ends")) := let ⟨_, X, G⟩ := T.ex; glo_ok X G (saysM_test T.says 9 (t := fun K => (Fa.glo "both_ends").ok K) rfl)
theorem Txt.g_form_left (T : Txt K mg) : mg "form_left" = some (.ref (ga K "form_left")) := let ⟨_, X, G⟩ := T.ex; glo_ok X G (saysM_test T.says 10 (t := fun K => (Fa.glo "form_left").ok K) rfl)
theorem Txt.g_lags_of (T : Txt K mg) : mg "lags_of" = some (.ref (ga K "lags_of")) := let ⟨_, X, G⟩ := T.ex; glo_ok X G (saysM_test T.says 11 (t := fun K => (Fa.glo "lags_of").ok K) rfl)
theorem Txt.g_left_of (T : Txt K mg) : mg "left_of" = some (.ref (ga K "left_of")) := let ⟨_, X, G⟩ := T.ex; glo_ok X G (saysM_test T.says 12 (t := fun K => (Fa.glo "left_of").ok K) rfl)
theorem Txt.g_check_name (T : Txt K mg) : mg "check_name" = some (.ref (ga K "check_name")) := let ⟨_, X, G⟩ := T.ex; glo_ok X G (saysM_test T.says 13 (t := fun K => (Fa.glo "check_name").ok K) rfl)
theorem Txt.g_check_flag (T : Txt K mg) : mg "check_flag" = some (.ref (ga K "check_flag")) := let ⟨_, X, G⟩ := T.ex; glo_ok X G (saysM_test T.says 14 (t := fun K => (Fa.glo "check_flag").ok K) rfl)
theorem Txt.g_check_stations (T : Txt K mg) : mg "check_stations" = some (.ref (ga K "check_stations")) := let ⟨_, X, G⟩ := T.ex; glo_ok X G (saysM_test T.says 15 (t := fun K => (Fa.glo "check_stations").ok K) rfl)
theorem Txt.g_check_links (T : Txt K mg) : mg "check_links" = some (.ref (ga K "check_links")) := let ⟨_, X, G⟩ := T.ex; glo_ok X G (saysM_test T.says 16 (t := fun K => (Fa.glo "check_links").ok K) rfl)
theorem Txt.g_check_line (T : Txt K mg) : mg "check_line" = some (.ref (ga K "check_line")) := let ⟨_, X, G⟩ := T.ex; glo_ok X G (saysM_test T.says 17 (t := fun K => (Fa.glo "check_line").ok K) rfl)
theorem Txt.g_ends_of (T : Txt K mg) : mg "ends_of" = some (.ref (ga K "ends_of")) := let ⟨_, X, G⟩ := T.ex; glo_ok X G (saysM_test T.says 18 (t := fun K => (Fa.glo "ends_of").ok K) rfl)
theorem Txt.g_rings_from (T : Txt K mg) : mg "rings_from" = some (.ref (ga K "rings_from")) := let ⟨_, X, G⟩ := T.ex; glo_ok X G (saysM_test T.says 19 (t := fun K => (Fa.glo "rings_from").ok K) rfl)
theorem Txt.g_rings (T : Txt K mg) : mg "rings" = some (.ref (ga K "rings")) := let ⟨_, X, G⟩ := T.ex; glo_ok X G (saysM_test T.says 20 (t := fun K => (Fa.glo "rings").ok K) rfl)
theorem Txt.g_stuck (T : Txt K mg) : mg "stuck" = some (.ref (ga K "stuck")) := let ⟨_, X, G⟩ := T.ex; glo_ok X G (saysM_test T.says 21 (t := fun K => (Fa.glo "stuck").ok K) rfl)
theorem Txt.g_check_free (T : Txt K mg) : mg "check_free" = some (.ref (ga K "check_free")) := let ⟨_, X, G⟩ := T.ex; glo_ok X G (saysM_test T.says 22 (t := fun K => (Fa.glo "check_free").ok K) rfl)
theorem Txt.g_width_of (T : Txt K mg) : mg "width_of" = some (.ref (ga K "width_of")) := let ⟨_, X, G⟩ := T.ex; glo_ok X G (saysM_test T.says 23 (t := fun K => (Fa.glo "width_of").ok K) rfl)
theorem Txt.g_entries_of (T : Txt K mg) : mg "entries_of" = some (.ref (ga K "entries_of")) := let ⟨_, X, G⟩ := T.ex; glo_ok X G (saysM_test T.says 24 (t := fun K => (Fa.glo "entries_of").ok K) rfl)
theorem Txt.g_is_begun (T : Txt K mg) : mg "is_begun" = some (.ref (ga K "is_begun")) := let ⟨_, X, G⟩ := T.ex; glo_ok X G (saysM_test T.says 25 (t := fun K => (Fa.glo "is_begun").ok K) rfl)
theorem Txt.g_next_row (T : Txt K mg) : mg "next_row" = some (.ref (ga K "next_row")) := let ⟨_, X, G⟩ := T.ex; glo_ok X G (saysM_test T.says 26 (t := fun K => (Fa.glo "next_row").ok K) rfl)
theorem Txt.g_walked (T : Txt K mg) : mg "walked" = some (.ref (ga K "walked")) := let ⟨_, X, G⟩ := T.ex; glo_ok X G (saysM_test T.says 27 (t := fun K => (Fa.glo "walked").ok K) rfl)
theorem Txt.g_check_pair (T : Txt K mg) : mg "check_pair" = some (.ref (ga K "check_pair")) := let ⟨_, X, G⟩ := T.ex; glo_ok X G (saysM_test T.says 28 (t := fun K => (Fa.glo "check_pair").ok K) rfl)
theorem Txt.g_check_whole (T : Txt K mg) : mg "check_whole" = some (.ref (ga K "check_whole")) := let ⟨_, X, G⟩ := T.ex; glo_ok X G (saysM_test T.says 29 (t := fun K => (Fa.glo "check_whole").ok K) rfl)
theorem Txt.g_ordered (T : Txt K mg) : mg "ordered" = some (.ref (ga K "ordered")) := let ⟨_, X, G⟩ := T.ex; glo_ok X G (saysM_test T.says 30 (t := fun K => (Fa.glo "ordered").ok K) rfl)
theorem Txt.g_rank_of (T : Txt K mg) : mg "rank_of" = some (.ref (ga K "rank_of")) := let ⟨_, X, G⟩ := T.ex; glo_ok X G (saysM_test T.says 31 (t := fun K => (Fa.glo "rank_of").ok K) rfl)
theorem Txt.g_bad_lags (T : Txt K mg) : mg "bad_lags" = some (.ref (ga K "bad_lags")) := let ⟨_, X, G⟩ := T.ex; glo_ok X G (saysM_test T.says 32 (t := fun K => (Fa.glo "bad_lags").ok K) rfl)
theorem Txt.g_single_cases (T : Txt K mg) : mg "single_cases" = some (.ref (ga K "single_cases")) := let ⟨_, X, G⟩ := T.ex; glo_ok X G (saysM_test T.says 33 (t := fun K => (Fa.glo "single_cases").ok K) rfl)
theorem Txt.g_pair_cases (T : Txt K mg) : mg "pair_cases" = some (.ref (ga K "pair_cases")) := let ⟨_, X, G⟩ := T.ex; glo_ok X G (saysM_test T.says 34 (t := fun K => (Fa.glo "pair_cases").ok K) rfl)
theorem Txt.g_least_case (T : Txt K mg) : mg "least_case" = some (.ref (ga K "least_case")) := let ⟨_, X, G⟩ := T.ex; glo_ok X G (saysM_test T.says 35 (t := fun K => (Fa.glo "least_case").ok K) rfl)
theorem Txt.g_later_case (T : Txt K mg) : mg "later_case" = some (.ref (ga K "later_case")) := let ⟨_, X, G⟩ := T.ex; glo_ok X G (saysM_test T.says 36 (t := fun K => (Fa.glo "later_case").ok K) rfl)
theorem Txt.g_law_purl (T : Txt K mg) : mg "_law_purl" = some (.ref (ga K "_law_purl")) := let ⟨_, X, G⟩ := T.ex; glo_ok X G (saysM_test T.says 37 (t := fun K => (Fa.glo "_law_purl").ok K) rfl)
theorem Txt.g_law_dig (T : Txt K mg) : mg "_law_dig" = some (.ref (ga K "_law_dig")) := let ⟨_, X, G⟩ := T.ex; glo_ok X G (saysM_test T.says 38 (t := fun K => (Fa.glo "_law_dig").ok K) rfl)
theorem Txt.g_law_words (T : Txt K mg) : mg "_law_words" = some (.ref (ga K "_law_words")) := let ⟨_, X, G⟩ := T.ex; glo_ok X G (saysM_test T.says 39 (t := fun K => (Fa.glo "_law_words").ok K) rfl)
theorem Txt.g_law_tie (T : Txt K mg) : mg "_law_tie" = some (.ref (ga K "_law_tie")) := let ⟨_, X, G⟩ := T.ex; glo_ok X G (saysM_test T.says 40 (t := fun K => (Fa.glo "_law_tie").ok K) rfl)
theorem Txt.g_law_post (T : Txt K mg) : mg "_law_post" = some (.ref (ga K "_law_post")) := let ⟨_, X, G⟩ := T.ex; glo_ok X G (saysM_test T.says 41 (t := fun K => (Fa.glo "_law_post").ok K) rfl)
theorem Txt.g_law_chained (T : Txt K mg) : mg "_law_chained" = some (.ref (ga K "_law_chained")) := let ⟨_, X, G⟩ := T.ex; glo_ok X G (saysM_test T.says 42 (t := fun K => (Fa.glo "_law_chained").ok K) rfl)
theorem Txt.g_law_plan (T : Txt K mg) : mg "_law_plan" = some (.ref (ga K "_law_plan")) := let ⟨_, X, G⟩ := T.ex; glo_ok X G (saysM_test T.says 43 (t := fun K => (Fa.glo "_law_plan").ok K) rfl)
theorem Txt.g_law_swapped (T : Txt K mg) : mg "_law_swapped" = some (.ref (ga K "_law_swapped")) := let ⟨_, X, G⟩ := T.ex; glo_ok X G (saysM_test T.says 44 (t := fun K => (Fa.glo "_law_swapped").ok K) rfl)
theorem Txt.g_law_kin (T : Txt K mg) : mg "_law_kin" = some (.ref (ga K "_law_kin")) := let ⟨_, X, G⟩ := T.ex; glo_ok X G (saysM_test T.says 45 (t := fun K => (Fa.glo "_law_kin").ok K) rfl)
theorem Txt.g_law_line (T : Txt K mg) : mg "_law_line" = some (.ref (ga K "_law_line")) := let ⟨_, X, G⟩ := T.ex; glo_ok X G (saysM_test T.says 46 (t := fun K => (Fa.glo "_law_line").ok K) rfl)
theorem Txt.g_law_onset (T : Txt K mg) : mg "_law_onset" = some (.ref (ga K "_law_onset")) := let ⟨_, X, G⟩ := T.ex; glo_ok X G (saysM_test T.says 47 (t := fun K => (Fa.glo "_law_onset").ok K) rfl)
theorem Txt.g_law_settled (T : Txt K mg) : mg "_law_settled" = some (.ref (ga K "_law_settled")) := let ⟨_, X, G⟩ := T.ex; glo_ok X G (saysM_test T.says 48 (t := fun K => (Fa.glo "_law_settled").ok K) rfl)
theorem Txt.g_law_played (T : Txt K mg) : mg "_law_played" = some (.ref (ga K "_law_played")) := let ⟨_, X, G⟩ := T.ex; glo_ok X G (saysM_test T.says 49 (t := fun K => (Fa.glo "_law_played").ok K) rfl)
theorem Txt.g_law_ended (T : Txt K mg) : mg "_law_ended" = some (.ref (ga K "_law_ended")) := let ⟨_, X, G⟩ := T.ex; glo_ok X G (saysM_test T.says 50 (t := fun K => (Fa.glo "_law_ended").ok K) rfl)
theorem Txt.g_law_ranked (T : Txt K mg) : mg "_law_ranked" = some (.ref (ga K "_law_ranked")) := let ⟨_, X, G⟩ := T.ex; glo_ok X G (saysM_test T.says 51 (t := fun K => (Fa.glo "_law_ranked").ok K) rfl)
theorem Txt.g_law_later (T : Txt K mg) : mg "_law_later" = some (.ref (ga K "_law_later")) := let ⟨_, X, G⟩ := T.ex; glo_ok X G (saysM_test T.says 52 (t := fun K => (Fa.glo "_law_later").ok K) rfl)
theorem Txt.g_law_first (T : Txt K mg) : mg "_law_first" = some (.ref (ga K "_law_first")) := let ⟨_, X, G⟩ := T.ex; glo_ok X G (saysM_test T.says 53 (t := fun K => (Fa.glo "_law_first").ok K) rfl)
theorem Txt.g_law_fits (T : Txt K mg) : mg "_law_fits" = some (.ref (ga K "_law_fits")) := let ⟨_, X, G⟩ := T.ex; glo_ok X G (saysM_test T.says 54 (t := fun K => (Fa.glo "_law_fits").ok K) rfl)
theorem Txt.g_law_right (T : Txt K mg) : mg "_law_right" = some (.ref (ga K "_law_right")) := let ⟨_, X, G⟩ := T.ex; glo_ok X G (saysM_test T.says 55 (t := fun K => (Fa.glo "_law_right").ok K) rfl)
theorem Txt.g_law (T : Txt K mg) : mg "law" = some (.ref (ga K "law")) := let ⟨_, X, G⟩ := T.ex; glo_ok X G (saysM_test T.says 56 (t := fun K => (Fa.glo "law").ok K) rfl)
theorem Txt.g_Lags (T : Txt K mg) : mg "Lags" = some (.ref (ga K "Lags")) := let ⟨_, X, G⟩ := T.ex; glo_ok X G (saysM_test T.says 57 (t := fun K => (Fa.glo "Lags").ok K) rfl)
theorem Txt.g_FormedLags (T : Txt K mg) : mg "FormedLags" = some (.ref (ga K "FormedLags")) := let ⟨_, X, G⟩ := T.ex; glo_ok X G (saysM_test T.says 58 (t := fun K => (Fa.glo "FormedLags").ok K) rfl)
theorem Txt.g_Station (T : Txt K mg) : mg "Station" = some (.ref (ga K "Station")) := let ⟨_, X, G⟩ := T.ex; glo_ok X G (saysM_test T.says 59 (t := fun K => (Fa.glo "Station").ok K) rfl)
theorem Txt.g_Link (T : Txt K mg) : mg "Link" = some (.ref (ga K "Link")) := let ⟨_, X, G⟩ := T.ex; glo_ok X G (saysM_test T.says 60 (t := fun K => (Fa.glo "Link").ok K) rfl)
theorem Txt.g_Line (T : Txt K mg) : mg "Line" = some (.ref (ga K "Line")) := let ⟨_, X, G⟩ := T.ex; glo_ok X G (saysM_test T.says 61 (t := fun K => (Fa.glo "Line").ok K) rfl)
theorem Txt.g_Walk (T : Txt K mg) : mg "Walk" = some (.ref (ga K "Walk")) := let ⟨_, X, G⟩ := T.ex; glo_ok X G (saysM_test T.says 62 (t := fun K => (Fa.glo "Walk").ok K) rfl)
theorem Txt.g_Orders (T : Txt K mg) : mg "Orders" = some (.ref (ga K "Orders")) := let ⟨_, X, G⟩ := T.ex; glo_ok X G (saysM_test T.says 63 (t := fun K => (Fa.glo "Orders").ok K) rfl)
theorem Txt.f_isinstance (T : Txt K mg) : mg "isinstance" = Option.none := let ⟨_, X, G⟩ := T.ex; free_ok X G (x := "isinstance") (saysM_test T.says 64 (t := fun K => (Fa.free "isinstance").ok K) rfl)
theorem Txt.f_int (T : Txt K mg) : mg "int" = Option.none := let ⟨_, X, G⟩ := T.ex; free_ok X G (x := "int") (saysM_test T.says 65 (t := fun K => (Fa.free "int").ok K) rfl)
theorem Txt.f_bool (T : Txt K mg) : mg "bool" = Option.none := let ⟨_, X, G⟩ := T.ex; free_ok X G (x := "bool") (saysM_test T.says 66 (t := fun K => (Fa.free "bool").ok K) rfl)
theorem Txt.f_str (T : Txt K mg) : mg "str" = Option.none := let ⟨_, X, G⟩ := T.ex; free_ok X G (x := "str") (saysM_test T.says 67 (t := fun K => (Fa.free "str").ok K) rfl)
theorem Txt.f_tuple (T : Txt K mg) : mg "tuple" = Option.none := let ⟨_, X, G⟩ := T.ex; free_ok X G (x := "tuple") (saysM_test T.says 68 (t := fun K => (Fa.free "tuple").ok K) rfl)
theorem Txt.f_len (T : Txt K mg) : mg "len" = Option.none := let ⟨_, X, G⟩ := T.ex; free_ok X G (x := "len") (saysM_test T.says 69 (t := fun K => (Fa.free "len").ok K) rfl)
theorem Txt.f_all (T : Txt K mg) : mg "all" = Option.none := let ⟨_, X, G⟩ := T.ex; free_ok X G (x := "all") (saysM_test T.says 70 (t := fun K => (Fa.free "all").ok K) rfl)
theorem Txt.f_range (T : Txt K mg) : mg "range" = Option.none := let ⟨_, X, G⟩ := T.ex; free_ok X G (x := "range") (saysM_test T.says 71 (t := fun K => (Fa.free "range").ok K) rfl)
theorem Txt.f_list (T : Txt K mg) : mg "list" = Option.none := let ⟨_, X, G⟩ := T.ex; free_ok X G (x := "list") (saysM_test T.says 72 (t := fun K => (Fa.free "list").ok K) rfl)
theorem Txt.f_enumerate (T : Txt K mg) : mg "enumerate" = Option.none := let ⟨_, X, G⟩ := T.ex; free_ok X G (x := "enumerate") (saysM_test T.says 73 (t := fun K => (Fa.free "enumerate").ok K) rfl)
theorem Txt.f_max (T : Txt K mg) : mg "max" = Option.none := let ⟨_, X, G⟩ := T.ex; free_ok X G (x := "max") (saysM_test T.says 74 (t := fun K => (Fa.free "max").ok K) rfl)
theorem Txt.f_any (T : Txt K mg) : mg "any" = Option.none := let ⟨_, X, G⟩ := T.ex; free_ok X G (x := "any") (saysM_test T.says 75 (t := fun K => (Fa.free "any").ok K) rfl)
theorem Txt.f_sorted (T : Txt K mg) : mg "sorted" = Option.none := let ⟨_, X, G⟩ := T.ex; free_ok X G (x := "sorted") (saysM_test T.says 76 (t := fun K => (Fa.free "sorted").ok K) rfl)
theorem Txt.f_sum (T : Txt K mg) : mg "sum" = Option.none := let ⟨_, X, G⟩ := T.ex; free_ok X G (x := "sum") (saysM_test T.says 77 (t := fun K => (Fa.free "sum").ok K) rfl)
theorem Txt.f_abs (T : Txt K mg) : mg "abs" = Option.none := let ⟨_, X, G⟩ := T.ex; free_ok X G (x := "abs") (saysM_test T.says 78 (t := fun K => (Fa.free "abs").ok K) rfl)
theorem Txt.f_divmod (T : Txt K mg) : mg "divmod" = Option.none := let ⟨_, X, G⟩ := T.ex; free_ok X G (x := "divmod") (saysM_test T.says 79 (t := fun K => (Fa.free "divmod").ok K) rfl)
theorem Txt.f_repr (T : Txt K mg) : mg "repr" = Option.none := let ⟨_, X, G⟩ := T.ex; free_ok X G (x := "repr") (saysM_test T.says 80 (t := fun K => (Fa.free "repr").ok K) rfl)
theorem Txt.i_MOST_STATIONS (T : Txt K mg) : ∃ t, mg "MOST_STATIONS" = some (.int 6 t) := let ⟨_, X, G⟩ := T.ex; int_ok X G (saysM_test T.says 81 (t := fun K => (Fa.int "MOST_STATIONS" 6).ok K) rfl)
theorem Txt.i_MOST_LINKS (T : Txt K mg) : ∃ t, mg "MOST_LINKS" = some (.int 12 t) := let ⟨_, X, G⟩ := T.ex; int_ok X G (saysM_test T.says 82 (t := fun K => (Fa.int "MOST_LINKS" 12).ok K) rfl)
theorem Txt.i_MOST_HANDS (T : Txt K mg) : ∃ t, mg "MOST_HANDS" = some (.int 4 t) := let ⟨_, X, G⟩ := T.ex; int_ok X G (saysM_test T.says 83 (t := fun K => (Fa.int "MOST_HANDS" 4).ok K) rfl)
theorem Txt.i_MOST_STOCK (T : Txt K mg) : ∃ t, mg "MOST_STOCK" = some (.int 5 t) := let ⟨_, X, G⟩ := T.ex; int_ok X G (saysM_test T.says 84 (t := fun K => (Fa.int "MOST_STOCK" 5).ok K) rfl)
theorem Txt.i_MOST_SIGNS (T : Txt K mg) : ∃ t, mg "MOST_SIGNS" = some (.int 8 t) := let ⟨_, X, G⟩ := T.ex; int_ok X G (saysM_test T.says 85 (t := fun K => (Fa.int "MOST_SIGNS" 8).ok K) rfl)
theorem Txt.i_MOST_MEMBER (T : Txt K mg) : ∃ t, mg "MOST_MEMBER" = some (.int 1000 t) := let ⟨_, X, G⟩ := T.ex; int_ok X G (saysM_test T.says 86 (t := fun K => (Fa.int "MOST_MEMBER" 1000).ok K) rfl)
theorem Txt.i_MOST_PERIOD (T : Txt K mg) : ∃ t, mg "MOST_PERIOD" = some (.int 60 t) := let ⟨_, X, G⟩ := T.ex; int_ok X G (saysM_test T.says 87 (t := fun K => (Fa.int "MOST_PERIOD" 60).ok K) rfl)
theorem Txt.t_LETTERS (T : Txt K mg) : ∃ t, mg "LETTERS" = some (.str "abcdefghijklmnopqrstuvwxyz" t) := let ⟨_, X, G⟩ := T.ex; str_ok X G (saysM_test T.says 88 (t := fun K => (Fa.str "LETTERS" "abcdefghijklmnopqrstuvwxyz").ok K) rfl)
theorem Txt.t_DIGITS (T : Txt K mg) : ∃ t, mg "DIGITS" = some (.str "0123456789" t) := let ⟨_, X, G⟩ := T.ex; str_ok X G (saysM_test T.says 89 (t := fun K => (Fa.str "DIGITS" "0123456789").ok K) rfl)
theorem Txt.c_Lags (T : Txt K mg) : Cls K (ga K "Lags") := cls_ok (saysM_test T.says 90 (t := fun K => (Fa.cls "Lags").ok K) rfl)
theorem Txt.c_FormedLags (T : Txt K mg) : Cls K (ga K "FormedLags") := cls_ok (saysM_test T.says 91 (t := fun K => (Fa.cls "FormedLags").ok K) rfl)
theorem Txt.c_Station (T : Txt K mg) : Cls K (ga K "Station") := cls_ok (saysM_test T.says 92 (t := fun K => (Fa.cls "Station").ok K) rfl)
theorem Txt.c_Link (T : Txt K mg) : Cls K (ga K "Link") := cls_ok (saysM_test T.says 93 (t := fun K => (Fa.cls "Link").ok K) rfl)
theorem Txt.c_Line (T : Txt K mg) : Cls K (ga K "Line") := cls_ok (saysM_test T.says 94 (t := fun K => (Fa.cls "Line").ok K) rfl)
theorem Txt.c_Walk (T : Txt K mg) : Cls K (ga K "Walk") := cls_ok (saysM_test T.says 95 (t := fun K => (Fa.cls "Walk").ok K) rfl)
theorem Txt.c_Orders (T : Txt K mg) : Cls K (ga K "Orders") := cls_ok (saysM_test T.says 96 (t := fun K => (Fa.cls "Orders").ok K) rfl)
theorem Txt.ic_Lags (T : Txt K mg) : icB "Lags" K = true := saysM_test T.says 97 (t := icB "Lags") rfl
theorem Txt.ic_FormedLags (T : Txt K mg) : icB "FormedLags" K = true := saysM_test T.says 98 (t := icB "FormedLags") rfl
theorem Txt.ic_Station (T : Txt K mg) : icB "Station" K = true := saysM_test T.says 99 (t := icB "Station") rfl
theorem Txt.ic_Link (T : Txt K mg) : icB "Link" K = true := saysM_test T.says 100 (t := icB "Link") rfl
theorem Txt.ic_Line (T : Txt K mg) : icB "Line" K = true := saysM_test T.says 101 (t := icB "Line") rfl
theorem Txt.ic_Walk (T : Txt K mg) : icB "Walk" K = true := saysM_test T.says 102 (t := icB "Walk") rfl
theorem Txt.ic_Orders (T : Txt K mg) : icB "Orders" K = true := saysM_test T.says 103 (t := icB "Orders") rfl
theorem Txt.mk_Lags (T : Txt K mg) : Mk K (ga K "Lags") (ma K (ga K "Lags") "__init__") := mkr_ok (saysM_test T.says 104 (t := fun K => (Fa.mkr "Lags").ok K) rfl)
theorem Txt.mk_FormedLags (T : Txt K mg) : Mk K (ga K "FormedLags") (ma K (ga K "FormedLags") "__init__") := mkr_ok (saysM_test T.says 105 (t := fun K => (Fa.mkr "FormedLags").ok K) rfl)
theorem Txt.mk_Station (T : Txt K mg) : Mk K (ga K "Station") (ma K (ga K "Station") "__init__") := mkr_ok (saysM_test T.says 106 (t := fun K => (Fa.mkr "Station").ok K) rfl)
theorem Txt.mk_Link (T : Txt K mg) : Mk K (ga K "Link") (ma K (ga K "Link") "__init__") := mkr_ok (saysM_test T.says 107 (t := fun K => (Fa.mkr "Link").ok K) rfl)
theorem Txt.mk_Line (T : Txt K mg) : Mk K (ga K "Line") (ma K (ga K "Line") "__init__") := mkr_ok (saysM_test T.says 108 (t := fun K => (Fa.mkr "Line").ok K) rfl)
theorem Txt.mk_Walk (T : Txt K mg) : Mk K (ga K "Walk") (ma K (ga K "Walk") "__init__") := mkr_ok (saysM_test T.says 109 (t := fun K => (Fa.mkr "Walk").ok K) rfl)
theorem Txt.mk_Orders (T : Txt K mg) : Mk K (ga K "Orders") (ma K (ga K "Orders") "__init__") := mkr_ok (saysM_test T.says 110 (t := fun K => (Fa.mkr "Orders").ok K) rfl)
theorem Txt.na_Lags_form (T : Txt K mg) : NoAttr K (ga K "Lags") "form" := noat_ok (saysM_test T.says 111 (t := fun K => (Fa.noat "Lags" "form").ok K) rfl)
theorem Txt.na_FormedLags_form (T : Txt K mg) : NoAttr K (ga K "FormedLags") "form" := noat_ok (saysM_test T.says 112 (t := fun K => (Fa.noat "FormedLags" "form").ok K) rfl)
theorem Txt.na_Station_sides (T : Txt K mg) : NoAttr K (ga K "Station") "sides" := noat_ok (saysM_test T.says 113 (t := fun K => (Fa.noat "Station" "sides").ok K) rfl)
theorem Txt.na_Link_sides (T : Txt K mg) : NoAttr K (ga K "Link") "sides" := noat_ok (saysM_test T.says 114 (t := fun K => (Fa.noat "Link" "sides").ok K) rfl)
theorem Txt.na_Line_sides (T : Txt K mg) : NoAttr K (ga K "Line") "sides" := noat_ok (saysM_test T.says 115 (t := fun K => (Fa.noat "Line" "sides").ok K) rfl)
theorem Txt.na_Walk_rows (T : Txt K mg) : NoAttr K (ga K "Walk") "rows" := noat_ok (saysM_test T.says 116 (t := fun K => (Fa.noat "Walk" "rows").ok K) rfl)
theorem Txt.na_Walk_begin_row (T : Txt K mg) : NoAttr K (ga K "Walk") "begin_row" := noat_ok (saysM_test T.says 117 (t := fun K => (Fa.noat "Walk" "begin_row").ok K) rfl)
theorem Txt.na_Walk_end_row (T : Txt K mg) : NoAttr K (ga K "Walk") "end_row" := noat_ok (saysM_test T.says 118 (t := fun K => (Fa.noat "Walk" "end_row").ok K) rfl)
theorem Txt.na_Orders_known (T : Txt K mg) : NoAttr K (ga K "Orders") "known" := noat_ok (saysM_test T.says 119 (t := fun K => (Fa.noat "Orders" "known").ok K) rfl)
theorem Txt.na_Orders_outlets (T : Txt K mg) : NoAttr K (ga K "Orders") "outlets" := noat_ok (saysM_test T.says 120 (t := fun K => (Fa.noat "Orders" "outlets").ok K) rfl)
theorem Txt.na_Orders_found (T : Txt K mg) : NoAttr K (ga K "Orders") "found" := noat_ok (saysM_test T.says 121 (t := fun K => (Fa.noat "Orders" "found").ok K) rfl)
theorem Txt.na_Orders_none (T : Txt K mg) : NoAttr K (ga K "Orders") "none" := noat_ok (saysM_test T.says 122 (t := fun K => (Fa.noat "Orders" "none").ok K) rfl)
theorem Txt.m_Lags_contains (T : Txt K mg) : Meth K (ga K "Lags") "__contains__" (ma K (ga K "Lags") "__contains__") := meth_ok (saysM_test T.says 123 (t := fun K => (Fa.meth "Lags" "__contains__").ok K) rfl)
theorem Txt.m_Line_len (T : Txt K mg) : Meth K (ga K "Line") "__len__" (ma K (ga K "Line") "__len__") := meth_ok (saysM_test T.says 124 (t := fun K => (Fa.meth "Line" "__len__").ok K) rfl)
theorem Txt.m_Walk_lags_at (T : Txt K mg) : Meth K (ga K "Walk") "lags_at" (ma K (ga K "Walk") "lags_at") := meth_ok (saysM_test T.says 125 (t := fun K => (Fa.meth "Walk" "lags_at").ok K) rfl)
theorem Txt.m_Walk_ends (T : Txt K mg) : Meth K (ga K "Walk") "ends" (ma K (ga K "Walk") "ends") := meth_ok (saysM_test T.says 126 (t := fun K => (Fa.meth "Walk" "ends").ok K) rfl)
theorem Txt.m_Walk_begins (T : Txt K mg) : Meth K (ga K "Walk") "begins" (ma K (ga K "Walk") "begins") := meth_ok (saysM_test T.says 127 (t := fun K => (Fa.meth "Walk" "begins").ok K) rfl)
theorem Txt.m_Orders_to_outlet (T : Txt K mg) : Meth K (ga K "Orders") "to_outlet" (ma K (ga K "Orders") "to_outlet") := meth_ok (saysM_test T.says 128 (t := fun K => (Fa.meth "Orders" "to_outlet").ok K) rfl)
theorem Txt.m_Orders_between (T : Txt K mg) : Meth K (ga K "Orders") "between" (ma K (ga K "Orders") "between") := meth_ok (saysM_test T.says 129 (t := fun K => (Fa.meth "Orders" "between").ok K) rfl)
theorem Txt.m_FormedLags_contains (T : Txt K mg) : Meth K (ga K "FormedLags") "__contains__" (ma K (ga K "FormedLags") "__contains__") := meth_ok (saysM_test T.says 130 (t := fun K => (Fa.meth "FormedLags" "__contains__").ok K) rfl)
theorem Txt.p_Lags_members (T : Txt K mg) : PropOf K (ga K "Lags") "members" (ma K (ga K "Lags") "members") (prG K "Lags" "members") := prB_ok (saysM_test T.says 131 (t := prB "Lags" "members") rfl)
theorem Txt.p_Lags_first (T : Txt K mg) : PropOf K (ga K "Lags") "first" (ma K (ga K "Lags") "first") (prG K "Lags" "first") := prB_ok (saysM_test T.says 132 (t := prB "Lags" "first") rfl)
theorem Txt.p_Station_name (T : Txt K mg) : PropOf K (ga K "Station") "name" (ma K (ga K "Station") "name") (prG K "Station" "name") := prB_ok (saysM_test T.says 133 (t := prB "Station" "name") rfl)
theorem Txt.p_Station_hands (T : Txt K mg) : PropOf K (ga K "Station") "hands" (ma K (ga K "Station") "hands") (prG K "Station" "hands") := prB_ok (saysM_test T.says 134 (t := prB "Station" "hands") rfl)
theorem Txt.p_Station_timed (T : Txt K mg) : PropOf K (ga K "Station") "timed" (ma K (ga K "Station") "timed") (prG K "Station" "timed") := prB_ok (saysM_test T.says 135 (t := prB "Station" "timed") rfl)
theorem Txt.p_Link_source (T : Txt K mg) : PropOf K (ga K "Link") "source" (ma K (ga K "Link") "source") (prG K "Link" "source") := prB_ok (saysM_test T.says 136 (t := prB "Link" "source") rfl)
theorem Txt.p_Link_target (T : Txt K mg) : PropOf K (ga K "Link") "target" (ma K (ga K "Link") "target") (prG K "Link" "target") := prB_ok (saysM_test T.says 137 (t := prB "Link" "target") rfl)
theorem Txt.p_Link_stock (T : Txt K mg) : PropOf K (ga K "Link") "stock" (ma K (ga K "Link") "stock") (prG K "Link" "stock") := prB_ok (saysM_test T.says 138 (t := prB "Link" "stock") rfl)
theorem Txt.p_Link_early (T : Txt K mg) : PropOf K (ga K "Link") "early" (ma K (ga K "Link") "early") (prG K "Link" "early") := prB_ok (saysM_test T.says 139 (t := prB "Link" "early") rfl)
theorem Txt.p_Line_stations (T : Txt K mg) : PropOf K (ga K "Line") "stations" (ma K (ga K "Line") "stations") (prG K "Line" "stations") := prB_ok (saysM_test T.says 140 (t := prB "Line" "stations") rfl)
theorem Txt.p_Line_links (T : Txt K mg) : PropOf K (ga K "Line") "links" (ma K (ga K "Line") "links") (prG K "Line" "links") := prB_ok (saysM_test T.says 141 (t := prB "Line" "links") rfl)
theorem Txt.p_Line_outlet (T : Txt K mg) : PropOf K (ga K "Line") "outlet" (ma K (ga K "Line") "outlet") (prG K "Line" "outlet") := prB_ok (saysM_test T.says 142 (t := prB "Line" "outlet") rfl)
theorem Txt.p_Line_names (T : Txt K mg) : PropOf K (ga K "Line") "names" (ma K (ga K "Line") "names") (prG K "Line" "names") := prB_ok (saysM_test T.says 143 (t := prB "Line" "names") rfl)
theorem Txt.p_Line_timed (T : Txt K mg) : PropOf K (ga K "Line") "timed" (ma K (ga K "Line") "timed") (prG K "Line" "timed") := prB_ok (saysM_test T.says 144 (t := prB "Line" "timed") rfl)
theorem Txt.p_FormedLags_members (T : Txt K mg) : PropOf K (ga K "FormedLags") "members" (ma K (ga K "FormedLags") "members") (prG K "FormedLags" "members") := prB_ok (saysM_test T.says 145 (t := prB "FormedLags" "members") rfl)
theorem Txt.p_FormedLags_first (T : Txt K mg) : PropOf K (ga K "FormedLags") "first" (ma K (ga K "FormedLags") "first") (prG K "FormedLags" "first") := prB_ok (saysM_test T.says 146 (t := prB "FormedLags" "first") rfl)
theorem Txt.sm_contains (T : Txt K mg) : ma K (ga K "FormedLags") "__contains__" = ma K (ga K "Lags") "__contains__" := of_decide_eq_true (saysM_test T.says 147 (t := sameB (fun K => ma K (ga K "FormedLags") "__contains__") (fun K => ma K (ga K "Lags") "__contains__")) rfl)
theorem Txt.sp_members (T : Txt K mg) : prG K "FormedLags" "members" = prG K "Lags" "members" := of_decide_eq_true (saysM_test T.says 148 (t := sameB (fun K => prG K "FormedLags" "members") (fun K => prG K "Lags" "members")) rfl)
theorem Txt.sp_first (T : Txt K mg) : prG K "FormedLags" "first" = prG K "Lags" "first" := of_decide_eq_true (saysM_test T.says 149 (t := sameB (fun K => prG K "FormedLags" "first") (fun K => prG K "Lags" "first")) rfl)
theorem Txt.t0 (T : Txt K mg) (H : Hp) : SqT K H (lags_t0 K) [] := tup0B_ok (saysM_test T.says 150 (t := tup0B lags_t0) rfl) H
theorem Txt.t1 (T : Txt K mg) (H : Hp) : SqT K H (lags_t1 K) [] := tup0B_ok (saysM_test T.says 151 (t := tup0B lags_t1) rfl) H
end
end Ow
namespace Ow
open PySem PySem.Spec PyProof.Rows L2 He
abbrev Rw : PySem.W.OpenRow := PySem.W.OpenLaw.row PySem.Challenge.rw_owntimes_k32_whole_least_cases_by_trying
def ka0 : List Addr := [3, 578, 579, 606, 607, 698, 745, 746, 759, 814, 815, 1017, 1018, 1131, 1132, 1187, 1188, 1245, 439, 440, 441, 480, 488, 697, 713, 721, 729, 758, 774, 782]
def ka1 : List Addr := [790, 798, 896, 904, 912, 918, 924, 371, 376, 388, 393, 400, 407, 414, 448, 479, 487, 503, 604, 616, 630, 637, 642, 668, 675, 682, 689, 705, 712, 720]
def ka2 : List Addr := [728, 766, 773, 781, 789, 797, 826, 833, 878, 895, 903, 911, 917, 923, 931, 1041, 1046, 1053, 1060, 1065, 1072, 1077, 1084, 1091, 1096, 1110, 1115, 1122, 1129, 1143]
def ka3 : List Addr := [1157, 1164, 1171, 1199, 1206, 1213, 1218, 1225, 1230, 1237, 1244, 1252, 1259, 1266, 1271, 1278, 1285, 1290, 1295, 1300, 1307, 1312, 1319, 1324, 1329, 1334, 1339, 1346, 1351, 1358]
def ka4 : List Addr := [1365, 1370, 370, 375, 387, 392, 399, 406, 413, 447, 478, 486, 502, 603, 615, 629, 636, 641, 667, 674, 681, 688, 704, 711, 719, 727, 765, 772, 780, 788]
def ka5 : List Addr := [796, 825, 832, 877, 894, 902, 910, 916, 922, 930, 1040, 1045, 1052, 1059, 1064, 1071, 1076, 1083, 1090, 1095, 1109, 1114, 1121, 1128, 1142, 1156, 1163, 1170, 1198, 1205]
def ka6 : List Addr := [1212, 1217, 1224, 1229, 1236, 1243, 1251, 1258, 1265, 1270, 1277, 1284, 1289, 1294, 1299, 1306, 1311, 1318, 1323, 1328, 1333, 1338, 1345, 1350, 1357, 1364, 1369]
def kAdr : List Addr := ka0 ++ (ka1 ++ (ka2 ++ (ka3 ++ (ka4 ++ (ka5 ++ (ka6))))))
abbrev hk : PySem.W.Hook := hookM kAdr cs ds
def ob (s : PySem.W.SharedT) : AlM := obsMG kAdr cs ds (HandSHeadRun.getT s)
theorem ob_eq (s : PySem.W.SharedT) : ob s = hk.obs s.abs := obsMG_eq (HandSHeadRun.getT_eq s)
def hn0 : List Str := ["_wall", "WrongValue", "InvalidPeriod", "InvalidText", "InvalidName", "InvalidHands", "InvalidStock", "InvalidFlag", "InvalidOutlet", "NotLags", "NotALine", "InvalidNumbers", "InvalidStations", "InvalidLinks", "WrongName", "UnknownName", "Taken", "NoAnswer", "TooMany", "Stuck"]
def hn1 : List Str := ["MOST_STATIONS", "MOST_LINKS", "MOST_HANDS", "MOST_STOCK", "MOST_LAGS", "LETTERS", "DIGITS", "MOST_SIGNS", "is_integer", "is_name", "numeral_of", "MOST_MEMBER", "MOST_PERIOD", "MOST_READ", "check_numbers", "least_period", "least_form", "flags_of", "flag_at", "text_of"]
def hn2 : List Str := ["text_of_lagsets", "period_in", "form_in", "Lags", "check_lags", "FormedLags", "lags_with", "bounded", "common_multiple", "both_ends", "form_left", "mask_of", "mask_of_sums", "form_of_sums", "lags_of", "left_of", "check_name", "check_flag", "Station", "Link"]
def hn3 : List Str := ["check_stations", "check_links", "hands_in", "station_in", "link_in", "line_with", "line_in", "Line", "text_of_lines", "place_of", "check_line", "ends_of", "rings_from", "rings", "stuck", "check_free", "width_of", "entries_of", "is_begun", "next_row"]
def hn4 : List Str := ["Walk", "walked", "Orders", "check_pair", "check_whole", "ordered", "rank_of", "bad_lags", "single_cases", "pair_cases", "least_case", "later_case", "_law_purl", "_law_dig", "_law_words", "_law_tie", "_law_post", "_law_chained", "_law_plan", "_law_swapped"]
def hn5 : List Str := ["_law_kin", "_law_line", "_law_onset", "_law_settled", "_law_played", "_law_ended", "_law_ranked", "_law_later", "_law_first", "_law_fits", "_law_right"]
def hnames : List Str := hn0 ++ (hn1 ++ (hn2 ++ (hn3 ++ (hn4 ++ (hn5)))))
open PySem.W PySem.Calls HandSHeadRun in
theorem head_runA1 (w : World) (os : OsState) : (endF (stepQ (denQ tabQ) Rw.prog w) 30000 Rw.prog w os).map (fun s => looksF Rw.prog (boot_heap w.params) s.abs) = some true := by
  kernel_rfl
open PySem.W PySem.Calls HandSHeadRun in
theorem head_runA2 (w : World) (os : OsState) : (endF (stepQ (denQ tabQ) Rw.prog w) 30000 Rw.prog w os).map (fun s => seenQ (view Rw.prog [121]) hnames (importedModules Rw.prog.main.body) (fun s => xlAt (view Rw.prog [121]) [] s && recOk Rw.toRowW.records s) s.abs) = some (openGood (view Rw.prog [121]) hnames) := by
  kernel_rfl
open PySem.W PySem.Calls HandSHeadRun in
theorem head_runB1 (w : World) (os : OsState) : (endF (stepQ (denQ tabQ) Rw.prog w) 30000 Rw.prog w os).map (fun s => obsMG kAdr (cs.take 70) (ds.take 30) (getT s)) = some (valM (ds.take 30)) := by
  kernel_rfl
open PySem.W PySem.Calls HandSHeadRun in
theorem head_runB2 (w : World) (os : OsState) : (endF (stepQ (denQ tabQ) Rw.prog w) 30000 Rw.prog w os).map (fun s => obsMG kAdr ((cs.drop 70).take 80) ((ds.drop 30).take 30) (getT s)) = some (valM ((ds.drop 30).take 30)) := by
  kernel_rfl
open PySem.W PySem.Calls HandSHeadRun in
theorem head_runB3 (w : World) (os : OsState) : (endF (stepQ (denQ tabQ) Rw.prog w) 30000 Rw.prog w os).map (fun s => obsMG kAdr ((cs.drop 70).drop 80) ((ds.drop 30).drop 30) (getT s)) = some (valM ((ds.drop 30).drop 30)) := by
  kernel_rfl
theorem obsM_app {c1 c2 : List Tst} {d1 d2 : List DM} {K : PySem.W.Frag} (h1 : obsM c1 d1 K = valM d1) (h2 : obsM c2 d2 K = valM d2) : obsM (c1 ++ c2) (d1 ++ d2) K = valM (d1 ++ d2) := by
  have a1 := congrArg Prod.fst h1
  have a2 := congrArg Prod.fst h2
  have b1 := congrArg Prod.snd h1
  have b2 := congrArg Prod.snd h2
  replace a1 : (c1.all (fun c => c K) && d1.all (fun d => d.good K)) = true := a1
  replace a2 : (c2.all (fun c => c K) && d2.all (fun d => d.good K)) = true := a2
  replace b1 : (d1.map fun d => fnA K (d.adr K)) = d1.map DM.val := b1
  replace b2 : (d2.map fun d => fnA K (d.adr K)) = d2.map DM.val := b2
  rw [Bool.and_eq_true] at a1 a2
  show (((c1 ++ c2).all (fun c => c K) && (d1 ++ d2).all (fun d => d.good K)), (d1 ++ d2).map fun d => fnA K (d.adr K)) = (true, (d1 ++ d2).map DM.val)
  rw [List.all_append, List.all_append, List.map_append, List.map_append, a1.1, a1.2, a2.1, a2.2, b1, b2]; rfl
theorem head_run (w : World) : HandSHeadRun.RunEq Rw (PySem.W.view Rw.prog [121]) hk ob 30000 hnames w := by
  intro os
  have a1 := head_runA1 w os
  have a2 := head_runA2 w os
  have b1 := head_runB1 w os
  have b2 := head_runB2 w os
  have b3 := head_runB3 w os
  revert a1 a2 b1 b2 b3
  generalize HandSHeadRun.endF (HandSHeadRun.stepQ (HandSHeadRun.denQ HandSHeadRun.tabQ) Rw.prog w) 30000 Rw.prog w os = z
  intro a1 a2 b1 b2 b3
  cases z with
  | none => cases a1
  | some s =>
    have a1' := Option.some.inj a1
    have a2' := Option.some.inj a2
    have b1' : obsM (cs.take 70) (ds.take 30) (frG (HandSHeadRun.getT s) kAdr) = valM (ds.take 30) := Option.some.inj b1
    have b2' : obsM ((cs.drop 70).take 80) ((ds.drop 30).take 30) (frG (HandSHeadRun.getT s) kAdr) = valM ((ds.drop 30).take 30) := Option.some.inj b2
    have b3' : obsM ((cs.drop 70).drop 80) ((ds.drop 30).drop 30) (frG (HandSHeadRun.getT s) kAdr) = valM ((ds.drop 30).drop 30) := Option.some.inj b3
    have b' : obsM cs ds (frG (HandSHeadRun.getT s) kAdr) = valM ds := by
      have h := obsM_app b1' (obsM_app b2' b3')
      rw [List.take_append_drop, List.take_append_drop, List.take_append_drop, List.take_append_drop] at h
      exact h
    have b2'' : ob s = valM ds := b'
    show some (_, _, ob s) = some (_, _, valM ds)
    rw [b2'']
    exact congrArg some (Prod.ext a1' (Prod.ext a2' rfl))
end Ow
namespace Ow
open PySem PySem.Spec PyProof.Rows L2

/-! ### what a value is, as it stands in a heap that only grows -/
structure VP where
  p : V → Hp → Prop
  mono : ∀ {v : V} {H H' : Hp}, Same H H' → p v H → p v H'
def vIs (u : V) : VP := ⟨fun v _ => v = u, fun _ h => h⟩
abbrev vI (i : Int) : VP := vIs (.int i)
abbrev vB (b : Bool) : VP := vIs (.bl b)
abbrev vS (s : Str) : VP := vIs (.str s)
abbrev vN : VP := vIs .non
abbrev vR (a : Addr) : VP := vIs (.ref a)
def vAny : VP := ⟨fun _ _ => True, fun _ h => h⟩
abbrev PV (Ps : List VP) (vs : List V) (H : Hp) : Prop := Paired (fun (P : VP) (v : V) => P.p v H) Ps vs
theorem PV.mono {Ps : List VP} {vs : List V} {H H' : Hp} (s : Same H H') (h : PV Ps vs H) : PV Ps vs H' := Paired.mapP h fun P _ q => P.mono s q
theorem PV.get : ∀ {Ps : List VP} {vs : List V} {H : Hp} {i : Nat} {P : VP}, PV Ps vs H → Ps[i]? = some P → ∃ v, vs[i]? = some v ∧ P.p v H
  | _, _, _, _, _, .nil, e => by simp at e
  | _, _, _, 0, _, .cons r _, e => by simp at e; subst e; exact ⟨_, rfl, r⟩
  | _, _, _, i + 1, P, .cons _ t, e => by
    obtain ⟨u, h1, h2⟩ := PV.get (i := i) (P := P) t (by simpa using e)
    exact ⟨u, by simpa using h1, h2⟩
theorem PV.getV : ∀ {Ps : List VP} {vs : List V} {H : Hp} {i : Nat} {v : V}, PV Ps vs H → vs[i]? = some v → ∃ P, Ps[i]? = some P ∧ P.p v H
  | _, _, _, _, _, .nil, e => by simp at e
  | _, _, _, 0, _, .cons r _, e => by simp at e; subst e; exact ⟨_, rfl, r⟩
  | _, _, _, i + 1, P, .cons _ t, e => by
    obtain ⟨u, h1, h2⟩ := PV.getV (i := i) (v := P) t (by simpa using e)
    exact ⟨u, by simpa using h1, h2⟩
theorem PV.append : ∀ {Ps Qs : List VP} {vs us : List V} {H : Hp}, PV Ps vs H → PV Qs us H → PV (Ps ++ Qs) (vs ++ us) H
  | _, _, _, _, _, .nil, s => s
  | _, _, _, _, _, .cons r t, s => .cons r (PV.append t s)
theorem PV.take : ∀ {Ps : List VP} {vs : List V} {H : Hp} (n : Nat), PV Ps vs H → PV (Ps.take n) (vs.take n) H
  | _, _, _, 0, _ => .nil
  | _, _, _, _ + 1, .nil => .nil
  | _, _, _, n + 1, .cons r t => .cons r (PV.take n t)
theorem PV.drop : ∀ {Ps : List VP} {vs : List V} {H : Hp} (n : Nat), PV Ps vs H → PV (Ps.drop n) (vs.drop n) H
  | _, _, _, 0, r => r
  | _, _, _, _ + 1, .nil => .nil
  | _, _, _, n + 1, .cons _ t => PV.drop n t
theorem PV.set {P : VP} {v : V} {H : Hp} (r : P.p v H) : ∀ {Ps : List VP} {vs : List V} (i : Nat), PV Ps vs H → PV (Ps.set i P) (vs.set i v) H
  | _, _, _, .nil => .nil
  | _, _, 0, .cons _ t => .cons r t
  | _, _, i + 1, .cons q t => .cons q (PV.set r i t)
theorem PV.reverse {H : Hp} : ∀ {Ps : List VP} {vs : List V}, PV Ps vs H → PV Ps.reverse vs.reverse H
  | _, _, .nil => .nil
  | _, _, .cons r t => by
    rw [List.reverse_cons, List.reverse_cons]
    exact PV.append (PV.reverse t) (.cons r .nil)
theorem PV.dropLast {H : Hp} : ∀ {Ps : List VP} {vs : List V}, PV Ps vs H → PV Ps.dropLast vs.dropLast H
  | _, _, .nil => .nil
  | _, _, .cons r .nil => .nil
  | _, _, .cons r (.cons q t) => .cons r (PV.dropLast (.cons q t))
theorem PV.ints {H : Hp} : ∀ {ns : List Int} {vs : List V}, PV (ns.map vI) vs H → vs = ns.map V.int
  | [], _, .nil => rfl
  | n :: ns, _, .cons r t => by
    have e : _ = V.int n := r
    rw [e, PV.ints t]; rfl
theorem PV.bools {H : Hp} : ∀ {ns : List Bool} {vs : List V}, PV (ns.map vB) vs H → vs = ns.map V.bl
  | [], _, .nil => rfl
  | n :: ns, _, .cons r t => by
    have e : _ = V.bl n := r
    rw [e, PV.bools t]; rfl
theorem PV.strs {H : Hp} : ∀ {ns : List Str} {vs : List V}, PV (ns.map vS) vs H → vs = ns.map V.str
  | [], _, .nil => rfl
  | n :: ns, _, .cons r t => by
    have e : _ = V.str n := r
    rw [e, PV.strs t]; rfl
theorem PV.of_is {H : Hp} : ∀ (us : List V), PV (us.map vIs) us H
  | [] => .nil
  | _ :: us => .cons rfl (PV.of_is us)

/-- a list, a tuple, an instance with exactly these attributes -/
def vL (Ps : List VP) : VP := ⟨fun v H => ∃ a vs, v = .ref a ∧ H a = some (.lst vs) ∧ PV Ps vs H, fun s ⟨a, vs, e, h, q⟩ => ⟨a, vs, e, s _ _ h, q.mono s⟩⟩
theorem SqT.same {K : PySem.W.Frag} {H H' : Hp} {a : Addr} {xs : List V} (e : Same H H') (h : SqT K H a xs) : SqT K H' a xs := by
  rcases h with (h | ⟨o, h⟩) | h
  · exact .inl (.inl (e _ _ h))
  · exact .inl (.inr ⟨o, e _ _ h⟩)
  · exact .inr h
def vT (K : PySem.W.Frag) (Ps : List VP) : VP := ⟨fun v H => ∃ a vs, v = .ref a ∧ SqT K H a vs ∧ PV Ps vs H, fun s ⟨a, vs, e, h, q⟩ => ⟨a, vs, e, SqT.same s h, q.mono s⟩⟩
def vO (C : Addr) (fs : List (Str × VP)) : VP := ⟨fun v H => ∃ a dx vs, v = .ref a ∧ H a = some (.ins C dx ((fs.map Prod.fst).zip vs)) ∧ PV (fs.map Prod.snd) vs H, fun s ⟨a, dx, vs, e, h, q⟩ => ⟨a, dx, vs, e, s _ _ h, PV.mono s q⟩⟩
def vEx {α : Type} (φ : α → Prop) (F : α → VP) : VP := ⟨fun v H => ∃ x, φ x ∧ (F x).p v H, fun s ⟨x, h, q⟩ => ⟨x, h, (F x).mono s q⟩⟩
def vOr (P Q : VP) : VP := ⟨fun v H => P.p v H ∨ Q.p v H, fun s h => h.imp (P.mono s) (Q.mono s)⟩

/-! ### what stands at an address that is still ours alone -/
structure OP where
  p : HO → Hp → Prop
  mono : ∀ {o : HO} {H H' : Hp}, Same H H' → p o H → p o H'
def oL (Ps : List VP) : OP := ⟨fun o G => ∃ vs, o = .lst vs ∧ PV Ps vs G, fun s ⟨vs, e, q⟩ => ⟨vs, e, q.mono s⟩⟩
def oI (C dx : Addr) (fs : List (Str × VP)) : OP := ⟨fun o G => ∃ vs, o = .ins C dx ((fs.map Prod.fst).zip vs) ∧ PV (fs.map Prod.snd) vs G, fun s ⟨vs, e, q⟩ => ⟨vs, e, PV.mono s q⟩⟩

/-! ### the state -/
abbrev Cn := List (Option VP)
abbrev Om := List (Addr × OP)
structure Ok (H0 : Hp) (Γ : Cn) (Ω : Om) (σ : L2.St) (G H : Hp) : Prop where
  gh : Same G H
  len : σ.length = Γ.length
  im : ∀ (i : Nat) (P : VP), Γ[i]? = some (some P) → ∃ v, σ[i]? = some (some v) ∧ P.p v G
  ow : ∀ q ∈ Ω, H0 q.1 = none ∧ G q.1 = none ∧ ∃ o, H q.1 = some o ∧ q.2.p o G
  nd : (Ω.map (·.1)).Nodup
/-- G, H behind G0, over the heap H0 at the entry -/
structure Grow (G0 H0 G H : Hp) : Prop where
  g : Same G0 G
  h : Same H0 H
  out : ∀ b o, H0 b = some o → G0 b = none → G b = none
def Sat (G0 H0 : Hp) (Γ : Cn) (Ω : Om) (σ : L2.St) (H : Hp) : Prop := ∃ G, Grow G0 H0 G H ∧ Ok H0 Γ Ω σ G H
theorem Grow.refl {G H : Hp} : Grow G H G H := ⟨Same.refl _, Same.refl _, fun _ _ _ e => e⟩
/-- rebased: G0's place taken by G1 -/
theorem Grow.trans {G0 H0 G1 H1 G2 H2 : Hp} (a : Grow G0 H0 G1 H1) (b : Grow G1 H0 G2 H2) : Grow G0 H0 G2 H2 :=
  ⟨a.g.trans b.g, b.h, fun x o e n => b.out x o e (a.out x o e n)⟩
theorem Grow.self {G0 H0 G H : Hp} (a : Grow G0 H0 G H) : Grow G H0 G H := ⟨Same.refl _, a.h, fun _ _ _ e => e⟩

/-- one operation's (or call's) step: what was tracked stays, what was not known to G stays unknown -/
structure Step (G H G' H' : Hp) : Prop where
  g : Same G G'
  h : Same H H'
  gh : Same G' H'
  out : ∀ b o, H b = some o → G b = none → G' b = none
theorem Step.refl {G H : Hp} (s : Same G H) : Step G H G H := ⟨Same.refl _, Same.refl _, s, fun _ _ _ e => e⟩
theorem Step.trans {G H G1 H1 G2 H2 : Hp} (a : Step G H G1 H1) (b : Step G1 H1 G2 H2) : Step G H G2 H2 :=
  ⟨a.g.trans b.g, a.h.trans b.h, b.gh, fun x o e n => b.out x o (a.h _ _ e) (a.out x o e n)⟩
theorem Same.none {G H : Hp} (s : Same G H) {a : Addr} (h : H a = Option.none) : G a = Option.none := s.free h
theorem Step.new {G H : Hp} (s : Same G H) {a : Addr} {o : HO} (h : H a = Option.none) : Step G H (upd G a o) (upd H a o) := by
  refine ⟨fun b u e => ?_, fun b u e => ?_, fun b u e => ?_, fun b u e n => ?_⟩
  · rw [upd_ne (ne_of_none e (s.free h))]; exact e
  · rw [upd_ne (ne_of_none e h)]; exact e
  · by_cases q : b = a
    · subst q; rw [upd_same] at e ⊢; exact e
    · rw [upd_ne q] at e ⊢; exact s _ _ e
  · rw [upd_ne (ne_of_none e h)]; exact n
theorem Grow.step {G0 H0 G H G' H' : Hp} (a : Grow G0 H0 G H) (b : Step G H G' H') : Grow G0 H0 G' H' :=
  ⟨a.g.trans b.g, a.h.trans b.h, fun x o e n => b.out x o (a.h _ _ e) (a.out x o e n)⟩
theorem Grow.toStep {G0 H0 G H : Hp} (a : Grow G0 H0 G H) (s : Same G H) : Step G0 H0 G H := ⟨a.g, a.h, s, a.out⟩
theorem Ok.step {H0 G H G' H' : Hp} {Γ : Cn} {Ω : Om} {σ : L2.St} (k : Ok H0 Γ Ω σ G H) (b : Step G H G' H') : Ok H0 Γ Ω σ G' H' := by
  refine ⟨b.gh, k.len, fun i P e => ?_, fun q hq => ?_, k.nd⟩
  · obtain ⟨v, h1, h2⟩ := k.im i P e
    exact ⟨v, h1, P.mono b.g h2⟩
  · obtain ⟨h0, h1, o, h2, h3⟩ := k.ow q hq
    exact ⟨h0, b.out _ _ h2 h1, o, b.h _ _ h2, q.2.mono b.g h3⟩

/-! ### the judgements -/
def tG (Γ : Cn) (Ω : Om) (P : VP) : TE := fun σ H Q => ∃ G0 H0, Sat G0 H0 Γ Ω σ H ∧ ∀ v G H', Grow G0 H0 G H' → Ok H0 Γ Ω σ G H' → P.p v G → Q v H'
def tGT (Γ : Cn) (Ω : Om) (b : Bool) : TT := fun σ H Q => ∃ G0 H0, Sat G0 H0 Γ Ω σ H ∧ ∀ G H', Grow G0 H0 G H' → Ok H0 Γ Ω σ G H' → Q b H'
def tGA (Γ : Cn) (Ω : Om) (Ps : List VP) : TA := fun σ H Q => ∃ G0 H0, Sat G0 H0 Γ Ω σ H ∧ ∀ vs G H', Grow G0 H0 G H' → Ok H0 Γ Ω σ G H' → PV Ps vs G → Q vs H'
abbrev EG (X : Cx) (Γ : Cn) (Ω : Om) (e : Expr) (P : VP) : Prop := PE X e (tG Γ Ω P)
abbrev TG (X : Cx) (Γ : Cn) (Ω : Om) (e : Expr) (b : Bool) : Prop := PT X e (tGT Γ Ω b)
abbrev AG (X : Cx) (Γ : Cn) (Ω : Om) (es : List Expr) (Ps : List VP) : Prop := L2.PA X es (tGA Γ Ω Ps)
end Ow
namespace Ow
open PySem PySem.Spec PyProof.Rows L2

theorem weak {X : Cx} {e : Expr} {t t' : TE} (h : PE X e t) (w : ∀ σ H Q, t' σ H Q → t σ H Q) : PE X e t' := ⟨fun pins s σ H Q I q => h.run pins s σ H Q I (w σ H Q q)⟩
theorem weakT {X : Cx} {e : Expr} {t t' : TT} (h : PT X e t) (w : ∀ σ H Q, t' σ H Q → t σ H Q) : PT X e t' := ⟨fun pins s σ H Q I q => h.run pins s σ H Q I (w σ H Q q)⟩
theorem weakA {X : Cx} {e : List Expr} {t t' : TA} (h : L2.PA X e t) (w : ∀ σ H Q, t' σ H Q → t σ H Q) : L2.PA X e t' := ⟨fun pos pins s σ H Q I q => h.run pos pins s σ H Q I (w σ H Q q)⟩

section
variable {X : Cx} {Γ : Cn} {Ω : Om} {pos : Pos}
/-- a value told otherwise -/
theorem EG.to {e : Expr} {P P' : VP} (h : EG X Γ Ω e P) (w : ∀ v G, P.p v G → P'.p v G) : EG X Γ Ω e P' := weak h fun σ H Q ⟨G0, H0, s, k⟩ => ⟨G0, H0, s, fun v G H' g o q => k v G H' g o (w v G q)⟩
theorem EG.cast {e : Expr} {P P' : VP} (h : EG X Γ Ω e P) (w : P = P') : EG X Γ Ω e P' := w ▸ h
theorem TG.cast {e : Expr} {b b' : Bool} (h : TG X Γ Ω e b) (w : b = b') : TG X Γ Ω e b' := w ▸ h
/-- from a rule that says the value at once -/
theorem eg_now {e : Expr} {t : TE} {P : VP} (h : PE X e t) (w : ∀ σ G H (Q : VK), (∀ v, P.p v G → Q v H) → (∃ H0, Ok H0 Γ Ω σ G H) → t σ H Q) : EG X Γ Ω e P :=
  weak h fun σ H Q ⟨G0, H0, ⟨G, g, o⟩, k⟩ => w σ G H Q (fun v q => k v G H g o q) ⟨H0, o⟩

/-! ### names, constants -/
theorem eg_var {i : Nat} {x : Str} {P : VP} (hi : Γ[i]? = some (some P)) (hN : X.N[i]? = some x) (hv : Vis X.env.scope x := by first | exact Or.inl rfl | exact Or.inr (Or.inl rfl) | exact Or.inr (Or.inr rfl)) (hd : (x == ("__debug__" : Str)) = false := by decide)
    (hcd : (x == ("__classdict__" : Str)) = false := by decide) : EG X Γ Ω (.Name x pos) P := eg_now (pe_var hN hv hd hcd) fun σ G H Q k ⟨H0, o⟩ => by
  obtain ⟨v, h1, h2⟩ := o.im i P hi
  exact ⟨v, h1, k v h2⟩
theorem eg_int {i j} : EG X Γ Ω (.Constant (.int i) j pos) (vI i) := eg_now pe_int fun _ _ _ _ k _ => k _ rfl
theorem eg_bl {b j} : EG X Γ Ω (.Constant (.bool b) j pos) (vB b) := eg_now pe_bl fun _ _ _ _ k _ => k _ rfl
theorem eg_non {j} : EG X Γ Ω (.Constant .none j pos) vN := eg_now pe_non fun _ _ _ _ k _ => k _ rfl
theorem eg_str {x j} : EG X Γ Ω (.Constant (.str x) j pos) (vS x) := eg_now pe_str fun _ _ _ _ k _ => k _ rfl
theorem eg_glob {x : Str} {v : V} {u : Value} (hg : Gl X x) (hm : X.mg x = some u) (r : RelV v u) (hd : (x == ("__debug__" : Str)) = false := by decide) : EG X Γ Ω (.Name x pos) (vIs v) := eg_now (pe_glob hg hm r hd) fun _ _ _ _ k _ => k _ rfl
theorem eg_bltn {x : Str} {v : V} {u : Value} (hg : Gl X x) (hm : X.mg x = none) (hv : bootBuiltins x = some u) (r : RelV v u) (hn : x ≠ "__name__" := by decide) (hd : (x == ("__debug__" : Str)) = false := by decide) : EG X Γ Ω (.Name x pos) (vIs v) :=
  eg_now (pe_bltn hg hm hv r hn hd) fun _ _ _ _ k _ => k _ rfl

/-! ### two-place operations by values -/
/-- r, on such values, gives such a value, by one step of the heap -/
def RG (r : R2) (Pa Pb P : VP) : Prop := ∀ x y G H (Q : VK), Same G H → Pa.p x G → Pb.p y G → (∀ z G' H', Step G H G' H' → P.p z G' → Q z H') → r x y H Q
theorem tOp_g {ta tb : TE} {r : R2} {Pa Pb P : VP} (hr : RG r Pa Pb P) : ∀ σ H Q, tG Γ Ω P σ H Q → tOp r (tG Γ Ω Pa) (tG Γ Ω Pb) σ H Q := by
  rintro σ H Q ⟨G0, H0, s, k⟩
  refine ⟨G0, H0, s, fun x G1 H1 g1 o1 q1 => ⟨G1, H0, ⟨G1, g1.self, o1⟩, fun y G2 H2 g2 o2 q2 => ?_⟩⟩
  refine hr x y G2 H2 Q o2.gh (Pa.mono g2.g q1) q2 fun z G' H' st q => ?_
  exact k z G' H' ((g1.trans g2).step st) (o2.step st) q
variable {a b : Expr} {Pa Pb P : VP}
theorem eg_op {op : Operator} {r : R2} (ho : OpR X (binaryOp op) r) (hr : RG r Pa Pb P) (ha : EG X Γ Ω a Pa) (hb : EG X Γ Ω b Pb) : EG X Γ Ω (.BinOp a op b pos) P :=
  weak (pe_op ho ha hb) (tOp_g (ta := tC .non) (tb := tC .non) hr)
theorem eg_cmp {op : CmpOp} {r : R2} (ho : OpR X (compareOp op) r) (hr : RG r Pa Pb P) (ha : EG X Γ Ω a Pa) (hb : EG X Γ Ω b Pb) (hm : behindInMarks op b = false) : EG X Γ Ω (.Compare a [op] [b] pos) P :=
  weak (pe_cmpR ho ha hb hm) (tOp_g (ta := tC .non) (tb := tC .non) hr)
theorem eg_ix {r : R2} (hx : IxR X r) (hr : RG r Pa Pb P) (ha : EG X Γ Ω a Pa) (hb : EG X Γ Ω b Pb) (hs : PlainIx b := by exact fun _ _ => rfl) : EG X Γ Ω (.Subscript a b pos) P :=
  weak (pe_ix hx ha hb hs) (tOp_g (ta := tC .non) (tb := tC .non) hr)
theorem tg_cmp {op : CmpOp} {r : R2} {k : Bool} (ho : OpR X (compareOp op) r) (hr : RG r Pa Pb (vB k)) (ha : EG X Γ Ω a Pa) (hb : EG X Γ Ω b Pb) (hm : behindInMarks op b = false) : TG X Γ Ω (.Compare a [op] [b] pos) k :=
  weakT (pt_cmpR ho ha hb hm) fun σ H Q ⟨G0, H0, s, w⟩ => tOp_g (ta := tC .non) (tb := tC .non) hr σ H _ ⟨G0, H0, s, fun v G H' g o q => ⟨k, q, w G H' g o⟩⟩
theorem eg_un {op : UnaryOp} {r : V → Hp → VK → Prop} (ho : UnR X (unaryOp op) r) (hr : ∀ x G H (Q : VK), Same G H → Pa.p x G → (∀ z G' H', Step G H G' H' → P.p z G' → Q z H') → r x H Q) (ha : EG X Γ Ω a Pa) : EG X Γ Ω (.UnaryOp op a pos) P :=
  weak (pe_un ho ha) fun σ H Q ⟨G0, H0, s, k⟩ => ⟨G0, H0, s, fun x G1 H1 g1 o1 q1 => hr x G1 H1 Q o1.gh q1 fun z G' H' st q => k z G' H' (g1.step st) (o1.step st) q⟩
end

/-! what is said of values alone -/
theorem rg_val {r : R2} {x y z : V} (h : ∀ H (Q : VK), Q z H → r x y H Q) : RG r (vIs x) (vIs y) (vIs z) := by
  rintro _ _ G H Q sm rfl rfl k
  exact h H Q (k z G H (Step.refl sm) rfl)
theorem rg_I0 {g : Int → Int → V} {i j : Int} : RG (rI0 g) (vI i) (vI j) (vIs (g i j)) := rg_val fun H Q q => ⟨i, j, rfl, rfl, q⟩
theorem rg_I {C : Int → Int → Prop} {g : Int → Int → V} {i j : Int} (hc : C i j) : RG (rI C g) (vI i) (vI j) (vIs (g i j)) := rg_val fun H Q q => ⟨i, j, rfl, rfl, hc, q⟩
theorem rg_eq {x y : V} (h : scal x y = true) : RG rEq (vIs x) (vIs y) (vB (decide (x = y))) := rg_val fun H Q q => ⟨h, q⟩
theorem rg_ne {x y : V} (h : scal x y = true) : RG rNe (vIs x) (vIs y) (vB (!decide (x = y))) := rg_val fun H Q q => ⟨h, q⟩
section
variable {K : PySem.W.Frag}
theorem atI_PV {Ps : List VP} {vs : List V} {H : Hp} {i : Int} {P : VP} (q : PV Ps vs H) (h : atI Ps i = some P) : ∃ v, atI vs i = some v ∧ P.p v H := by
  have hl : Ps.length = vs.length := Paired.length q
  unfold atI at h ⊢
  rw [← hl]
  cases e : ixN Ps.length i with
  | none => rw [e] at h; cases h
  | some m =>
    rw [e] at h
    exact q.get (show Ps[m]? = some P from h)
theorem rg_ixL {Ps : List VP} {i : Int} {P : VP} (h : atI Ps i = some P) : RG (rIxL K) (vL Ps) (vI i) P := by
  rintro _ _ G H Q sm ⟨a, vs, rfl, ha, q⟩ rfl k
  obtain ⟨v, h1, h2⟩ := atI_PV q h
  exact ⟨a, vs, i, v, rfl, rfl, SqL.of (sm _ _ ha), h1, k v G H (Step.refl sm) h2⟩
theorem rg_ixT {Ps : List VP} {i : Int} {P : VP} (h : atI Ps i = some P) : RG (rIxT K) (vT K Ps) (vI i) P := by
  rintro _ _ G H Q sm ⟨a, vs, rfl, ha, q⟩ rfl k
  obtain ⟨v, h1, h2⟩ := atI_PV q h
  exact ⟨a, vs, i, v, rfl, rfl, SqT.same sm ha, h1, k v G H (Step.refl sm) h2⟩
theorem rg_cat {Ps Qs : List VP} (hl : Ps.length + Qs.length ≤ sizeLine) : RG rCat (vL Ps) (vL Qs) (vL (Ps ++ Qs)) := by
  rintro _ _ G H Q sm ⟨a, vs, rfl, ha, qa⟩ ⟨b, us, rfl, hb, qb⟩ k
  refine ⟨a, b, vs, us, rfl, rfl, sm _ _ ha, sm _ _ hb, by rw [← Paired.length qa, ← Paired.length qb]; exact hl, fun p hp => ?_⟩
  exact k _ _ _ (Step.new sm hp) ⟨p, _, rfl, upd_same, (qa.append qb).mono (Step.new sm hp).g⟩
theorem rg_rep {P : VP} {n : Int} (h0 : 0 ≤ n) (hn : n ≤ (sizeLine : Nat)) : RG rRep (vL [P]) (vI n) (vL (List.replicate n.toNat P)) := by
  rintro _ _ G H Q sm ⟨a, vs, rfl, ha, qa⟩ rfl k
  obtain ⟨v, rfl, hv⟩ : ∃ v, vs = [v] ∧ P.p v G := by
    cases qa with
    | cons r t => cases t; exact ⟨_, rfl, r⟩
  have hz : (sizeLine : Nat) < 2 ^ 63 := line63
  refine ⟨a, n, [v], rfl, rfl, sm _ _ ha, by omega, by omega, ?_, fun p hp => ?_⟩
  · show 1 * n.toNat ≤ sizeLine
    omega
  · have e : (List.replicate n.toNat [v]).flatten = List.replicate n.toNat v := by
      generalize n.toNat = m
      induction m with
      | zero => rfl
      | succ m ih => rw [List.replicate_succ, List.flatten_cons, ih, List.replicate_succ]; rfl
    have all : ∀ m : Nat, PV (List.replicate m P) (List.replicate m v) G := fun m => by
      induction m with
      | zero => exact .nil
      | succ m ih => exact .cons hv ih
    refine k _ _ _ (Step.new sm hp) ⟨p, _, rfl, upd_same, ?_⟩
    first
      | exact (all _).mono (Step.new sm hp).g
      | (rw [e]; exact (all _).mono (Step.new sm hp).g)
theorem rg_in {Ps : List VP} {x : V} {xs : List V} {neg : Bool} (hx : flatV x = true) (ha : xs.all flatV = true) (e : Ps = xs.map vIs) {PT : VP} (hT : PT = vL Ps ∨ PT = vT K Ps) : RG (rIn K neg) (vIs x) PT (vB (if neg then !inV x xs else inV x xs)) := by
  subst e
  have out : ∀ {vs : List V} {H : Hp}, PV (xs.map vIs) vs H → vs = xs := fun {vs H} q => by
    clear ha hT
    induction xs generalizing vs with
    | nil => cases q; rfl
    | cons x xs ih =>
      cases q with
      | cons r t =>
        have r' : _ = x := r
        rw [r', ih t]
  rcases hT with rfl | rfl
  · rintro _ _ G H Q sm rfl ⟨a, vs, rfl, hv, q⟩ k
    obtain rfl := out q
    exact ⟨a, vs, rfl, .inl (SqL.of (sm _ _ hv)), hx, ha, k _ _ _ (Step.refl sm) rfl⟩
  · rintro _ _ G H Q sm rfl ⟨a, vs, rfl, hv, q⟩ k
    obtain rfl := out q
    exact ⟨a, vs, rfl, .inr (SqT.same sm hv), hx, ha, k _ _ _ (Step.refl sm) rfl⟩
end

/-! ### argument lists, displays -/
section
variable {X : Cx} {Γ : Cn} {Ω : Om} {pos : Pos} {e : Expr} {es : List Expr} {P : VP} {Ps : List VP}
theorem small30 : 30 ≤ sizeLine := by rw [sizeLine_eq]; decide
theorem ag_nil : AG X Γ Ω [] [] := weakA pa_nil fun σ H Q ⟨G0, H0, ⟨G, g, o⟩, k⟩ => k [] G H g o .nil
theorem ag_cons (ha : EG X Γ Ω e P) (hr : AG X Γ Ω es Ps) (hs : starEach (e :: es) X.env = (false, eval e X.env) :: starEach es X.env := by rfl) : AG X Γ Ω (e :: es) (P :: Ps) :=
  weakA (pa_cons ha hr hs) fun σ H Q ⟨G0, H0, s, k⟩ => ⟨G0, H0, s, fun x G1 H1 g1 o1 q1 => ⟨G1, H0, ⟨G1, g1.self, o1⟩, fun xs G2 H2 g2 o2 q2 => k (x :: xs) G2 H2 (g1.trans g2) o2 (.cons (P.mono g2.g q1) q2)⟩⟩
theorem eg_tup {x1} (h : AG X Γ Ω es Ps) (hl : Ps.length ≤ sizeLine := by exact Nat.le_trans (Nat.le_of_ble_eq_true (rfl : Nat.ble _ 30 = true)) small30) : EG X Γ Ω (.Tuple es x1 pos) (vT X.K Ps) :=
  weak (pe_tup h) fun σ H Q ⟨G0, H0, s, k⟩ => ⟨G0, H0, s, fun vs G1 H1 g1 o1 q1 => ⟨by rw [← Paired.length q1]; exact hl, fun p hp =>
    have st := Step.new (o := .tup vs) o1.gh hp
    k _ _ _ (g1.step st) (o1.step st) ⟨p, vs, rfl, SqT.of upd_same, q1.mono st.g⟩⟩⟩
theorem eg_lst (h : AG X Γ Ω es Ps) (hl : Ps.length ≤ sizeLine := by exact Nat.le_trans (Nat.le_of_ble_eq_true (rfl : Nat.ble _ 30 = true)) small30) : EG X Γ Ω (.List es pos) (vL Ps) :=
  weak (pe_lst h) fun σ H Q ⟨G0, H0, s, k⟩ => ⟨G0, H0, s, fun vs G1 H1 g1 o1 q1 => ⟨by rw [← Paired.length q1]; exact hl, fun p hp =>
    have st := Step.new (o := .lst vs) o1.gh hp
    k _ _ _ (g1.step st) (o1.step st) ⟨p, vs, rfl, upd_same, q1.mono st.g⟩⟩⟩
/-- one value alone -/
def RU (r : List V → Hp → VK → Prop) (Ps : List VP) (P : VP) : Prop := ∀ vs G H (Q : VK), Same G H → PV Ps vs G → (∀ z G' H', Step G H G' H' → P.p z G' → Q z H') → r vs H Q
theorem eg_callB {x : Str} {id : String} {r : List V → Hp → VK → Prop} {p : Pos} (hc : CallR X (.builtin id) r) (hr : RU r Ps P) (hg : Gl X x) (hm : X.mg x = none) (hv : bootBuiltins x = some (.builtin id)) (ha : AG X Γ Ω (e :: es) Ps) (hn : x ≠ "__name__" := by decide) (hdb : (x == ("__debug__" : Str)) = false := by decide)
    (he : starEach (e :: es) X.env = (false, eval e X.env) :: starEach es X.env := by rfl) (hpl : (backTo pos (starEach es X.env)).any (·.1) = false := by rfl) : EG X Γ Ω (.Call (.Name x p) (e :: es) [] pos) P :=
  weak (pe_callB hc hg hm hv ha hn hdb he hpl) fun σ H Q ⟨G0, H0, s, k⟩ => ⟨G0, H0, s, fun vs G1 H1 g1 o1 q1 => hr vs G1 H1 Q o1.gh q1 fun z G' H' st q => k z G' H' (g1.step st) (o1.step st) q⟩
theorem eg_callTy {x : Str} {T : String} {r : List V → Hp → VK → Prop} {p : Pos} (hc : CallR X (.type T) r) (hr : RU r Ps P) (hg : Gl X x) (hm : X.mg x = none) (hv : bootBuiltins x = some (.type T)) (ha : AG X Γ Ω (e :: es) Ps) (hn : x ≠ "__name__" := by decide) (hdb : (x == ("__debug__" : Str)) = false := by decide)
    (he : starEach (e :: es) X.env = (false, eval e X.env) :: starEach es X.env := by rfl) (hpl : (backTo pos (starEach es X.env)).any (·.1) = false := by rfl) : EG X Γ Ω (.Call (.Name x p) (e :: es) [] pos) P :=
  weak (pe_callTy hc hg hm hv ha hn hdb he hpl) fun σ H Q ⟨G0, H0, s, k⟩ => ⟨G0, H0, s, fun vs G1 H1 g1 o1 q1 => hr vs G1 H1 Q o1.gh q1 fun z G' H' st q => k z G' H' (g1.step st) (o1.step st) q⟩
end

/-! ### tests -/
section
variable {X : Cx} {Γ : Cn} {Ω : Om} {pos : Pos} {a b c : Expr} {rest : List Expr} {P : VP} {k m : Bool}
theorem tg_val (h : EG X Γ Ω a (vB k)) (he : ∀ whole, isTrue a X.env whole = (do let v ← whole; standAt a.pos; holding [v] (truthy v)) := by intro _; rfl) : TG X Γ Ω a k :=
  weakT (pt_val h he) fun σ H Q ⟨G0, H0, s, w⟩ => ⟨G0, H0, s, fun v G H' g o q => ⟨k, q, w G H' g o⟩⟩
theorem tg_not (h : TG X Γ Ω a k) : TG X Γ Ω (.UnaryOp .Not a pos) (!k) :=
  weakT (pt_not h) fun σ H Q ⟨G0, H0, s, w⟩ => ⟨G0, H0, s, fun G H' g o => w G H' g o⟩
def WG (X : Cx) (Γ : Cn) (Ω : Om) (e : Expr) (b : Bool) : Prop := PW X e (tGT Γ Ω b)
theorem weakW {X : Cx} {e : Expr} {t t' : TT} (h : PW X e t) (w : ∀ σ H Q, t' σ H Q → t σ H Q) : PW X e t' := ⟨fun wh pins s σ H Q I q => h.run wh pins s σ H Q I (w σ H Q q)⟩
/-- a test that is asked only where d holds -/
def TGif (X : Cx) (Γ : Cn) (Ω : Om) (d : Prop) (e : Expr) (b : Bool) : Prop := d → TG X Γ Ω e b
theorem wg_and1 (h : TG X Γ Ω a k) : WG X Γ Ω (.BoolOp .And [a] pos) k := pw_and1 h
theorem wg_or1 (h : TG X Γ Ω a k) : WG X Γ Ω (.BoolOp .Or [a] pos) k := pw_or1 h
theorem wg_and (h : TG X Γ Ω a k) (h2 : k = true → WG X Γ Ω (.BoolOp .And (b :: rest) pos) m) : WG X Γ Ω (.BoolOp .And (a :: b :: rest) pos) (k && m) := by
  cases k with
  | true =>
    refine weakW (pw_and h (h2 rfl)) fun σ H Q ⟨G0, H0, s, w⟩ => ⟨G0, H0, s, fun G H' g o => ?_⟩
    show (if true = true then _ else _)
    rw [if_pos rfl]
    exact ⟨G, H0, ⟨G, g.self, o⟩, fun G2 H2 g2 o2 => w G2 H2 (g.trans g2) o2⟩
  | false =>
    refine weakW (pw_and h (tB' := fun _ _ _ => False) ⟨fun _ _ _ _ _ _ _ h => h.elim⟩) fun σ H Q ⟨G0, H0, s, w⟩ => ⟨G0, H0, s, fun G H' g o => ?_⟩
    show (if false = true then _ else _)
    rw [if_neg Bool.false_ne_true]
    exact w G H' g o
theorem wg_or (h : TG X Γ Ω a k) (h2 : k = false → WG X Γ Ω (.BoolOp .Or (b :: rest) pos) m) : WG X Γ Ω (.BoolOp .Or (a :: b :: rest) pos) (k || m) := by
  cases k with
  | false =>
    refine weakW (pw_or h (h2 rfl)) fun σ H Q ⟨G0, H0, s, w⟩ => ⟨G0, H0, s, fun G H' g o => ?_⟩
    show (if false = true then _ else _)
    rw [if_neg Bool.false_ne_true]
    exact ⟨G, H0, ⟨G, g.self, o⟩, fun G2 H2 g2 o2 => w G2 H2 (g.trans g2) o2⟩
  | true =>
    refine weakW (pw_or h (tB' := fun _ _ _ => False) ⟨fun _ _ _ _ _ _ _ h => h.elim⟩) fun σ H Q ⟨G0, H0, s, w⟩ => ⟨G0, H0, s, fun G H' g o => ?_⟩
    show (if true = true then _ else _)
    rw [if_pos rfl]
    exact w G H' g o
theorem WG.tg (h : WG X Γ Ω a k) : TG X Γ Ω a k := PW.pt h
/-- and, or, not as values -/
theorem eg_one {op} (h : EG X Γ Ω a P) : EG X Γ Ω (.BoolOp op [a] pos) P := pe_one h
theorem eg_and (h : EG X Γ Ω a (vB k)) (h2 : k = true → EG X Γ Ω (.BoolOp .And (b :: rest) pos) (vB m)) : EG X Γ Ω (.BoolOp .And (a :: b :: rest) pos) (vB (k && m)) := by
  cases k with
  | true =>
    refine weak (pe_and h (h2 rfl)) fun σ H Q ⟨G0, H0, s, w⟩ => ⟨G0, H0, s, fun v G H' g o q => ⟨true, q, ?_⟩⟩
    rw [if_pos rfl]
    exact ⟨G, H0, ⟨G, g.self, o⟩, fun v2 G2 H2 g2 o2 q2 => w v2 G2 H2 (g.trans g2) o2 q2⟩
  | false =>
    refine weak (pe_and h (tb := fun _ _ _ => False) ⟨fun _ _ _ _ _ _ h => h.elim⟩) fun σ H Q ⟨G0, H0, s, w⟩ => ⟨G0, H0, s, fun v G H' g o q => ⟨false, q, ?_⟩⟩
    rw [if_neg Bool.false_ne_true]
    exact w _ G H' g o rfl
theorem eg_or (h : EG X Γ Ω a (vB k)) (h2 : k = false → EG X Γ Ω (.BoolOp .Or (b :: rest) pos) (vB m)) : EG X Γ Ω (.BoolOp .Or (a :: b :: rest) pos) (vB (k || m)) := by
  cases k with
  | false =>
    refine weak (pe_or h (h2 rfl)) fun σ H Q ⟨G0, H0, s, w⟩ => ⟨G0, H0, s, fun v G H' g o q => ⟨false, q, ?_⟩⟩
    rw [if_neg Bool.false_ne_true]
    exact ⟨G, H0, ⟨G, g.self, o⟩, fun v2 G2 H2 g2 o2 q2 => w v2 G2 H2 (g.trans g2) o2 q2⟩
  | true =>
    refine weak (pe_or h (tb := fun _ _ _ => False) ⟨fun _ _ _ _ _ _ h => h.elim⟩) fun σ H Q ⟨G0, H0, s, w⟩ => ⟨G0, H0, s, fun v G H' g o q => ⟨true, q, ?_⟩⟩
    rw [if_pos rfl]
    exact w _ G H' g o rfl
theorem eg_not (h : EG X Γ Ω a (vB k)) : EG X Γ Ω (.UnaryOp .Not a pos) (vB (!k)) :=
  weak (pe_not h) fun σ H Q ⟨G0, H0, s, w⟩ => ⟨G0, H0, s, fun v G H' g o q => ⟨k, q, w _ G H' g o rfl⟩⟩
theorem eg_ifExp (hc : TG X Γ Ω c k) (ha : k = true → EG X Γ Ω a P) (hb : k = false → EG X Γ Ω b P) : EG X Γ Ω (.IfExp c a b pos) P := by
  cases k with
  | true =>
    refine weak (pe_ifExp hc (ha rfl) (tb := fun _ _ _ => False) ⟨fun _ _ _ _ _ _ h => h.elim⟩) fun σ H Q ⟨G0, H0, s, w⟩ => ⟨G0, H0, s, fun G H' g o => ?_⟩
    show (if true = true then _ else _)
    rw [if_pos rfl]
    exact ⟨G, H0, ⟨G, g.self, o⟩, fun v2 G2 H2 g2 o2 q2 => w v2 G2 H2 (g.trans g2) o2 q2⟩
  | false =>
    refine weak (pe_ifExp hc (ta := fun _ _ _ => False) ⟨fun _ _ _ _ _ _ h => h.elim⟩ (hb rfl)) fun σ H Q ⟨G0, H0, s, w⟩ => ⟨G0, H0, s, fun G H' g o => ?_⟩
    show (if false = true then _ else _)
    rw [if_neg Bool.false_ne_true]
    exact ⟨G, H0, ⟨G, g.self, o⟩, fun v2 G2 H2 g2 o2 q2 => w v2 G2 H2 (g.trans g2) o2 q2⟩
/-- is None of a value that is told -/
theorem tg_isN {x : V} (ha : EG X Γ Ω a (vIs x)) {j pos'} : TG X Γ Ω (.Compare a [.Is] [.Constant .none j pos'] pos) (decide (x = .non)) :=
  tg_cmp op_isN (rg_val fun H Q q => ⟨rfl, q⟩) ha eg_non (nomark _)
theorem tg_notN {x : V} (ha : EG X Γ Ω a (vIs x)) {j pos'} : TG X Γ Ω (.Compare a [.IsNot] [.Constant .none j pos'] pos) (!decide (x = .non)) :=
  tg_cmp op_notN (rg_val fun H Q q => ⟨rfl, q⟩) ha eg_non (nomark _)
/-- of an object -/
theorem tg_isN_ref {P : VP} (ha : EG X Γ Ω a P) (hp : ∀ v G, P.p v G → v ≠ .non) {j pos'} : TG X Γ Ω (.Compare a [.Is] [.Constant .none j pos'] pos) false :=
  tg_cmp op_isN (by
    rintro x _ G H Q sm px rfl w
    refine ⟨rfl, w _ G H (Step.refl sm) ?_⟩
    rw [decide_eq_false (hp x G px)]
    rfl) ha eg_non (nomark _)
theorem tg_notN_ref {P : VP} (ha : EG X Γ Ω a P) (hp : ∀ v G, P.p v G → v ≠ .non) {j pos'} : TG X Γ Ω (.Compare a [.IsNot] [.Constant .none j pos'] pos) true :=
  tg_cmp op_notN (by
    rintro x _ G H Q sm px rfl w
    refine ⟨rfl, w _ G H (Step.refl sm) ?_⟩
    rw [decide_eq_false (hp x G px)]
    rfl) ha eg_non (nomark _)
/-- a < b < c -/
theorem eg_chain {op op' : CmpOp} {r r' : R2} {Pa Pb Pc : VP} {k m : Bool} (ho : OpR X (compareOp op) r) (ho' : OpR X (compareOp op') r') (hr : RG r Pa Pb (vB k)) (hr' : RG r' Pb Pc (vB m))
    (ha : EG X Γ Ω a Pa) (hb : EG X Γ Ω b Pb) (hc : EG X Γ Ω c Pc) (hm : lastMarks [op, op'] [b, c] = false := by rfl) : EG X Γ Ω (.Compare a [op, op'] [b, c] pos) (vB (k && m)) := by
  refine weak (pe_chain ho ho' ha hb hc hm) ?_
  rintro σ H Q ⟨G0, H0, s, w⟩
  refine ⟨G0, H0, s, fun x G1 H1 g1 o1 q1 => ⟨G1, H0, ⟨G1, g1.self, o1⟩, fun y G2 H2 g2 o2 q2 => ?_⟩⟩
  refine hr x y G2 H2 _ o2.gh (Pa.mono g2.g q1) q2 fun z G3 H3 st3 q3 => ⟨k, q3, ?_⟩
  have g3 := (g1.trans g2).step st3
  have o3 := o2.step st3
  cases k with
  | true =>
    rw [if_pos rfl]
    refine ⟨G3, H0, ⟨G3, g3.self, o3⟩, fun u G4 H4 g4 o4 q4 => ?_⟩
    refine hr' y u G4 H4 _ o4.gh (Pb.mono (st3.g.trans g4.g) q2) q4 fun z G5 H5 st5 q5 => ?_
    exact w z G5 H5 ((g3.trans g4).step st5) (o4.step st5) q5
  | false =>
    rw [if_neg Bool.false_ne_true]
    exact w _ G3 H3 g3 o3 rfl
end
end Ow
namespace Ow
open PySem PySem.Spec PyProof.Rows L2

/-! ### frames: one more thing of ours -/
theorem Ok.unframe {H0 G H : Hp} {Γ : Cn} {Ω : Om} {σ : L2.St} {q : Addr × OP} (o : Ok H0 Γ (q :: Ω) σ G H) : ∃ u, H q.1 = some u ∧ q.2.p u G ∧ Ok (upd H0 q.1 u) Γ Ω σ G H ∧ ∀ G' H', Grow G (upd H0 q.1 u) G' H' → Ok (upd H0 q.1 u) Γ Ω σ G' H' → Ok H0 Γ (q :: Ω) σ G' H' := by
  obtain ⟨h0, h1, u, h2, h3⟩ := o.ow q List.mem_cons_self
  have nd := o.nd
  rw [List.map_cons, List.nodup_cons] at nd
  have ne : ∀ r ∈ Ω, r.1 ≠ q.1 := fun r hr e => nd.1 (by rw [← e]; exact List.mem_map_of_mem hr)
  refine ⟨u, h2, h3, ⟨o.gh, o.len, o.im, fun r hr => ?_, nd.2⟩, fun G' H' g o' => ⟨o'.gh, o'.len, o'.im, fun r hr => ?_, o.nd⟩⟩
  · obtain ⟨a, b⟩ := o.ow r (List.mem_cons_of_mem _ hr)
    exact ⟨by rw [upd_ne (ne r hr)]; exact a, b⟩
  · rcases List.mem_cons.mp hr with rfl | hr'
    · exact ⟨h0, g.out _ _ upd_same h1, u, g.h _ _ upd_same, r.2.mono g.g h3⟩
    · obtain ⟨a, b⟩ := o'.ow r hr'
      exact ⟨by rw [upd_ne (ne r hr')] at a; exact a, b⟩
theorem Grow.unframe {G0 H0 G H G' H' : Hp} {a : Addr} {u : HO} (g : Grow G0 H0 G H) (h0 : H0 a = Option.none) (g' : Grow G (upd H0 a u) G' H') : Grow G0 H0 G' H' := by
  refine ⟨g.g.trans g'.g, fun b o e => g'.h b o ?_, fun b o e n => g'.out b o ?_ (g.out b o e n)⟩
  · rw [upd_ne (ne_of_none e h0)]; exact e
  · rw [upd_ne (ne_of_none e h0)]; exact e
theorem Grow.frame {G H0 H : Hp} {a : Addr} {u : HO} (s : Same H0 H) (h : H a = some u) : Grow G (upd H0 a u) G H := by
  refine ⟨Same.refl _, fun b o e => ?_, fun _ _ _ n => n⟩
  by_cases q : b = a
  · subst q; rw [upd_same] at e; rw [h]; exact e
  · rw [upd_ne q] at e; exact s _ _ e
theorem EG.frame {X : Cx} {Γ : Cn} {Ω : Om} {e : Expr} {P : VP} {q : Addr × OP} (h : EG X Γ Ω e P) : EG X Γ (q :: Ω) e P := weak h fun σ H Q ⟨G0, H0, ⟨G, g, o⟩, k⟩ => by
  obtain ⟨u, hu, hq, o1, back⟩ := o.unframe
  have h0 := (o.ow q List.mem_cons_self).1
  exact ⟨G, upd H0 q.1 u, ⟨G, Grow.frame g.h hu, o1⟩, fun v G' H' g' o' p => k v G' H' (g.unframe h0 g') (back G' H' g' o') p⟩
theorem TG.frame {X : Cx} {Γ : Cn} {Ω : Om} {e : Expr} {b : Bool} {q : Addr × OP} (h : TG X Γ Ω e b) : TG X Γ (q :: Ω) e b := weakT h fun σ H Q ⟨G0, H0, ⟨G, g, o⟩, k⟩ => by
  obtain ⟨u, hu, hq, o1, back⟩ := o.unframe
  have h0 := (o.ow q List.mem_cons_self).1
  exact ⟨G, upd H0 q.1 u, ⟨G, Grow.frame g.h hu, o1⟩, fun G' H' g' o' => k G' H' (g.unframe h0 g') (back G' H' g' o')⟩
theorem AG.frame {X : Cx} {Γ : Cn} {Ω : Om} {e : List Expr} {Ps : List VP} {q : Addr × OP} (h : AG X Γ Ω e Ps) : AG X Γ (q :: Ω) e Ps := weakA h fun σ H Q ⟨G0, H0, ⟨G, g, o⟩, k⟩ => by
  obtain ⟨u, hu, hq, o1, back⟩ := o.unframe
  have h0 := (o.ow q List.mem_cons_self).1
  exact ⟨G, upd H0 q.1 u, ⟨G, Grow.frame g.h hu, o1⟩, fun vs G' H' g' o' p => k vs G' H' (g.unframe h0 g') (back G' H' g' o') p⟩

/-! ### what is known, told otherwise -/
section
variable {G0 H0 H : Hp} {Γ : Cn} {Ω : Om} {σ : L2.St} {i : Nat} {P P' : VP}
structure GG (G0 H0 G1 : Hp) : Prop where
  g : Same G0 G1
  out : ∀ b o, H0 b = some o → G0 b = Option.none → G1 b = Option.none
theorem GG.refl : GG G0 H0 G0 := ⟨Same.refl _, fun _ _ _ n => n⟩
theorem Grow.gg {G H : Hp} (g : Grow G0 H0 G H) : GG G0 H0 G := ⟨g.g, g.out⟩
theorem GG.low {G1 G H : Hp} (a : GG G0 H0 G1) (g : Grow G1 H0 G H) : Grow G0 H0 G H := ⟨a.g.trans g.g, g.h, fun b o e n => g.out b o e (a.out b o e n)⟩
theorem Sat.low {G1 : Hp} (s : Sat G1 H0 Γ Ω σ H) (a : GG G0 H0 G1) : Sat G0 H0 Γ Ω σ H := let ⟨G, g, o⟩ := s; ⟨G, a.low g, o⟩
theorem lt_of_some {α : Type} {l : List α} {i : Nat} {x : α} (h : l[i]? = some x) : i < l.length := (List.getElem?_eq_some_iff.mp h).1
theorem Ok.set {G : Hp} {v : V} (o : Ok H0 Γ Ω σ G H) (hv : P.p v G) : Ok H0 (Γ.set i (some P)) Ω (σ.set i (some v)) G H := by
  refine ⟨o.gh, by rw [List.length_set, List.length_set]; exact o.len, fun j R e => ?_, o.ow, o.nd⟩
  by_cases hj : i = j
  · subst hj
    have hl := lt_of_some e
    rw [List.length_set] at hl
    rw [List.getElem?_set_self hl] at e
    cases e
    exact ⟨v, List.getElem?_set_self (by rw [o.len]; exact hl), hv⟩
  · rw [List.getElem?_set_ne hj] at e ⊢
    exact o.im j R e
theorem Ok.drop {G : Hp} (o : Ok H0 Γ Ω σ G H) : Ok H0 (Γ.set i Option.none) Ω σ G H := by
  refine ⟨o.gh, by rw [List.length_set]; exact o.len, fun j R e => ?_, o.ow, o.nd⟩
  by_cases hj : i = j
  · subst hj
    have hl := lt_of_some e
    rw [List.length_set] at hl
    rw [List.getElem?_set_self hl] at e
    cases e
  · rw [List.getElem?_set_ne hj] at e
    exact o.im j R e
theorem Sat.drop (i : Nat) (s : Sat G0 H0 Γ Ω σ H) : Sat G0 H0 (Γ.set i Option.none) Ω σ H := let ⟨G, g, o⟩ := s; ⟨G, g, o.drop⟩
theorem Sat.to (i : Nat) (s : Sat G0 H0 Γ Ω σ H) (e : Γ[i]? = some (some P)) (w : ∀ v G, P.p v G → P'.p v G) : Sat G0 H0 (Γ.set i (some P')) Ω σ H := by
  obtain ⟨G, g, o⟩ := s
  refine ⟨G, g, o.gh, by rw [List.length_set]; exact o.len, fun j R e' => ?_, o.ow, o.nd⟩
  by_cases hj : i = j
  · subst hj
    have hl := lt_of_some e'
    rw [List.length_set] at hl
    rw [List.getElem?_set_self hl] at e'
    cases e'
    obtain ⟨v, h1, h2⟩ := o.im i P e
    exact ⟨v, h1, w v G h2⟩
  · rw [List.getElem?_set_ne hj] at e'
    exact o.im j R e'
theorem Sat.ex {α : Type} {φ : α → Prop} {F : α → VP} (i : Nat) (s : Sat G0 H0 Γ Ω σ H) (e : Γ[i]? = some (some (vEx φ F))) : ∃ x, φ x ∧ Sat G0 H0 (Γ.set i (some (F x))) Ω σ H := by
  obtain ⟨G, g, o⟩ := s
  obtain ⟨v, h1, x, h2, h3⟩ := o.im i _ e
  refine ⟨x, h2, G, g, o.gh, by rw [List.length_set]; exact o.len, fun j R e' => ?_, o.ow, o.nd⟩
  by_cases hj : i = j
  · subst hj
    have hl := lt_of_some e'
    rw [List.length_set] at hl
    rw [List.getElem?_set_self hl] at e'
    cases e'
    exact ⟨v, h1, h3⟩
  · rw [List.getElem?_set_ne hj] at e'
    exact o.im j R e'
/-- less of the slots -/
def Cle (Γ' Γ : Cn) : Prop := Γ'.length = Γ.length ∧ ∀ (i : Nat) (P : VP), Γ'[i]? = some (some P) → Γ[i]? = some (some P)
theorem Sat.le {Γ' : Cn} (s : Sat G0 H0 Γ Ω σ H) (h : Cle Γ' Γ) : Sat G0 H0 Γ' Ω σ H := let ⟨G, g, o⟩ := s; ⟨G, g, o.gh, o.len.trans h.1.symm, fun i P e => o.im i P (h.2 i P e), o.ow, o.nd⟩
end

/-! ### targets -/
def Only (ts : List Nat) (σ σ' : L2.St) : Prop := σ'.length = σ.length ∧ ∀ i, i ∉ ts → σ'[i]? = σ[i]?
theorem Only.refl {ts : List Nat} {σ : L2.St} : Only ts σ σ := ⟨rfl, fun _ _ => rfl⟩
theorem Only.trans {ts us : List Nat} {a b c : L2.St} (h : Only ts a b) (k : Only us b c) : Only (ts ++ us) a c :=
  ⟨k.1.trans h.1, fun i hi => (k.2 i fun z => hi (List.mem_append_right _ z)).trans (h.2 i fun z => hi (List.mem_append_left _ z))⟩
theorem wipe_only {σ σ' : L2.St} {ts vs : List Nat} (h : Only ts σ σ') (hs : ∀ i ∈ ts, i ∈ vs) : wipe σ' vs = wipe σ vs := by
  refine List.ext_getElem? fun i => ?_
  have key : ∀ (vs : List Nat) (τ : L2.St), (i ∈ vs → i < τ.length → (wipe τ vs)[i]? = some none) ∧ (i ∉ vs → (wipe τ vs)[i]? = τ[i]?) := fun vs τ => by
    induction vs with
    | nil => exact ⟨fun z => (by cases z), fun _ => rfl⟩
    | cons v vs ih =>
      have hl : (wipe τ vs).length = τ.length := wipe_length τ vs
      refine ⟨fun z l => ?_, fun z => ?_⟩
      · show ((wipe τ vs).set v none)[i]? = _
        by_cases hv : v = i
        · subst hv; rw [List.getElem?_set_self (by omega)]
        · rw [List.getElem?_set_ne hv]
          exact ih.1 ((List.mem_cons.mp z).resolve_left fun q => hv q.symm) l
      · show ((wipe τ vs).set v none)[i]? = _
        rw [List.getElem?_set_ne (fun q => z (by rw [q]; exact List.mem_cons_self))]
        exact ih.2 fun q => z (List.mem_cons_of_mem _ q)
  by_cases hi : i ∈ vs
  · by_cases hl : i < σ.length
    · rw [(key vs σ').1 hi (by rw [h.1]; exact hl), (key vs σ).1 hi hl]
    · rw [List.getElem?_eq_none (by rw [wipe_length, h.1]; omega), List.getElem?_eq_none (by rw [wipe_length]; omega)]
  · rw [(key vs σ').2 hi, (key vs σ).2 hi]
    exact h.2 i fun z => hi (hs i z)
def tGg (P : VP) (Γ : Cn) (Ω : Om) (Γ' : Cn) (ts : List Nat) : L2.TG := fun v σ H Q => ∃ G0 H0, (∃ G, Grow G0 H0 G H ∧ Ok H0 Γ Ω σ G H ∧ P.p v G) ∧ ∀ σ' G' H', Only ts σ σ' → Grow G0 H0 G' H' → Ok H0 Γ' Ω σ' G' H' → Q σ' H'
def tGgs (Ps : List VP) (Γ : Cn) (Ω : Om) (Γ' : Cn) (ts : List Nat) : TGs := fun vs σ H Q => ∃ G0 H0, (∃ G, Grow G0 H0 G H ∧ Ok H0 Γ Ω σ G H ∧ PV Ps vs G) ∧ ∀ σ' G' H', Only ts σ σ' → Grow G0 H0 G' H' → Ok H0 Γ' Ω σ' G' H' → Q σ' H'
abbrev TgG (X : Cx) (tg : Expr) (P : VP) (Γ : Cn) (Ω : Om) (Γ' : Cn) (ts : List Nat) : Prop := PG X tg (tGg P Γ Ω Γ' ts)
abbrev TgsG (X : Cx) (tg : List Expr) (Ps : List VP) (Γ : Cn) (Ω : Om) (Γ' : Cn) (ts : List Nat) : Prop := PGs X tg (tGgs Ps Γ Ω Γ' ts)
theorem weakG {X : Cx} {e : Expr} {t t' : L2.TG} (h : PG X e t) (w : ∀ v σ H Q, t' v σ H Q → t v σ H Q) : PG X e t' := ⟨fun pins s σ H v u Q I r q => h.run pins s σ H v u Q I r (w v σ H Q q)⟩
theorem weakGs {X : Cx} {e : List Expr} {t t' : TGs} (h : PGs X e t) (w : ∀ v σ H Q, t' v σ H Q → t v σ H Q) : PGs X e t' := ⟨fun pins s σ H v u Q I r q => h.run pins s σ H v u Q I r (w v σ H Q q)⟩
section
variable {X : Cx} {Γ Γ1 Γ2 : Cn} {Ω : Om} {P : VP} {Ps : List VP} {pos : Pos} {ts us : List Nat} {e : Expr} {es : List Expr}
theorem gt_name (i : Nat) {x : Str} (hN : X.N.Nodup) (hi : X.N[i]? = some x := by rfl) (hx : Loc X.env.scope x := by first | exact .inl rfl | exact .inr rfl) (hf : X.fn x = true ∨ X.env.scope.names.lookup x = some .local := by first | exact .inl rfl | exact .inr rfl) : TgG X (.Name x pos) P Γ Ω (Γ.set i (some P)) [i] :=
  weakG (pg_name hN hi hx hf) fun v σ H Q ⟨G0, H0, ⟨G, g, o, p⟩, k⟩ => k _ G H ⟨by rw [List.length_set], fun j hj => List.getElem?_set_ne (fun q => hj (by simp [q]))⟩ g (o.set p)
theorem gts_nil : TgsG X [] [] Γ Ω Γ [] := weakGs pgs_nil fun vs σ H Q ⟨G0, H0, ⟨G, g, o, p⟩, k⟩ => ⟨by cases p; rfl, k σ G H Only.refl g o⟩
theorem gts_cons (h1 : TgG X e P Γ Ω Γ1 ts) (h2 : TgsG X es Ps Γ1 Ω Γ2 us) (hs : (assignEach (e :: es) X.env).map (·.2) = assign e X.env :: (assignEach es X.env).map (·.2) := by rfl) : TgsG X (e :: es) (P :: Ps) Γ Ω Γ2 (ts ++ us) :=
  weakGs (pgs_cons h1 h2 hs) fun vs σ H Q ⟨G0, H0, ⟨G, g, o, p⟩, k⟩ => by
    cases p with
    | cons r t => exact ⟨_, _, rfl, G, H0, ⟨G, g.self, o, r⟩, fun σ1 G1 H1 n1 g1 o1 => ⟨G1, H0, ⟨G1, g1.self, o1, PV.mono g1.g t⟩, fun σ2 G2 H2 n2 g2 o2 => k σ2 G2 H2 (n1.trans n2) ((g.trans g1).trans g2) o2⟩⟩
theorem gt_tup {k : Nat} {n : Nat} (h : TgsG X es Ps Γ Ω Γ1 ts) (hc : X.calm = true := by rfl) (hl : Ps.length = n := by rfl) (hn : (assignEach es X.env).length = n := by rfl) (hst : (assignEach es X.env).findIdx? (·.1) = none := by rfl) : TgG X (.Tuple es k pos) (vT X.K Ps) Γ Ω Γ1 ts :=
  weakG (pg_tup hc h hn hst) fun v σ H Q ⟨G0, H0, ⟨G, g, o, a, vs, e, hq, q⟩, k⟩ => ⟨a, vs, e, SqT.same o.gh hq, by rw [← Paired.length q]; exact hl, G0, H0, ⟨G, g, o, q⟩, k⟩
end

/-! ### what is walked -/
structure WalkT {α : Type} (J : It) (G1 : Hp) (xs : List α) (F : α → VP) : Prop where
  goes : ∀ i H, i < xs.length → Same G1 H → J.go i H
  stops : ∀ H, Same G1 H → J.stop xs.length H
  yields : ∀ i H v H' x G, xs[i]? = some x → Same G1 G → Same G H → J.yld i H v H' → ∃ G', Step G H G' H' ∧ (F x).p v G'
def tGI {α : Type} (Γ : Cn) (Ω : Om) (xs : List α) (F : α → VP) : TI := fun σ H R => ∃ G0 H0, Sat G0 H0 Γ Ω σ H ∧ ∀ J G H', Grow G0 H0 G H' → Ok H0 Γ Ω σ G H' → WalkT J G xs F → R J H'
abbrev IG {α : Type} (X : Cx) (tg iter : Expr) (Γ : Cn) (Ω : Om) (xs : List α) (F : α → VP) : Prop := PI X tg iter (tGI Γ Ω xs F)
theorem weakI {X : Cx} {tg e : Expr} {t t' : TI} (h : PI X tg e t) (w : ∀ σ H R, t' σ H R → t σ H R) : PI X tg e t' := ⟨fun pins s σ H R I q => h.run pins s σ H R I (w σ H R q)⟩
section
variable {α : Type} {X : Cx} {tg iter : Expr} {Γ : Cn} {Ω : Om} {xs : List α} {F : α → VP}
theorem get_map {β : Type} {f : α → β} {i : Nat} {x : α} (h : xs[i]? = some x) : (xs.map f)[i]? = some (f x) := by rw [List.getElem?_map, h]; rfl
theorem ig_list (h : EG X Γ Ω iter (vL (xs.map F))) : IG X tg iter Γ Ω xs F := weakI (pi_list h) fun σ H R ⟨G0, H0, s, k⟩ => ⟨G0, H0, s, fun v G H' g o ⟨a, vs, e, ha, q⟩ => by
  have hl : vs.length = xs.length := by rw [← Paired.length q, List.length_map]
  refine ⟨a, e, ⟨vs, SqL.of (o.gh _ _ ha)⟩, k _ G H' g o ⟨fun i H1 hi s1 => ?_, fun H1 s1 => ?_, fun i H1 v H2 x G1 hx s0 s1 y => ?_⟩⟩
  · exact ⟨vs, vs[i]'(by omega), SqL.of (s1 _ _ ha), by simp [hl, hi]⟩
  · exact ⟨vs, SqL.of (s1 _ _ ha), by omega⟩
  · obtain ⟨e2, y⟩ := y
    subst e2
    obtain ⟨u, h1, h2⟩ := q.get (get_map (f := F) hx)
    have e3 := y vs (SqL.of (s1 _ _ (s0 _ _ ha)))
    rw [h1] at e3
    cases e3
    exact ⟨G1, Step.refl s1, (F x).mono s0 h2⟩⟩
theorem ig_tup (h : EG X Γ Ω iter (vT X.K (xs.map F))) : IG X tg iter Γ Ω xs F := weakI (pi_tup h) fun σ H R ⟨G0, H0, s, k⟩ => ⟨G0, H0, s, fun v G H' g o ⟨a, vs, e, ha, q⟩ => by
  have hl : vs.length = xs.length := by rw [← Paired.length q, List.length_map]
  refine ⟨a, e, ⟨vs, SqT.same o.gh ha⟩, k _ G H' g o ⟨fun i H1 hi s1 => ?_, fun H1 s1 => ?_, fun i H1 v H2 x G1 hx s0 s1 y => ?_⟩⟩
  · exact ⟨vs, vs[i]'(by omega), SqT.same s1 ha, by simp [hl, hi]⟩
  · exact ⟨vs, SqT.same s1 ha, by omega⟩
  · obtain ⟨e2, y⟩ := y
    subst e2
    obtain ⟨u, h1, h2⟩ := q.get (get_map (f := F) hx)
    have e3 := y vs (SqT.same (s0.trans s1) ha)
    rw [h1] at e3
    cases e3
    exact ⟨G1, Step.refl s1, (F x).mono s0 h2⟩⟩
/-- lo, lo + 1, .. below hi -/
def upTo (lo hi : Int) : List Int := (List.range (hi - lo).toNat).map fun (k : Nat) => lo + (k : Int)
theorem ints_length (lo hi : Int) : (upTo lo hi).length = (hi - lo).toNat := by unfold upTo; rw [List.length_map, List.length_range]
theorem ints_get {lo hi : Int} {i : Nat} (h : i < (hi - lo).toNat) : (upTo lo hi)[i]? = some (lo + (i : Int)) := by unfold upTo; rw [List.getElem?_map, List.getElem?_range h]; rfl
theorem walk_ints {lo hi : Int} {G : Hp} : WalkT (Itr lo (hi - lo).toNat) G (upTo lo hi) vI := by
  refine ⟨fun i H1 hi _ => by rw [ints_length] at hi; exact hi, fun H1 _ => ?_, fun i H1 v H2 x G1 hx s0 s1 y => ?_⟩
  · show _ ≤ _
    rw [ints_length]; exact Nat.le_refl _
  · have hl := lt_of_some hx
    rw [ints_length] at hl
    rw [ints_get hl] at hx
    cases hx
    obtain ⟨e, y⟩ := y
    subst e y
    exact ⟨G1, Step.refl s1, rfl⟩
theorem ig_range1 {a : Expr} {p pos : Pos} {n : Int} (ha : AG X Γ Ω [a] [vI n]) (hn : -(2 ^ 62) ≤ n ∧ n < 2 ^ 62) (hm : X.mg "range" = none) (hg : Gl X "range" := by rfl) (hs : starEach [a] X.env = [(false, eval a X.env)] := by rfl) :
    IG X tg (.Call (.Name "range" p) [a] [] pos) Γ Ω (upTo 0 n) vI := weakI (pi_range1 hg hm ha hs) fun σ H R ⟨G0, H0, s, k⟩ => ⟨G0, H0, s, fun vs G H' g o q => by
  have e : vs = [V.int n] := PV.ints (ns := [n]) q
  subst e
  refine ⟨n, rfl, hn.1, hn.2, k _ G H' g o ?_⟩
  have := walk_ints (lo := 0) (hi := n) (G := G)
  rw [Int.sub_zero] at this
  exact this⟩
theorem ig_range2 {a b : Expr} {p pos : Pos} {m n : Int} (ha : AG X Γ Ω [a, b] [vI m, vI n]) (hn : -(2 ^ 62) ≤ m ∧ m < 2 ^ 62 ∧ -(2 ^ 62) ≤ n ∧ n < 2 ^ 62) (hm : X.mg "range" = none) (hg : Gl X "range" := by rfl) (hs : starEach [a, b] X.env = [(false, eval a X.env), (false, eval b X.env)] := by rfl) (hs2 : starEach [b] X.env = [(false, eval b X.env)] := by rfl) :
    IG X tg (.Call (.Name "range" p) [a, b] [] pos) Γ Ω (upTo m n) vI := weakI (pi_range2 hg hm ha hs hs2) fun σ H R ⟨G0, H0, s, k⟩ => ⟨G0, H0, s, fun vs G H' g o q => by
  have e : vs = [V.int m, V.int n] := PV.ints (ns := [m, n]) q
  subst e
  exact ⟨m, n, rfl, hn, k _ G H' g o walk_ints⟩⟩
/-- the pairs (place, item) -/
def pairs (xs : List α) : List (Nat × α) := (List.range xs.length).zip xs
theorem pairs_length (xs : List α) : (pairs xs).length = xs.length := by unfold pairs; rw [List.length_zip, List.length_range]; omega
theorem pairs_get {i : Nat} {q : Nat × α} (h : (pairs xs)[i]? = some q) : q.1 = i ∧ xs[i]? = some q.2 := by
  have hl := lt_of_some h
  rw [pairs_length] at hl
  unfold pairs at h
  rw [List.getElem?_zip_eq_some] at h
  obtain ⟨h1, h2⟩ := h
  rw [List.getElem?_range hl] at h1
  exact ⟨(Option.some.inj h1).symm, h2⟩
def vPr (K : PySem.W.Frag) (F : α → VP) (q : Nat × α) : VP := vT K [vI q.1, F q.2]
theorem ig_enumL {e : Expr} {p pos tpos : Pos} {elts : List Expr} {kk : Nat} (ha : AG X Γ Ω [e] [vL (xs.map F)]) (hm : X.mg "enumerate" = none) (hg : Gl X "enumerate" := by rfl) (hs : starEach [e] X.env = [(false, eval e X.env)] := by rfl) :
    IG X (.Tuple elts kk tpos) (.Call (.Name "enumerate" p) [e] [] pos) Γ Ω (pairs xs) (vPr X.K F) := weakI (pi_enum hg hm ha hs) fun σ H R ⟨G0, H0, s, k⟩ => ⟨G0, H0, s, fun us G H' g o q => by
  cases q with
  | cons q t =>
    cases t
    obtain ⟨a, vs, rfl, ha, q⟩ := q
    have hl : vs.length = xs.length := by rw [← Paired.length q, List.length_map]
    refine ⟨a, vs, rfl, SqL.of (o.gh _ _ ha), k _ G H' g o ⟨fun i H1 hi s1 => ?_, fun H1 s1 => ?_, fun i H1 v H2 x G1 hx s0 s1 y => ?_⟩⟩
    · rw [pairs_length] at hi
      exact (walk_enum (K := X.K) (a := a) (xs := vs)).goes i H1 (by omega) (SqL.of (s1 _ _ ha))
    · rw [pairs_length, ← hl]
      exact (walk_enum (K := X.K) (a := a) (xs := vs)).stops H1 (SqL.of (s1 _ _ ha))
    · obtain ⟨e1, hx⟩ := pairs_get hx
      have hi := lt_of_some hx
      obtain ⟨T, u, z, e2, e3, e4, e5, e6⟩ := (walk_enum (K := X.K) (a := a) (xs := vs)).yields i H1 v H2 (by omega) (SqL.of (s1 _ _ (s0 _ _ ha))) y
      subst e2 e4
      cases e5
      obtain ⟨w, h1, h2⟩ := q.get (get_map (f := F) hx)
      have e7 : vs[i]? = some z := e6
      rw [h1] at e7
      cases e7
      have st := Step.new (o := .tup [.int (i : Nat), z]) s1 e3
      refine ⟨_, st, T, _, rfl, SqT.of upd_same, .cons ?_ (.cons ((F x.2).mono (s0.trans st.g) h2) .nil)⟩
      show _ = V.int _
      rw [e1]⟩
end
end Ow
namespace Ow
open PySem PySem.Spec PyProof.Rows L2

/-! ### statements, forward -/
def wpS (X : Cx) (sts : List Stmt) (D : Ends) (σ : L2.St) (H : Hp) : Prop := ∀ (pins : List (Addr × Obj)) (s : Shared), Inv X pins σ H s → wpAny (model X.prog X.w) X.A (execs sts X.env) (SP X pins D) X.xe s
theorem pss_wp {X : Cx} {sts : List Stmt} : PSs X sts (wpS X sts) := ⟨fun pins s σ H D I h => h pins s I⟩
theorem wp_of {X : Cx} {sts : List Stmt} {t : TS} {D : Ends} {σ : L2.St} {H : Hp} (h : PSs X sts t) (q : t D σ H) : wpS X sts D σ H := fun pins s I => h.run pins s σ H D I q
theorem wp_cons {X : Cx} {st : Stmt} {rest : List Stmt} {t : TS} {D : Ends} {σ : L2.St} {H : Hp} (h : PS X st t) (q : t { D with nx := fun σ' H' => wpS X rest D σ' H' } σ H) : wpS X (st :: rest) D σ H :=
  wp_of (pss_cons h pss_wp) q
theorem wp_nil {X : Cx} {D : Ends} {σ : L2.St} {H : Hp} (q : D.nx σ H) : wpS X [] D σ H := wp_of pss_nil q
section
variable {X : Cx} {G0 H0 H : Hp} {Γ : Cn} {Ω : Om} {σ : L2.St} {D : Ends} {rest : List Stmt} {e : Expr} {P : VP} {pos pos' : Pos}
/-- x = e -/
theorem s_set (hs : Sat G0 H0 Γ Ω σ H) (i : Nat) {x : Str} (he : EG X Γ Ω e P) (k : ∀ σ' H', Sat G0 H0 (Γ.set i (some P)) Ω σ' H' → wpS X rest D σ' H') (hN : X.N.Nodup) (hi : X.N[i]? = some x := by rfl) (hx : Loc X.env.scope x := by first | exact .inl rfl | exact .inr rfl)
    (hw : swapsWith e (some (.Name x pos')) pos.line X.env = pure false := by rfl) (hf : X.fn x = true ∨ X.env.scope.names.lookup x = some .local := by first | exact .inl rfl | exact .inr rfl) : wpS X (.Assign [.Name x pos'] e pos :: rest) D σ H :=
  wp_cons (ps_set hN hi hx he hw hf) ⟨G0, H0, hs, fun v G H' g o q => k _ H' ⟨G, g, o.set q⟩⟩
theorem s_ret (hs : Sat G0 H0 Γ Ω σ H) (he : EG X Γ Ω e P) (k : ∀ v G H', Step G0 H0 G H' → P.p v G → D.rt v H') : wpS X (.Return (some e) pos :: rest) D σ H :=
  wp_cons (ps_ret he) ⟨G0, H0, hs, fun v G H' g o q => k v G H' (g.toStep o.gh) q⟩
theorem s_retN (hs : Sat G0 H0 Γ Ω σ H) (k : ∀ G H', Step G0 H0 G H' → D.rt .non H') : wpS X (.Return none pos :: rest) D σ H :=
  wp_cons ps_retN (let ⟨G, g, o⟩ := hs; k G H (g.toStep o.gh))
/-- the end of a body without return -/
theorem s_end (hs : Sat G0 H0 Γ Ω σ H) (k : ∀ G H', Step G0 H0 G H' → D.nx σ H') : wpS X [] D σ H := wp_nil (let ⟨G, g, o⟩ := hs; k G H (g.toStep o.gh))
theorem s_if {c : Expr} {a b : List Stmt} {k : Bool} (hs : Sat G0 H0 Γ Ω σ H) (hc : TG X Γ Ω c k) (ha : k = true → ∀ H', Sat G0 H0 Γ Ω σ H' → wpS X a { D with nx := fun σ' H' => wpS X rest D σ' H' } σ H')
    (hb : k = false → ∀ H', Sat G0 H0 Γ Ω σ H' → wpS X b { D with nx := fun σ' H' => wpS X rest D σ' H' } σ H') : wpS X (.If c a b pos :: rest) D σ H :=
  wp_cons (ps_if hc pss_wp pss_wp) ⟨G0, H0, hs, fun G H' g o => by
    show (if k = true then _ else _)
    cases k with
    | true => rw [if_pos rfl]; exact ha rfl H' ⟨G, g, o⟩
    | false => rw [if_neg Bool.false_ne_true]; exact hb rfl H' ⟨G, g, o⟩⟩
theorem s_expr (hs : Sat G0 H0 Γ Ω σ H) (he : EG X Γ Ω e P) (k : ∀ H', Sat G0 H0 Γ Ω σ H' → wpS X rest D σ H') (hw : swapsWith e none pos.line X.env = pure false := by rfl) : wpS X (.Expr e pos :: rest) D σ H :=
  wp_cons (ps_expr he hw) ⟨G0, H0, hs, fun v G H' g o q => k H' ⟨G, g, o⟩⟩
/-- target = e, the target a tuple -/
theorem s_asg {tg : Expr} {Γ' : Cn} {ts : List Nat} (hs : Sat G0 H0 Γ Ω σ H) (he : EG X Γ Ω e P) (hg : TgG X tg P Γ Ω Γ' ts) (k : ∀ σ' H', Sat G0 H0 Γ' Ω σ' H' → wpS X rest D σ' H') (h1 : swapsWithSole [tg] e pos.line X.env = pure false := by rfl) (h2 : swappedStores [tg] e X.env = pure none := by rfl)
    (h3 : (assignEach [tg] X.env).map (·.2) = [assign tg X.env] := by rfl) : wpS X (.Assign [tg] e pos :: rest) D σ H :=
  wp_cons (ps_asg he hg h1 h2 h3) ⟨G0, H0, hs, fun v G H' g o q => ⟨G, H0, ⟨G, g.self, o, q⟩, fun σ' G' H'' _ g' o' => k σ' H'' ⟨G', g.trans g', o'⟩⟩⟩
/-- a, b = x, y: two plain local names -/
theorem s_par {i j : Nat} {x y : Str} {a b : Expr} {P1 P2 : VP} {px py pt : Pos} {kt k2 pt2} (hs : Sat G0 H0 Γ Ω σ H) (ha : AG X Γ Ω [a, b] [P1, P2]) (k : ∀ σ' H', Sat G0 H0 ((Γ.set i (some P1)).set j (some P2)) Ω σ' H' → wpS X rest D σ' H') (hN : X.N.Nodup) (hi : X.N[i]? = some x) (hj : X.N[j]? = some y) (hij : i ≠ j := by decide)
    (hc : X.calm = true := by rfl) (hx : X.env.scope.names.lookup x = some .local := by rfl) (hy : X.env.scope.names.lookup y = some .local := by rfl)
    (hw : swappedStores [.Tuple [.Name x px, .Name y py] kt pt] (.Tuple [a, b] k2 pt2) X.env = pure (some [x, y]) := by rfl)
    (h1 : swapsWithSole [.Tuple [.Name x px, .Name y py] kt pt] (.Tuple [a, b] k2 pt2) pos.line X.env = pure false := by rfl) : wpS X (.Assign [.Tuple [.Name x px, .Name y py] kt pt] (.Tuple [a, b] k2 pt2) pos :: rest) D σ H :=
  wp_cons (ps_par hc hN hi hj hij hx hy ha hw h1) ⟨G0, H0, hs, fun vs G H' g o q => by
    cases q with
    | cons r t =>
      cases t with
      | cons r2 t =>
        cases t
        exact ⟨_, _, rfl, k _ H' ⟨G, g, (o.set r).set r2⟩⟩⟩
/-- while -/
theorem s_while {γ : Type} {c : Expr} {body : List Stmt} (Γi : γ → Cn) (Ωi : γ → Om) (φ : γ → Prop) (μ : γ → Nat) (bb : γ → Bool) (h0 : ∃ y, φ y ∧ Sat G0 H0 (Γi y) (Ωi y) σ H)
    (hc : ∀ y, φ y → TG X (Γi y) (Ωi y) c (bb y))
    (hb : ∀ y, φ y → bb y = true → ∀ σ H, Sat G0 H0 (Γi y) (Ωi y) σ H → wpS X body { D with nx := fun σ' H' => ∃ z, φ z ∧ μ z < μ y ∧ Sat G0 H0 (Γi z) (Ωi z) σ' H', ct := fun σ' H' => ∃ z, φ z ∧ μ z < μ y ∧ Sat G0 H0 (Γi z) (Ωi z) σ' H', bk := fun σ' H' => wpS X rest D σ' H' } σ H)
    (hd : ∀ y, φ y → bb y = false → ∀ σ H, Sat G0 H0 (Γi y) (Ωi y) σ H → wpS X rest D σ H) (hp : PassesOwn (model X.prog X.w) X.A X.env X.xe := by exact PassesOwn.never) : wpS X (.While c body [] pos :: rest) D σ H := by
  refine wp_cons (ps_while (tc := fun σ H Q => ∃ y, φ y ∧ tGT (Γi y) (Ωi y) (bb y) σ H Q) hp ⟨fun pins s σ H Q I ⟨y, hy, h⟩ => (hc y hy).run pins s σ H Q I h⟩ pss_wp) ?_
  obtain ⟨y0, p0, s0⟩ := h0
  refine ⟨fun m σ H => ∃ y, φ y ∧ μ y = m ∧ Sat G0 H0 (Γi y) (Ωi y) σ H, ⟨_, y0, p0, rfl, s0⟩, ?_⟩
  rintro m σ H ⟨y, py, rfl, sy⟩
  refine ⟨y, py, G0, H0, sy, fun G H' g o => ?_⟩
  cases e : bb y with
  | true =>
    rw [if_pos rfl]
    refine ⟨_, fun σ' H' h => ?_, hb y py e σ H' ⟨G, g, o⟩⟩
    obtain ⟨z, pz, lz, sz⟩ := h
    exact ⟨_, lz, z, pz, rfl, sz⟩
  | false =>
    rw [if_neg Bool.false_ne_true]
    exact hd y py e σ H' ⟨G, g, o⟩
/-- for -/
theorem s_for {α γ : Type} {tg it : Expr} {body : List Stmt} {xs : List α} {F : α → VP} (hs : Sat G0 H0 Γ Ω σ H) (hi : IG X tg it Γ Ω xs F) (Γi : Nat → γ → Cn) (Ωi : Nat → γ → Om) (φ : Nat → γ → Prop) (Γt : Nat → γ → α → Cn) (ts : List Nat)
    (h0 : ∀ G1 σ H, Sat G1 H0 Γ Ω σ H → ∃ y, φ 0 y ∧ Sat G1 H0 (Γi 0 y) (Ωi 0 y) σ H)
    (ht : ∀ i y x, xs[i]? = some x → φ i y → TgG X tg (F x) (Γi i y) (Ωi i y) (Γt i y x) ts)
    (hb : ∀ G1, GG G0 H0 G1 → ∀ i y x, xs[i]? = some x → φ i y → ∀ σ H, Sat G1 H0 (Γt i y x) (Ωi i y) σ H →
      wpS X body { D with nx := fun σ' H' => ∃ z, φ (i + 1) z ∧ Sat G1 H0 (Γi (i + 1) z) (Ωi (i + 1) z) σ' H', ct := fun σ' H' => ∃ z, φ (i + 1) z ∧ Sat G1 H0 (Γi (i + 1) z) (Ωi (i + 1) z) σ' H', bk := fun σ' H' => wpS X rest D σ' H' } σ H)
    (hd : ∀ y, φ xs.length y → ∀ σ H, Sat G0 H0 (Γi xs.length y) (Ωi xs.length y) σ H → wpS X rest D σ H) (hp : PassesOwn (model X.prog X.w) X.A X.env X.xe := by exact PassesOwn.never) (hcm : X.calm = true := by rfl) (hfs : ∀ x, foldedSetIterable it X.env x = pure x := by intro _; rfl) : wpS X (.For tg it body [] pos :: rest) D σ H := by
  let g : L2.TG := fun v σ H Q => ∃ i y x, xs[i]? = some x ∧ φ i y ∧ tGg (F x) (Γi i y) (Ωi i y) (Γt i y x) ts v σ H Q
  have hg : PG X tg g := ⟨fun pins s σ H v u Q I r ⟨i, y, x, hx, hy, h⟩ => (ht i y x hx hy).run pins s σ H v u Q I r h⟩
  refine wp_cons (ps_for hp hcm hi hg pss_wp hfs) ?_
  refine ⟨G0, H0, hs, fun J G1 H1 g1 o1 w => ?_⟩
  have gg := g1.gg
  refine ⟨fun i m σ H => i ≤ xs.length ∧ m = xs.length - i ∧ ∃ y, φ i y ∧ Sat G1 H0 (Γi i y) (Ωi i y) σ H, ⟨xs.length, Nat.zero_le _, rfl, h0 G1 σ H1 ⟨G1, g1.self, o1⟩⟩, ?_⟩
  rintro i m σ H ⟨hi, rfl, y, py, sy⟩
  obtain ⟨G2, g2, o2⟩ := id sy
  have sm : Same G1 H := g2.g.trans o2.gh
  by_cases hl : i < xs.length
  · refine .inr ⟨w.goes i H hl sm, fun σ' H' => ∃ z, φ (i + 1) z ∧ Sat G1 H0 (Γi (i + 1) z) (Ωi (i + 1) z) σ' H', fun σ' H' h => ?_, fun v H' yl => ?_⟩
    rotate_left
    · have hx : xs[i]? = some xs[i] := by simp [hl]
      obtain ⟨G3, st, pv⟩ := w.yields i H v H' xs[i] G2 hx g2.g o2.gh yl
      refine ⟨i, y, xs[i], hx, py, G3, H0, ⟨G3, (g2.step st).self, o2.step st, pv⟩, fun σ' G' H'' on g' o' => ?_⟩
      exact hb G1 gg i y xs[i] hx py σ' H'' ⟨G', (g2.step st).trans g', o'⟩
    · obtain ⟨z, pz, sz⟩ := h
      exact ⟨xs.length - (i + 1), by omega, hl, rfl, z, pz, sz⟩
  · have e : i = xs.length := by omega
    subst e
    exact .inl ⟨w.stops H sm, hd y py σ H (sy.low gg)⟩
end

/-! ### comprehensions -/
def wipeC (Γ : Cn) : List Nat → Cn
  | [] => Γ
  | v :: vs => (wipeC Γ vs).set v none
theorem Ok.wipe {H0 G H : Hp} {Γ : Cn} {Ω : Om} {σ : L2.St} (o : Ok H0 Γ Ω σ G H) : ∀ vs : List Nat, Ok H0 (wipeC Γ vs) Ω (L2.wipe σ vs) G H
  | [] => o
  | v :: vs => by
    have q := Ok.wipe o vs
    have hc : (wipeC Γ vs).length = (L2.wipe σ vs).length := q.len.symm
    refine ⟨q.gh, ?_, fun j R e => ?_, q.ow, q.nd⟩
    · show ((L2.wipe σ vs).set v none).length = ((wipeC Γ vs).set v none).length
      rw [List.length_set, List.length_set, hc]
    · have e' : ((wipeC Γ vs).set v none)[j]? = some (some R) := e
      show ∃ u, ((L2.wipe σ vs).set v none)[j]? = some (some u) ∧ _
      by_cases hj : v = j
      · subst hj
        have hl := lt_of_some e'
        rw [List.length_set] at hl
        rw [List.getElem?_set_self hl] at e'
        cases e'
      · rw [List.getElem?_set_ne hj] at e' ⊢
        exact q.im j R e'
section
variable {X : Cx} {G0 H0 H : Hp} {Γ : Cn} {Ω : Om} {σ : L2.St} {α : Type} {xs : List α} {F : α → VP} {tg iter elt : Expr} {ifs : List Expr} {scope : Scope} {own : List (Str × Nat)} {pos : Pos}
abbrev bX (X : Cx) (s : Shared) (H : Hp) (scope : Scope) (C : Addr) (cl : List (Str × Addr)) (fp : List Addr) : Cx := X.blk s H scope (compEnvC scope cl C X.env) fp
theorem filter_take {t : α → Bool} {i : Nat} {x : α} (hx : xs[i]? = some x) : (xs.take (i + 1)).filter t = (xs.take i).filter t ++ (if t x then [x] else []) := by
  have e : xs.take (i + 1) = xs.take i ++ [x] := by
    rw [List.take_add_one, hx]; rfl
  rw [e, List.filter_append]
  congr 1
  cases h : t x <;> simp [h]
/-- the reading of a comprehension over what is walked -/
theorem lc_read {t : α → Bool} {R : α → VP} {Γt : α → Cn} {ts : List Nat} (hts : ∀ i ∈ ts, i ∈ own.map (·.2)) (hz : xs.length ≤ sizeLine) {Q : VK} (hs : Sat G0 H0 Γ Ω σ H)
    (k : ∀ v G H', Grow G0 H0 G H' → Ok H0 Γ Ω σ G H' → (vL ((xs.filter t).map R)).p v G → Q v H') :
    tLc (tGI Γ Ω xs F) (fun v σ H Q => ∃ x ∈ xs, tGg (F x) (wipeC Γ (own.map (·.2))) Ω (Γt x) ts v σ H Q) (fun σ H Q => ∃ x ∈ xs, tGT (Γt x) Ω (t x) σ H Q) (fun σ H Q => ∃ x ∈ xs, t x = true ∧ tG (Γt x) Ω (R x) σ H Q) (own.map (·.2)) σ H Q := by
  refine ⟨G0, H0, hs, fun J G1 H1 g1 o1 w D hD => ?_⟩
  have hD0 : H0 D = Option.none := g1.h.free hD
  have fr : ∀ q ∈ Ω, q.1 ≠ D := fun q hq e => by
    obtain ⟨_, _, o, h2, _⟩ := o1.ow q hq
    rw [e, hD] at h2; cases h2
  -- what holds at turn i: the list at D, all else behind G1
  let Pv : Nat → Hp → Prop := fun i H => ∃ G vs, Grow G1 H0 G H ∧ Ok H0 Γ Ω σ G H ∧ G D = none ∧ H D = some (.lst vs) ∧ PV (((xs.take i).filter t).map R) vs G
  have key := lc_it (J := J) (n := xs.length) (G := fun H => Same G1 H) (Y := fun i H x H' => J.yld i H x H') ⟨fun i H hi s => w.goes i H hi s, fun H s => w.stops H s, fun i H x H' _ _ y => y⟩
    (g := fun v σ H Q => ∃ x ∈ xs, tGg (F x) (wipeC Γ (own.map (·.2))) Ω (Γt x) ts v σ H Q) (tt := fun σ H Q => ∃ x ∈ xs, tGT (Γt x) Ω (t x) σ H Q) (te := fun σ H Q => ∃ x ∈ xs, t x = true ∧ tG (Γt x) Ω (R x) σ H Q) (vs := own.map (·.2)) (σ := σ) (H1 := H1) (D := D) (Qd := fun H => Q (.ref D) H) Pv ?h0 ?hG ?hs ?hd
  · exact key
  case h0 =>
    refine ⟨G1, [], ⟨Same.refl _, fun b o e => ?_, fun _ _ _ n => n⟩, ⟨fun b o e => ?_, o1.len, o1.im, fun q hq => ?_, o1.nd⟩, o1.gh.free hD, upd_same, .nil⟩
    · rw [upd_ne (ne_of_none e hD0)]; exact g1.h _ _ e
    · rw [upd_ne (ne_of_none e (o1.gh.free hD))]; exact o1.gh _ _ e
    · obtain ⟨a, b, o, h2, h3⟩ := o1.ow q hq
      exact ⟨a, b, o, by rw [upd_ne (fr q hq)]; exact h2, h3⟩
  case hG =>
    rintro i H _ ⟨G, vs, g, o, _⟩
    exact g.g.trans o.gh
  case hs =>
    rintro i v H H' hi ⟨G, vs, g, o, nD, hDl, pv⟩ y
    have hx : xs[i]? = some xs[i] := by simp [hi]
    have hm : xs[i] ∈ xs := List.getElem_mem hi
    obtain ⟨G2, st, fv⟩ := w.yields i H v H' xs[i] G hx g.g o.gh y
    -- D is held as it is: H0 with D
    have o2 := (o.step st).wipe (own.map (·.2))
    have hD2 : H' D = some (.lst vs) := st.h _ _ hDl
    have nD2 : G2 D = Option.none := st.out _ _ hDl nD
    have okD : ∀ {Γ' : Cn} {σ' : L2.St} {G' K' : Hp} {u : HO}, Ok H0 Γ' Ω σ' G' K' → Ok (upd H0 D u) Γ' Ω σ' G' K' := fun {Γ' σ' G' K' u} o => ⟨o.gh, o.len, o.im, fun q hq => by
      obtain ⟨a, b⟩ := o.ow q hq
      exact ⟨by rw [upd_ne (fr q hq)]; exact a, b⟩, o.nd⟩
    have okD' : ∀ {Γ' : Cn} {σ' : L2.St} {G' K' : Hp} {u : HO}, Ok (upd H0 D u) Γ' Ω σ' G' K' → Ok H0 Γ' Ω σ' G' K' := fun {Γ' σ' G' K' u} o => ⟨o.gh, o.len, o.im, fun q hq => by
      obtain ⟨a, b⟩ := o.ow q hq
      exact ⟨by rw [upd_ne (fr q hq)] at a; exact a, b⟩, o.nd⟩
    have gD : ∀ {G' K' : Hp}, Grow G2 (upd H0 D (.lst vs)) G' K' → Grow G1 H0 G' K' ∧ G' D = none ∧ K' D = some (.lst vs) := fun {G' K'} g' => ⟨(g.step st).unframe hD0 g', g'.out _ _ upd_same nD2, g'.h _ _ upd_same⟩
    -- the slots of the def itself, carried along
    have carry : ∀ {G' K' : Hp}, Grow G2 (upd H0 D (.lst vs)) G' K' → Same G' K' → (∀ q ∈ Ω, G' q.1 = none ∧ ∃ o, K' q.1 = some o ∧ q.2.p o G') → Ok H0 Γ Ω σ G' K' := fun {G' K'} g' s' ow' => by
      have o3 := o.step st
      exact ⟨s', o3.len, fun j R e => let ⟨u, h1, h2⟩ := o3.im j R e; ⟨u, h1, R.mono g'.g h2⟩, fun q hq => ⟨(o3.ow q hq).1, (ow' q hq).1, (ow' q hq).2⟩, o3.nd⟩
    refine ⟨xs[i], hm, G2, upd H0 D (.lst vs), ⟨G2, Grow.frame ((g.step st).h) hD2, okD o2, fv⟩, fun σ2 G3 H3 on g3 o3 => ⟨?_, xs[i], hm, G3, _, ⟨G3, g3.self, o3⟩, fun G4 H4 g4 o4 => ?_⟩⟩
    · have := wipe_only on hts
      rw [this]
      refine List.ext_getElem? fun j => ?_
      by_cases hj : j ∈ own.map (·.2)
      · have wl : ∀ (us : List Nat) (τ : L2.St), j ∈ us → j < τ.length → (L2.wipe τ us)[j]? = some none := fun us τ => by
          induction us with
          | nil => intro z; cases z
          | cons u us ih =>
            intro z l
            show ((L2.wipe τ us).set u none)[j]? = _
            by_cases hu : u = j
            · subst hu; rw [List.getElem?_set_self (by rw [wipe_length]; exact l)]
            · rw [List.getElem?_set_ne hu]
              exact ih ((List.mem_cons.mp z).resolve_left fun q => hu q.symm) l
        by_cases hl : j < σ.length
        · rw [wl _ _ hj (by rw [wipe_length]; exact hl), wl _ _ hj hl]
        · rw [List.getElem?_eq_none (by rw [wipe_length, wipe_length]; omega), List.getElem?_eq_none (by rw [wipe_length]; omega)]
      · rw [wipe_out hj]
    · have g34 := g3.trans g4
      have ft := filter_take (t := t) hx
      cases ht : t xs[i] with
      | true =>
        show (if true = true then _ else _)
        rw [if_pos rfl]
        refine ⟨xs[i], hm, ht, G4, _, ⟨G4, g4.self, o4⟩, fun y G5 H5 g5 o5 ry => ?_⟩
        have g35 := g34.trans g5
        obtain ⟨gg, nD5, hD5⟩ := gD g35
        have ok5 := carry g35 o5.gh fun q hq => (o5.ow q hq).2
        have pv5 : PV (((xs.take i).filter t).map R) vs G5 := PV.mono (st.g.trans g35.g) pv
        have hlen : vs.length < sizeLine := by
          have h1 := Paired.length pv
          rw [List.length_map] at h1
          have h2 := List.length_filter_le t (xs.take i)
          rw [List.length_take] at h2
          omega
        refine ⟨vs, hD5, hlen, G5, vs ++ [y], ⟨gg.g, fun b o e => ?_, gg.out⟩, ⟨fun b o e => ?_, ok5.len, ok5.im, fun q hq => ?_, ok5.nd⟩, nD5, upd_same, ?_⟩
        · rw [upd_ne (ne_of_none e hD0)]; exact gg.h _ _ e
        · rw [upd_ne (ne_of_none e nD5)]; exact ok5.gh _ _ e
        · obtain ⟨a, b, o, h2, h3⟩ := ok5.ow q hq
          exact ⟨a, b, o, by rw [upd_ne (fr q hq)]; exact h2, h3⟩
        · rw [ft, ht, if_pos rfl, List.map_append]
          exact PV.append pv5 (.cons ry .nil)
      | false =>
        show (if false = true then _ else _)
        rw [if_neg Bool.false_ne_true]
        obtain ⟨gg, nD4, hD4⟩ := gD g34
        refine ⟨G4, vs, gg, carry g34 o4.gh fun q hq => (o4.ow q hq).2, nD4, hD4, ?_⟩
        rw [ft, ht, if_neg Bool.false_ne_true, List.append_nil]
        exact PV.mono (st.g.trans g34.g) pv
  case hd =>
    rintro H ⟨G, vs, g, o, nD, hDl, pv⟩
    rw [List.take_length] at pv
    -- the list is handed over
    have sm : Same G (upd G D (.lst vs)) := fun b u e => by rw [upd_ne (ne_of_none e nD)]; exact e
    refine k (.ref D) (upd G D (.lst vs)) H ⟨g1.g.trans (g.g.trans sm), g.h, fun b u e n => ?_⟩ ⟨fun b u e => ?_, o.len, fun j R e => let ⟨u, h1, h2⟩ := o.im j R e; ⟨u, h1, R.mono sm h2⟩, fun q hq => ?_, o.nd⟩ ⟨D, vs, rfl, upd_same, PV.mono sm pv⟩
    · rw [upd_ne (ne_of_none e hD0)]
      exact g.out b u e (g1.out b u e n)
    · by_cases hb : b = D
      · subst hb; rw [upd_same] at e; rw [hDl]; exact e
      · rw [upd_ne hb] at e; exact o.gh _ _ e
    · obtain ⟨a, b, u, h2, h3⟩ := o.ow q hq
      exact ⟨a, by rw [upd_ne (fr q hq)]; exact b, u, h2, q.2.mono sm h3⟩
/-- the comprehension's own rule: what is walked, the test's and the element's reading for each item -/
theorem eg_lc (N : List Str) (sc : Scope) (own : List (Str × Nat)) {t : α → Bool} {R : α → VP} (Γt : α → Cn) (ts : List Nat) (hi : IG X tg iter Γ Ω xs F) (hz : xs.length ≤ sizeLine)
    (hg : ∀ s H C cl fp, ∀ x ∈ xs, TgG (bX X s H scope C cl fp) tg (F x) (wipeC Γ (own.map (·.2))) Ω (Γt x) ts)
    (ht : ∀ s H C cl fp, ∀ x ∈ xs, PTs (bX X s H scope C cl fp) ifs (tGT (Γt x) Ω (t x)))
    (he : ∀ s H C cl fp, ∀ x ∈ xs, t x = true → EG (bX X s H scope C cl fp) (Γt x) Ω elt (R x))
    (hN : X.N.Nodup) (ok : blkC N sc scope own = true := by decide +kernel) (hX : X.N = N ∧ X.env.scope = sc := by exact ⟨rfl, rfl⟩) (hts : ∀ i ∈ ts, i ∈ own.map (·.2) := by decide) (hc : X.calm = true := by rfl) (hs : ∀ x, foldedSetIterable iter X.env x = pure x := by intro _; rfl) : EG X Γ Ω (.ListComp elt [⟨tg, iter, ifs, 0⟩] scope pos) (vL ((xs.filter t).map R)) := by
  refine weak (pe_lc (own := own) (g := fun v σ H Q => ∃ x ∈ xs, tGg (F x) (wipeC Γ (own.map (·.2))) Ω (Γt x) ts v σ H Q) (tt := fun σ H Q => ∃ x ∈ xs, tGT (Γt x) Ω (t x) σ H Q) (te := fun σ H Q => ∃ x ∈ xs, t x = true ∧ tG (Γt x) Ω (R x) σ H Q) hc hN hi (blkOk_by (by rw [hX.1, hX.2]; exact ok)) ?_ ?_ ?_ hs) ?_
  · exact fun s H C cl fp => ⟨fun pins s' σ H' v u Q I r ⟨x, hx, h⟩ => (hg s H C cl fp x hx).run pins s' σ H' v u Q I r h⟩
  · exact fun s H C cl fp => ⟨fun pins s' σ H' Q I ⟨x, hx, h⟩ => (ht s H C cl fp x hx).run pins s' σ H' Q I h⟩
  · exact fun s H C cl fp => ⟨fun pins s' σ H' Q I ⟨x, hx, hb, h⟩ => (he s H C cl fp x hx hb).run pins s' σ H' Q I h⟩
  · rintro σ H Q ⟨G0, H0, s, k⟩
    exact lc_read hts hz s k
end
theorem pts_yes {X : Cx} {Γ : Cn} {Ω : Om} : PTs X [] (tGT Γ Ω true) := ⟨fun pins s σ H Q I ⟨G0, H0, ⟨G, g, o⟩, k⟩ => pts_nil.run pins s σ H Q I (k G H g o)⟩
theorem pts_if {X : Cx} {Γ : Cn} {Ω : Om} {c : Expr} {b : Bool} (h : TG X Γ Ω c b) : PTs X [c] (tGT Γ Ω b) := pts_one h
/-- y = [..] -/
theorem s_setLc {X : Cx} {G0 H0 H : Hp} {Γ : Cn} {Ω : Om} {σ : L2.St} {D : Ends} {rest : List Stmt} {α : Type} {xs : List α} {F : α → VP} {tg iter elt : Expr} {ifs : List Expr} {scope : Scope} {pos spos py : Pos} {y : Str} (N : List Str) (sc : Scope) (own : List (Str × Nat)) {t : α → Bool} {R : α → VP} (Γt : α → Cn) (ts : List Nat) (hst : Sat G0 H0 Γ Ω σ H) (i : Nat) (hi : IG X tg iter Γ Ω xs F) (hz : xs.length ≤ sizeLine)
    (hg : ∀ s H C cl fp, ∀ x ∈ xs, TgG (bX X s H scope C cl fp) tg (F x) (wipeC Γ (own.map (·.2))) Ω (Γt x) ts)
    (ht : ∀ s H C cl fp, ∀ x ∈ xs, PTs (bX X s H scope C cl fp) ifs (tGT (Γt x) Ω (t x)))
    (he : ∀ s H C cl fp, ∀ x ∈ xs, t x = true → EG (bX X s H scope C cl fp) (Γt x) Ω elt (R x))
    (k : ∀ σ' H', Sat G0 H0 (Γ.set i (some (vL ((xs.filter t).map R)))) Ω σ' H' → wpS X rest D σ' H')
    (hN : X.N.Nodup) (hy : X.N[i]? = some y := by rfl) (ok : blkC N sc scope own = true := by decide +kernel) (hX : X.N = N ∧ X.env.scope = sc := by exact ⟨rfl, rfl⟩) (hts : ∀ i ∈ ts, i ∈ own.map (·.2) := by decide) (hc : X.calm = true := by rfl) (hyl : X.env.scope.names.lookup y = some .local := by rfl)
    (hsw : swapsWith (.ListComp elt [⟨tg, iter, ifs, 0⟩] scope pos) (some (.Name y py)) spos.line X.env = pure true := by exact sw_true rfl rfl rfl (by decide +kernel)) (hs : ∀ x, foldedSetIterable iter X.env x = pure x := by intro _; rfl) :
    wpS X (.Assign [.Name y py] (.ListComp elt [⟨tg, iter, ifs, 0⟩] scope pos) spos :: rest) D σ H := by
  refine wp_cons (ps_setLc (own := own) (i := i) (g := fun v σ H Q => ∃ x ∈ xs, tGg (F x) (wipeC Γ (own.map (·.2))) Ω (Γt x) ts v σ H Q) (tt := fun σ H Q => ∃ x ∈ xs, tGT (Γt x) Ω (t x) σ H Q) (te := fun σ H Q => ∃ x ∈ xs, t x = true ∧ tG (Γt x) Ω (R x) σ H Q) hc hN hy hyl hsw hi (blkOk_by (by rw [hX.1, hX.2]; exact ok)) ?_ ?_ ?_ hs) ?_
  · exact fun s H C cl fp => ⟨fun pins s' σ H' v u Q I r ⟨x, hx, h⟩ => (hg s H C cl fp x hx).run pins s' σ H' v u Q I r h⟩
  · exact fun s H C cl fp => ⟨fun pins s' σ H' Q I ⟨x, hx, h⟩ => (ht s H C cl fp x hx).run pins s' σ H' Q I h⟩
  · exact fun s H C cl fp => ⟨fun pins s' σ H' Q I ⟨x, hx, hb, h⟩ => (he s H C cl fp x hx hb).run pins s' σ H' Q I h⟩
  · exact lc_read hts hz hst fun v G H' g o q => k _ H' ⟨G, g, o.set q⟩
end Ow
namespace Ow
open PySem PySem.Spec PyProof.Rows L2

/-! ### promises -/
/-- of values alone: such arguments give such a value -/
def Pu (A : List VP) (R : VP) : Sp := fun vs H Q _ => ∃ G, Same G H ∧ PV A vs G ∧ ∀ v G' H', Step G H G' H' → R.p v G' → Q v H'
def Px {α : Type} (φ : α → Prop) (A : α → List VP) (R : α → VP) : Sp := fun vs H Q E => ∃ y, φ y ∧ Pu (A y) (R y) vs H Q E
/-- the slots at the entry -/
def stC (N : List Str) (A : List VP) : Cn := A.map some ++ List.replicate (N.length - A.length) none
theorem start_ok {N : List Str} {A : List VP} {vs : List V} {G H H0 : Hp} (s : Same G H) (q : PV A vs G) : Ok H0 (stC N A) [] (L2.start N vs) G H := by
  have hl := Paired.length q
  refine ⟨s, ?_, fun i P e => ?_, (by intro q hq; cases hq), .nil⟩
  · unfold L2.start stC
    rw [List.length_append, List.length_append, List.length_map, List.length_map, List.length_replicate, List.length_replicate, hl]
  · unfold stC at e
    have hi : i < A.length := by
      by_cases hi : i < A.length
      · exact hi
      · rw [List.getElem?_append_right (by simpa using hi), List.getElem?_replicate] at e
        split at e <;> cases e
    rw [List.getElem?_append_left (by simpa using hi), List.getElem?_map] at e
    obtain ⟨P', e1, e2⟩ := Option.map_eq_some_iff.mp e
    cases e2
    obtain ⟨v, h1, h2⟩ := q.get e1
    refine ⟨v, ?_, h2⟩
    unfold L2.start
    rw [List.getElem?_append_left (by simp; omega), List.getElem?_map, h1]
    rfl
abbrev bodyX (P : Program) (w : World) (K : PySem.W.Frag) (mg : Str → Option Value) (base : Heap) (N : List Str) (qual : Str) (scope : Scope) (f : Addr) (cdv : Value) (A : Around) (outer : List Env) (s : Shared) (H : Hp) (E : XK) : Cx := (cxOf CX0 P w K mg base N qual scope f cdv A outer s H E).nox
section
variable {P : Program} {w : World} {K : PySem.W.Frag} {mg : Str → Option Value} {base : Heap} {x qual : Str} {params : Arguments} {body : List Stmt} {scope : Scope} {dvs : List V} {kws : List (Str × V)} {f : Addr} {fd : FuncData} {N ps : List Str} {k : Nat} {α : Type} {φ : α → Prop} {A : α → List VP} {R : α → VP}
/-- THE RULE of a def of values -/
theorem fn_pu (F : FunD K x qual params body scope dvs kws f fd) (S : FnScope N ps scope) (hl : ∀ y, φ y → (A y).length = ps.length)
    (hb : ∀ (cdv : Value) (Ar : Around) (outer : List Env) (s : Shared) (H : Hp) (E : XK) (y : α) (G : Hp) (Q : VK) (σ : L2.St), Room k (Ar.deeper (envOfC qual scope s.heap.objs.size f cdv)) → φ y → Sat G H (stC N (A y)) [] σ H → (∀ v G' H', Step G H G' H' → (R y).p v G' → Q v H') →
      wpS (bodyX P w K mg base N qual scope f cdv Ar outer s H E) body { nx := fun _ H' => Q .non H', rt := Q } σ H) : FnOk P w K mg base CX0 (k + 1) f fd ps (Px φ A R) := by
  refine F.ok S (fun vs H Q E h => ?_) (fun cdv Ar outer s H vs Q E hr h => ⟨_, PSs.nox pss_wp, ?_⟩)
  · obtain ⟨y, hy, G, s, q, _⟩ := h
    rw [← Paired.length q]; exact hl y hy
  · obtain ⟨y, hy, G, sm, q, kk⟩ := h
    exact hb cdv Ar outer s H E y G Q _ hr hy ⟨G, Grow.refl, start_ok sm q⟩ kk
end
/-- a def of the module, by its name -/
structure FG (P : Program) (w : World) (K : PySem.W.Frag) (mg : Str → Option Value) (base : Heap) (k : Nat) (x : Str) {α : Type} (φ : α → Prop) (A : α → List VP) (R : α → VP) : Prop where
  ex : ∃ f fd ps, FnOk P w K mg base CX0 k f fd ps (Px φ A R) ∧ mg x = some (.ref f) ∧ PySem.W.keepIn K (.ref f) = true ∧ Binds K fd ps []
/-- a method of the class at C; a property of it -/
structure FM (P : Program) (w : World) (K : PySem.W.Frag) (mg : Str → Option Value) (base : Heap) (k : Nat) (C : Addr) (m : Str) {α : Type} (φ : α → Prop) (A : α → List VP) (R : α → VP) : Prop where
  ex : ∃ f fd ps, FnOk P w K mg base CX0 k f fd ps (Px φ A R) ∧ Cls K C ∧ Meth K C m f ∧ Binds K fd ps []
structure FP (P : Program) (w : World) (K : PySem.W.Frag) (mg : Str → Option Value) (base : Heap) (k : Nat) (C : Addr) (m : Str) {α : Type} (φ : α → Prop) (A : α → List VP) (R : α → VP) : Prop where
  ex : ∃ f fd ps p, FnOk P w K mg base CX0 k f fd ps (Px φ A R) ∧ Cls K C ∧ PropOf K C m p f ∧ Binds K fd ps []
section
variable {X : Cx} {Γ : Cn} {Ω : Om} {pos p apos : Pos} {e o : Expr} {es : List Expr} {P : VP} {Ps : List VP} {x m f : Str} {k j : Nat} {α : Type} {φ : α → Prop} {A : α → List VP} {R : α → VP} {C : Addr}
theorem eg_call (F : FG X.prog X.w X.K X.mg X.base j x φ A R) (hr : Room k X.A) (hk : j ≤ k) (y : α) (hy : φ y) (ha : AG X Γ Ω (e :: es) (A y)) (hg : Gl X x := by rfl)
    (hdb : (x == ("__debug__" : Str)) = false := by decide) (he : starEach (e :: es) X.env = (false, eval e X.env) :: starEach es X.env := by rfl) (hpl : (backTo pos (starEach es X.env)).any (·.1) = false := by rfl) : EG X Γ Ω (.Call (.Name x p) (e :: es) [] pos) (R y) := by
  obtain ⟨f, fd, ps, ok, hm, hkp, hb⟩ := F.ex
  refine weak (pe_call (E := E0) ok (hr.mono hk) hg hm hkp hb .nil pass0 ha hdb he hpl) fun σ H Q ⟨G0, H0, s, k⟩ => ⟨G0, H0, s, fun vs G1 H1 g1 o1 q1 => ⟨y, hy, G1, o1.gh, ?_, fun v G' H' st q => k v G' H' (g1.step st) (o1.step st) q⟩⟩
  rw [List.append_nil]
  exact q1
theorem lookup_zip {fs : List (Str × VP)} : ∀ {vs : List V} {H : Hp} {P : VP}, PV (fs.map Prod.snd) vs H → fs.lookup f = some P → ∃ v, ((fs.map Prod.fst).zip vs).lookup f = some v ∧ P.p v H := by
  induction fs with
  | nil => intro vs H P _ e; cases e
  | cons q fs ih =>
    intro vs H P pv e
    cases pv with
    | cons r t =>
      obtain ⟨n, R⟩ := q
      rename_i u us
      show ∃ v, ((n, u) :: (fs.map Prod.fst).zip us).lookup f = some v ∧ _
      rw [List.lookup_cons] at e ⊢
      cases h : f == n with
      | true => rw [h] at e; cases e; exact ⟨u, rfl, r⟩
      | false => rw [h] at e; exact ih t e
theorem lookup_zip_none {ns : List Str} : ∀ {vs : List V}, f ∉ ns → (ns.zip vs).lookup f = none := by
  induction ns with
  | nil => intro vs _; rfl
  | cons n ns ih =>
    intro vs h
    cases vs with
    | nil => rfl
    | cons u us =>
      show ((n, u) :: ns.zip us).lookup f = none
      have hn : (f == n) = false := by
        cases q : f == n with
        | false => rfl
        | true => exact absurd (by rw [eq_of_beq q]; exact List.mem_cons_self) h
      rw [List.lookup_cons, hn]
      exact ih fun z => h (List.mem_cons_of_mem _ z)
/-- e.f, an attribute -/
theorem eg_fld {fs : List (Str × VP)} (he : EG X Γ Ω e (vO C fs)) (c : Cls X.K C) (n : NoAttr X.K C f) (hl : fs.lookup f = some P) (hb : attributeBase e f X.env (eval e X.env) = eval e X.env := by rfl) : EG X Γ Ω (.Attribute e f pos) P :=
  weak (pe_fld he hb) fun σ H Q ⟨G0, H0, s, k⟩ => ⟨G0, H0, s, fun v G H' g o ⟨a, dx, vs, e1, ha, q⟩ => by
    obtain ⟨u, h1, h2⟩ := lookup_zip q hl
    exact ⟨a, C, dx, _, u, e1, o.gh _ _ ha, c, n, h1, k u G H' g o h2⟩⟩
/-- e.f, a property: the getter's promise -/
theorem eg_prop {fs : List (Str × VP)} (F : FP X.prog X.w X.K X.mg X.base j C f φ A R) (hr : Room k X.A) (hk : j + 1 ≤ k) (y : α) (hy : φ y) (hA : A y = [vO C fs]) (he : EG X Γ Ω e (vO C fs)) (hb : attributeBase e f X.env (eval e X.env) = eval e X.env := by rfl) : EG X Γ Ω (.Attribute e f pos) (R y) := by
  obtain ⟨g, fd, ps, pp, ok, c, hp, hbd⟩ := F.ex
  refine weak (pe_prop (E := E0) he c hp ok (hr.mono hk) hbd .nil pass0 hb) fun σ H Q ⟨G0, H0, s, k⟩ => ⟨G0, H0, s, fun v G H' g o ⟨a, dx, vs, e1, ha, q⟩ => ⟨a, dx, _, e1, o.gh _ _ ha, y, hy, G, o.gh, ?_, fun v G' H' st q => k v G' H' (g.step st) (o.step st) q⟩⟩
  rw [hA]
  exact .cons ⟨a, dx, vs, rfl, ha, q⟩ .nil
/-- o.m(e, ..) -/
theorem eg_meth {fs : List (Str × VP)} {pl : Sem Bool} (F : FM X.prog X.w X.K X.mg X.base j C m φ A R) (hr : Room k X.A) (hk : j ≤ k) (y : α) (hy : φ y) (hA : A y = vO C fs :: Ps) (hn : m ∉ fs.map Prod.fst) (ho : EG X Γ Ω o (vO C fs)) (ha : AG X Γ Ω (e :: es) Ps)
    (ht : eval (.Call (.Attribute o m apos) (e :: es) [] pos) X.env = (do
      let ov ← eval o X.env
      standAt apos.atName
      let (f, first) ← holding [ov] (getMethod ov m pl)
      callWith pos f first (backTo pos (starEach (e :: es) X.env)) (backToKw pos (keywordEach [] X.env))) := by rfl)
    (he : starEach (e :: es) X.env = (false, eval e X.env) :: starEach es X.env := by rfl) (hpl : (backTo pos (starEach es X.env)).any (·.1) = false := by rfl) : EG X Γ Ω (.Call (.Attribute o m apos) (e :: es) [] pos) (R y) := by
  obtain ⟨g, fd, ps, ok, c, hm, hbd⟩ := F.ex
  refine weak (pe_meth (E := E0) (pl := pl) ho c hm ok (hr.mono hk) hbd .nil pass0 ha he hpl ht) fun σ H Q ⟨G0, H0, s, k⟩ => ⟨G0, H0, s, fun v G H' g o ⟨a, dx, vs, e1, ha, q⟩ => ⟨a, dx, _, e1, o.gh _ _ ha, lookup_zip_none hn, G, H0, ⟨G, g.self, o⟩, fun us G2 H2 g2 o2 q2 => ⟨y, hy, G2, o2.gh, ?_, fun v G' H' st q => k v G' H' ((g.trans g2).step st) (o2.step st) q⟩⟩⟩
  rw [hA, List.append_nil, e1]
  exact .cons ⟨a, dx, vs, rfl, g2.g _ _ ha, PV.mono g2.g q⟩ q2
end
end Ow
namespace Ow
open PySem PySem.Spec PyProof.Rows L2

/-! ### enumerate over a tuple -/
theorem enumNewT (l : Addr) (items : Array Value) (n : Nat) (dct : Option Addr) (sl : Array (Option Value)) :
    Meets (Builtin.«enumerate.__new__» ⟨[.type "enumerate", .ref l], []⟩) (fun _ R s => s.heap.get? l = some { cls := .type "tuple", dict := dct, data := .seq items n, slots := sl } ∧
      R (.ok (.ret (.ref (s.heap.push { cls := .type "tuple_iterator", data := .fields #[.ref l, .int 0 0] }).objs.size)))
        { s with heap := (s.heap.push { cls := .type "tuple_iterator", data := .fields #[.ref l, .int 0 0] }).push { cls := .type "enumerate", data := .fields #[.none, .bool false, .ref s.heap.objs.size, rawInt 0, .none, .none] } }) :=
  .of_wp fun prog w A R s h => by
    obtain ⟨hp, g, d, tk, os⟩ := s
    obtain ⟨hl, h⟩ := h
    have hsb := PySem.sub_enumerate
    have hT : Heap.IsTuple (Shared.heap ⟨hp, g, d, tk, os⟩) l items := ⟨_, hl, rfl, n, rfl⟩
    wp_walk using PySem.AutoSeq1.wpAny_loadPart' hl
    refine wpAny_stack_any fun st => wpAny_pure ?_
    split
    · rename_i c _ _ _ _ _
      cases (c == Value.type "enumerate")
      · wp_walk using PySem.AutoSeq1.wpAny_loadPart' hl, wpAny_pyIter_tuple hT
        exact ⟨_, rfl, h⟩
      · wp_walk using PySem.AutoSeq1.wpAny_loadPart' hl, wpAny_pyIter_tuple hT
        exact ⟨_, rfl, h⟩
    · wp_walk using PySem.AutoSeq1.wpAny_loadPart' hl, wpAny_pyIter_tuple hT
      exact ⟨_, rfl, h⟩
theorem callEnumT {prog : Program} {w : World} {A : Around} {E : Value → Shared → Prop} {s : Shared} {l : Addr} {items : Array Value} {Q : Value → Shared → Prop} (hL : s.heap.IsTuple l items)
    (h : ∀ h', IsEnum h' (s.heap.objs.size + 1) s.heap.objs.size 0 .none → h'.IsTupleIter s.heap.objs.size l 0 → (∀ b o, s.heap.get? b = some o → h'.get? b = some o) → Q (.ref (s.heap.objs.size + 1)) { s with heap := h' }) :
    wpAny (model prog w) A (call (.type "enumerate") [.ref l]) Q E s := by
  obtain ⟨⟨c, dct, dt, sl⟩, hl, hc, n, hd⟩ := hL
  replace hc : c = .type "tuple" := hc
  replace hd : dt = .seq items n := hd
  subst hc hd
  refine callType_new F.called_enumerate (by decide) (F.typeCall_enumerate_1 _) (F.newCall_enumerate_1 _) (fun obj => F.args_object_init_2 obj _) F.entry_enumerate_new (enumNewT l items n dct sl) ⟨hl, ?_⟩
  have hz : (s.heap.push { cls := .type "tuple_iterator", data := .fields #[.ref l, .int 0 0] }).objs.size = s.heap.objs.size + 1 := Heap.size_push ..
  show _ ∧ _
  rw [hz]
  have he : IsEnum ((s.heap.push { cls := .type "tuple_iterator", data := .fields #[.ref l, .int 0 0] }).push { cls := .type "enumerate", data := .fields #[.none, .bool false, .ref s.heap.objs.size, rawInt 0, .none, .none] }) (s.heap.objs.size + 1) s.heap.objs.size 0 .none := by
    have q := Heap.get?_push_size (s.heap.push { cls := .type "tuple_iterator", data := .fields #[.ref l, .int 0 0] }) (o := { cls := .type "enumerate", data := .fields #[.none, .bool false, .ref s.heap.objs.size, rawInt 0, .none, .none] }) rfl
    rw [hz] at q
    exact q
  exact ⟨⟨_, he, rfl⟩, h _ he ⟨_, Heap.get?_push_of_some _ (Heap.get?_push_size _ rfl), rfl, rfl⟩ fun b o x => Heap.get?_push_of_some _ (Heap.get?_push_of_some _ x)⟩
/-- the tuple at a, each item in a new pair -/
def ItE (K : PySem.W.Frag) (a : Addr) : It :=
  ⟨fun i H => ∃ (xs : List V) (x : V), SqT K H a xs ∧ xs[i]? = some x, fun i H v H' => ∃ T x, v = .ref T ∧ H T = none ∧ H' = upd H T (.tup [.int (i : Nat), x]) ∧ ∀ xs, SqT K H a xs → xs[i]? = some x, fun i H => ∃ xs : List V, SqT K H a xs ∧ xs.length ≤ i⟩
theorem turnEnumT {P : Program} {w : World} {K : PySem.W.Frag} {elts : List Expr} {kk : Nat} {tpos : Pos} (a e it : Addr) (hae : a ≠ it) :
    Turn P w K (.Tuple elts kk tpos) (ItE K a) [e, it] e (fun i h => (∃ old, IsEnum h e it ((i : Nat) : Int) old) ∧ h.IsTupleIter it a i ∧ e ≠ it) where
  mem := List.mem_cons_self
  obj := fun i h st b hb => by
    obtain ⟨⟨old, he⟩, ⟨o, ho, hc, hd⟩, _⟩ := st
    have e' : b = e ∨ b = it := by simpa using hb
    rcases e' with z | z
    · subst z; exact ⟨_, he, fun v q => by cases q⟩
    · subst z; exact ⟨o, ho, fun v q => by rw [hd] at q; cases q⟩
  keep := fun i h h' st k => by
    obtain ⟨⟨old, he⟩, hi, hne⟩ := st
    exact ⟨⟨old, k e List.mem_cons_self _ he⟩, hi.at fun o q => k it (List.mem_cons_of_mem _ List.mem_cons_self) o q, hne⟩
  item := by
    intro X hP hw hK hc i pins s σ H E I hf st hg
    subst hP hw hK
    obtain ⟨⟨old, he⟩, hit, hne⟩ := st
    obtain ⟨xs, x, hq, hx⟩ := hg
    obtain ⟨its, rv, p, hz⟩ := I.tuple hq
    obtain ⟨u, hu, ru⟩ := rv.get hx
    have hT0 : s.heap.IsTuple a its.toArray := p
    have hil : i < its.toArray.size := by rw [List.size_toArray]; exact (List.getElem?_eq_some_iff.mp hu).1
    have hel : e < s.heap.objs.size := Heap.lt_size he
    have hitl : it < s.heap.objs.size := by obtain ⟨_, q, _⟩ := hit; exact Heap.lt_size q
    refine wpAny_pyNext_enum_itemD (fp := [it, a]) (Draws.tuple (A := X.A.in1) (I.ok.hd hc) it a hae its.toArray) he ⟨hit, hT0⟩ hil hne ?_ fun y h' tk hy ho hst' hT hsz hk => ?_
    · intro z
      rcases List.mem_cons.mp z with z | z
      · exact hne z
      · obtain ⟨oa, ea, ca, _⟩ := hT0
        have z' := List.mem_singleton.mp z
        rw [← z', he] at ea
        cases ea
        exact absurd ca (by intro z; injection z with z; exact absurd z (by decide))
    · have hy' : u = y := by
        have h1 : its.toArray[i]? = some u := by simpa using hu
        have h2 : its.toArray[i]? = some y := hy
        rw [h1] at h2
        exact Option.some.inj h2
      subst hy'
      refine ⟨_, rfl, wpAny_letOwnedTupleGo_enum (s := { s with heap := h', toks := tk + 1 }) ho fun h'' he' sb => ?_⟩
      have hT2 : h''.get? s.heap.objs.size = some { cls := .type "tuple", data := .seq #[.int i tk, u] } := (sb.2 _ (Nat.ne_of_gt hel)).trans hT
      have nw : ObjOk X.prog X.w (upd H s.heap.objs.size (.tup [.int (i : Nat), x])) h'' s.heap.objs.size (.tup [.int (i : Nat), x]) :=
        ⟨by show 2 ≤ sizeLine; decide, [.int i tk, u], .cons ⟨_, rfl⟩ (.cons ru .nil), ⟨_, hT2, rfl, _, rfl⟩⟩
      have I1 : Inv X pins σ (upd H s.heap.objs.size (.tup [.int (i : Nat), x])) { s with heap := h'', toks := tk + 1 } :=
        I.turnedNew (ch := [e, it]) (fun b ob hb q => (sb.2 b (fun z => hb (by simp [z]))).trans (hk b ob (fun z => hb (by simp [z])) (fun z => hb (by simp [z])) q)) hf (Nat.le_refl _) nw
      refine ⟨.ref s.heap.objs.size, _, I1, rfl, ⟨_, x, rfl, I.hok.fresh (Nat.le_refl _), rfl, fun ys hy => by rw [I.tuple_inj hy hq]; exact hx⟩, ⟨⟨u, ?_⟩, hst'.1.at fun o q => (sb.2 it (Ne.symm hne)).trans q, hne⟩, fun b hb => ?_⟩
      · have e1 : ((i + 1 : Nat) : Int) = (i : Int) + 1 := by omega
        rw [e1]; exact he'
      · have hb' : b < s.heap.objs.size := by
          have e' : b = e ∨ b = it := by simpa using hb
          rcases e' with z | z
          · rw [z]; exact hel
          · rw [z]; exact hitl
        rw [upd_ne (Nat.ne_of_lt hb')]
        exact (hf b hb).1
  done := by
    intro X hP hw hK hc i pins s σ H E I hf st hg
    subst hP hw hK
    obtain ⟨⟨old, he⟩, hit, hne⟩ := st
    obtain ⟨xs, hq, hx⟩ := hg
    obtain ⟨its, rv, p, hz⟩ := I.tuple hq
    obtain ⟨f0, f1, f2, f3, f4, f5⟩ := hf it (List.mem_cons_of_mem _ List.mem_cons_self)
    have hT0 : s.heap.IsTuple a its.toArray := p
    have hle : its.length ≤ i := by rw [← rv.length]; exact hx
    have D := Draws.tuple (prog := X.prog) (w := X.w) (A := X.A.in1) (I.ok.hd hc) it a hae its.toArray
    -- at the end or behind it: nothing more is drawn
    unfold pyNext
    have hTe : s.TypeIs (.ref e) "enumerate" := ⟨_, he, rfl⟩
    refine wpAny_bind (wpAny_attempt (wpAny_callSpecial?_slot (name := Str.ofString "__next__") hTe F.slot_enumerate_next (wpAny_call_entry F.slot_enumerate_next hTe F.entry_enumerate_next ?_ (F.args_enumerate_next_1 _))))
    show wpAny _ _ (field (.ref e) 2 >>= _) _ _ _
    refine wpAny_bind (wpAny_field he rfl (x := .ref it) rfl ?_)
    refine wpAny_bind (wpAny_nextOf_tuple_end (A := X.A.in1) (I.ok.hd hc) hit hT0 (by simp; omega) fun h' x he' hx' => ?_)
    obtain ⟨o, ho, hcx⟩ := hx'
    refine wpAny_bind (wpAny_isInstance (T := "StopIteration") (b := true) ⟨o, ho, hcx⟩ isSubtype_stop ?_)
    exact wpAny_pure ⟨rfl, I.turned (t' := s.toks) (fun b o hb q => he' b o hb q) f0 f1 f3 f4 f5⟩
  self := fun A i s Q E st h => let ⟨⟨_, he⟩, _⟩ := st; wpAny_pyIter_enum he h
def iEnT (K : PySem.W.Frag) (ta : TA) : TI := fun σ H R => ta σ H fun vs H1 => ∃ a xs, vs = [.ref a] ∧ SqT K H1 a xs ∧ R (ItE K a) H1
theorem pi_enumT {X : Cx} {e : Expr} {ta : TA} {p pos tpos : Pos} {elts : List Expr} {kk : Nat} (hg : Gl X "enumerate") (hm : X.mg "enumerate" = none) (ha : L2.PA X [e] ta) (hs : starEach [e] X.env = [(false, eval e X.env)]) :
    PI X (.Tuple elts kk tpos) (.Call (.Name "enumerate" p) [e] [] pos) (iEnT X.K ta) := by
  refine ⟨fun pins s σ H R I h => ?_⟩
  refine Call_ (ld_blt I hg hm boot_enumerate (PyProof.Rows.callWith_type1 (thn (ha.run pos pins s σ H _ I h) fun us s1 ⟨vs, H1, I1, r1, q1⟩ => ?_) hs rfl))
  obtain ⟨a, xs, ex, hq, q⟩ := q1
  subst ex
  cases r1 with
  | cons r rr =>
    cases rr
    cases r
    obtain ⟨its, rv, p', hz⟩ := I1.tuple hq
    have hT0 : s1.heap.IsTuple a its.toArray := p'
    have hal : a < s1.heap.objs.size := by obtain ⟨_, z, _⟩ := hT0; exact Heap.lt_size z
    refine callEnumT hT0 fun h' he hit hk => wpAny_pyIter_enum he ?_
    have I2 : Inv X pins σ H1 { s1 with heap := h' } := I1.kept (t' := s1.toks) hk
    refine ⟨s1.heap.objs.size + 1, [s1.heap.objs.size + 1, s1.heap.objs.size], _, _, H1, rfl, I2, turnEnumT a (s1.heap.objs.size + 1) s1.heap.objs.size (Nat.ne_of_lt hal), ⟨⟨.none, he⟩, hit, Nat.succ_ne_self _⟩, fun b hb => ?_, q⟩
    have hle : s1.heap.objs.size ≤ b := by
      have e' : b = s1.heap.objs.size + 1 ∨ b = s1.heap.objs.size := by simpa using hb
      rcases e' with z | z
      · rw [z]; exact Nat.le_add_right _ _
      · rw [z]; exact Nat.le_refl _
    exact I1.fpOk hle (I1.hok.fresh hle)
theorem ig_enumT {α : Type} {X : Cx} {Γ : Cn} {Ω : Om} {xs : List α} {F : α → VP} {e : Expr} {p pos tpos : Pos} {elts : List Expr} {kk : Nat} (ha : AG X Γ Ω [e] [vT X.K (xs.map F)]) (hm : X.mg "enumerate" = none) (hg : Gl X "enumerate" := by rfl) (hs : starEach [e] X.env = [(false, eval e X.env)] := by rfl) :
    IG X (.Tuple elts kk tpos) (.Call (.Name "enumerate" p) [e] [] pos) Γ Ω (pairs xs) (vPr X.K F) := weakI (pi_enumT hg hm ha hs) fun σ H R ⟨G0, H0, s, k⟩ => ⟨G0, H0, s, fun us G H' g o q => by
  cases q with
  | cons q t =>
    cases t
    obtain ⟨a, vs, rfl, ha, q⟩ := q
    have hl : vs.length = xs.length := by rw [← Paired.length q, List.length_map]
    refine ⟨a, vs, rfl, SqT.same o.gh ha, k _ G H' g o ⟨fun i H1 hi s1 => ?_, fun H1 s1 => ?_, fun i H1 v H2 x G1 hx s0 s1 y => ?_⟩⟩
    · rw [pairs_length] at hi
      exact ⟨vs, vs[i]'(by omega), SqT.same s1 ha, by simp [hl, hi]⟩
    · rw [pairs_length, ← hl]
      exact ⟨vs, SqT.same s1 ha, Nat.le_refl _⟩
    · obtain ⟨e1, hx⟩ := pairs_get hx
      obtain ⟨T, z, e2, e3, e4, e6⟩ := y
      subst e2 e4
      obtain ⟨w, h1, h2⟩ := q.get (get_map (f := F) hx)
      have e7 := e6 vs (SqT.same (s0.trans s1) ha)
      rw [h1] at e7
      cases e7
      have st := Step.new (o := .tup [.int (i : Nat), z]) s1 e3
      refine ⟨_, st, T, _, rfl, SqT.of upd_same, .cons ?_ (.cons ((F x.2).mono (s0.trans st.g) h2) .nil)⟩
      show _ = V.int _
      rw [e1]⟩

/-! ### a list or a tuple -/
def vSq (K : PySem.W.Frag) (Ps : List VP) : VP := vOr (vL Ps) (vT K Ps)
theorem PIor {X : Cx} {tg e : Expr} {t u : TI} (h : PI X tg e t) (k : PI X tg e u) : PI X tg e (fun σ H R => t σ H R ∨ u σ H R) := ⟨fun pins s σ H R I q => q.elim (h.run pins s σ H R I) (k.run pins s σ H R I)⟩

/-! ### one value, by values -/
section
variable {K : PySem.W.Frag}
theorem ru_of {r : List V → Hp → VK → Prop} {Ps : List VP} {P : VP} (h : ∀ vs G H (Q : VK), Same G H → PV Ps vs G → (∀ z G' H', Step G H G' H' → P.p z G' → Q z H') → r vs H Q) : RU r Ps P := h
theorem ru_max2 {i j : Int} : RU (fun xs H Q => ∃ i j, xs = [V.int i, V.int j] ∧ Q (.int (if j > i then j else i)) H) [vI i, vI j] (vI (if j > i then j else i)) := fun vs G H Q sm q k =>
  ⟨i, j, PV.ints (ns := [i, j]) q, k _ _ _ (Step.refl sm) rfl⟩
theorem ru_max {ns : List Int} {m : Int} (h1 : m ∈ ns) (h2 : ∀ y ∈ ns, y ≤ m) : RU (rMax K) [vL (ns.map vI)] (vI m) := fun vs G H Q sm q k => by
  cases q with
  | cons q t =>
    cases t
    obtain ⟨a, us, rfl, ha, q⟩ := q
    rw [PV.ints q] at ha
    refine ⟨a, ns, rfl, SqL.of (sm _ _ ha), List.length_pos_of_mem h1, fun y hy hle => ?_⟩
    have e : y = m := Int.le_antisymm (h2 y hy) (hle m h1)
    rw [e]
    exact k _ _ _ (Step.refl sm) rfl
theorem ru_sum {ns : List Int} : RU (rSum K) [vL (ns.map vI)] (vI ns.sum) := fun vs G H Q sm q k => by
  cases q with
  | cons q t =>
    cases t
    obtain ⟨a, us, rfl, ha, q⟩ := q
    rw [PV.ints q] at ha
    exact ⟨a, ns, rfl, SqL.of (sm _ _ ha), k _ _ _ (Step.refl sm) rfl⟩
theorem ru_all {bs : List Bool} : RU (rAll K) [vL (bs.map vB)] (vB (bs.all id)) := fun vs G H Q sm q k => by
  cases q with
  | cons q t =>
    cases t
    obtain ⟨a, us, rfl, ha, q⟩ := q
    rw [PV.bools q] at ha
    exact ⟨a, bs, rfl, SqL.of (sm _ _ ha), k _ _ _ (Step.refl sm) rfl⟩
/-- any of a tuple of bools -/
def rAnyT (K : PySem.W.Frag) : List V → Hp → VK → Prop := fun vs H Q => ∃ (a : Addr) (bs : List Bool), vs = [V.ref a] ∧ SqT K H a (bs.map V.bl) ∧ Q (.bl (bs.any id)) H
theorem iterT {prog : Program} {w : World} {A : Around} {E : Value → Shared → Prop} {s : Shared} {l : Addr} {items : Array Value} {Q : Value → Shared → Prop} (hl : s.heap.IsTuple l items)
    (h : ∀ s₂ : Shared, s₂ = { s with heap := s.heap.push { cls := .type "tuple_iterator", data := .fields #[.ref l, .int 0 0] } } → (s₂.heap.IsTupleIter s.heap.objs.size l 0 ∧ s₂.heap.IsTuple l items) → l ≠ s.heap.objs.size → Q (.ref s.heap.objs.size) s₂) : wpAny (model prog w) A (pyIter (.ref l)) Q E s := by
  have hlt : l < s.heap.objs.size := by obtain ⟨_, e, _⟩ := hl; exact Heap.lt_size e
  refine wpAny_pyIter_tuple hl (h _ rfl ⟨⟨_, Heap.get?_push_size _ rfl, rfl, rfl⟩, ?_⟩ (Nat.ne_of_lt hlt))
  obtain ⟨o, e, c⟩ := hl
  exact ⟨o, Heap.get?_push_of_some _ e, c⟩
theorem cr_anyT {X : Cx} (hc : X.calm = true) : CallR X (.builtin "any") (rAnyT X.K) := by
  intro pins s σ H vs us Q I r h
  obtain ⟨a, bs, rfl, hs, q⟩ := h
  obtain ⟨its, rv, hl, _⟩ := I.tuple hs
  rw [Vals.ref1 r]
  have hb := rv.bls
  have hl' : s.heap.IsTuple a its.toArray := hl
  refine call_any_walk (iterT hl' fun s₂ e2 st hne => ?_)
  subst e2
  refine ⟨_, _, _, _, _, _, _, rfl, Walks.tuple (A := X.A.in1) (I.ok.hd hc) _ a hne its.toArray, st, truth_bools hb, fun h' tk hk => ?_⟩
  refine ⟨.bl _, H, I.kept fun b o eo => hk b o (fun hm => ?_) (Heap.get?_push_of_some _ eo), ?_, q⟩
  · rcases List.mem_cons.mp hm with e1 | hm
    · exact absurd (e1 ▸ Heap.lt_size eo) (Nat.lt_irrefl _)
    · cases hm
  · show Value.bool _ = Value.bool _
    rw [← L2.any_range, hb, List.size_toArray, List.length_map]
theorem ru_anyT {bs : List Bool} : RU (rAnyT K) [vT K (bs.map vB)] (vB (bs.any id)) := fun vs G H Q sm q k => by
  cases q with
  | cons q t =>
    cases t
    obtain ⟨a, us, rfl, ha, q⟩ := q
    rw [PV.bools q] at ha
    exact ⟨a, bs, rfl, SqT.same sm ha, k _ _ _ (Step.refl sm) rfl⟩
theorem ru_lenL {Ps : List VP} : RU (fun xs H Q => ∃ x n, xs = [x] ∧ LenV K x H n ∧ Q (.int n) H) [vL Ps] (vI Ps.length) := fun vs G H Q sm q k => by
  cases q with
  | cons q t =>
    cases t
    obtain ⟨a, us, rfl, ha, q⟩ := q
    refine ⟨_, us.length, rfl, .inl ⟨_, SqL.of (sm _ _ ha), rfl⟩, ?_⟩
    exact k _ _ _ (Step.refl sm) (by rw [Paired.length q]; rfl)
theorem ru_lenT {Ps : List VP} : RU (fun xs H Q => ∃ x n, xs = [x] ∧ LenV K x H n ∧ Q (.int n) H) [vT K Ps] (vI Ps.length) := fun vs G H Q sm q k => by
  cases q with
  | cons q t =>
    cases t
    obtain ⟨a, us, rfl, ha, q⟩ := q
    refine ⟨_, us.length, rfl, .inr ⟨_, SqT.same sm ha, rfl⟩, ?_⟩
    exact k _ _ _ (Step.refl sm) (by rw [Paired.length q]; rfl)
theorem ru_tupL {Ps : List VP} : RU (fun xs H Q => ∃ p ys, xs = [V.ref p] ∧ ((SqL K H p ys ∧ ∀ l, H l = none → Q (.ref l) (upd H l (.tup ys))) ∨ (SqT K H p ys ∧ Q (.ref p) H))) [vL Ps] (vT K Ps) := fun vs G H Q sm q k => by
  cases q with
  | cons q t =>
    cases t
    obtain ⟨a, us, rfl, ha, q⟩ := q
    exact ⟨a, us, rfl, .inl ⟨SqL.of (sm _ _ ha), fun l hl => k _ _ _ (Step.new sm hl) ⟨l, us, rfl, SqT.of upd_same, PV.mono (Step.new (o := .tup us) sm hl).g q⟩⟩⟩
theorem ru_lstSq {Ps : List VP} : RU (fun xs H Q => ∃ p ys, xs = [V.ref p] ∧ (SqL K H p ys ∨ SqT K H p ys) ∧ ∀ l, H l = none → Q (.ref l) (upd H l (.lst ys))) [vSq K Ps] (vL Ps) := fun vs G H Q sm q k => by
  cases q with
  | cons q t =>
    cases t
    rcases q with ⟨a, us, rfl, ha, q⟩ | ⟨a, us, rfl, ha, q⟩
    · exact ⟨a, us, rfl, .inl (SqL.of (sm _ _ ha)), fun l hl => k _ _ _ (Step.new sm hl) ⟨l, us, rfl, upd_same, PV.mono (Step.new (o := .lst us) sm hl).g q⟩⟩
    · exact ⟨a, us, rfl, .inr (SqT.same sm ha), fun l hl => k _ _ _ (Step.new sm hl) ⟨l, us, rfl, upd_same, PV.mono (Step.new (o := .lst us) sm hl).g q⟩⟩
theorem ru_lstL {Ps : List VP} : RU (fun xs H Q => ∃ p ys, xs = [V.ref p] ∧ (SqL K H p ys ∨ SqT K H p ys) ∧ ∀ l, H l = none → Q (.ref l) (upd H l (.lst ys))) [vL Ps] (vL Ps) := fun vs G H Q sm q k =>
  ru_lstSq vs G H Q sm (by cases q with | cons q t => exact .cons (.inl q) t) k
theorem ru_lstT {Ps : List VP} : RU (fun xs H Q => ∃ p ys, xs = [V.ref p] ∧ (SqL K H p ys ∨ SqT K H p ys) ∧ ∀ l, H l = none → Q (.ref l) (upd H l (.lst ys))) [vT K Ps] (vL Ps) := fun vs G H Q sm q k =>
  ru_lstSq vs G H Q sm (by cases q with | cons q t => exact .cons (.inr q) t) k
/-- isinstance of a value whose type is told -/
theorem ru_isi {P : VP} {c : V} {u : Value} {b : Bool} (hc : ClsV c u) (ht : ∀ x G, P.p x G → ∃ t, TyX K G x t ∧ PySem.W.kitOne K t u = some b) (hm : ∀ x t G H, Same G H → TyX K G x t → TyX K H x t) : RU (rIsi K) [P, vIs c] (vB b) := fun vs G H Q sm q k => by
  cases q with
  | cons q t =>
    cases t with
    | cons q2 t =>
      cases t
      obtain ⟨ty, h1, h2⟩ := ht _ G q
      have e : _ = c := q2
      subst e
      exact ⟨_, _, ty, u, b, rfl, hc, hm _ _ _ _ sm h1, h2, k _ _ _ (Step.refl sm) rfl⟩
theorem TyX.same {G H : Hp} {x : V} {t : Value} (s : Same G H) (h : TyX K G x t) : TyX K H x t := by
  cases h with
  | base b =>
    cases b with
    | non => exact .base .non
    | bl y => exact .base (.bl y)
    | int i => exact .base (.int i)
    | str y => exact .base (.str y)
    | flt y => exact .base (.flt y)
    | lst ea => exact .base (.lst (s _ _ ea))
    | frz ea => exact .base (.frz (s _ _ ea))
    | tup ea => exact .base (.tup (s _ _ ea))
    | dK ea => exact .base (.dK (s _ _ ea))
    | dT ea => exact .base (.dT (s _ _ ea))
    | ins ea cl ha hn htk hm => exact .base (.ins (s _ _ ea) cl ha hn htk hm)
  | byt y => exact .byt y
  | set ea => exact .set (s _ _ ea)
  | kList ea c => exact .kList ea c
  | kTuple ea c => exact .kTuple ea c
  | kDict ea c => exact .kDict ea c
  | fTuple ea => exact .fTuple (s _ _ ea)
  | fDict ea => exact .fDict (s _ _ ea)
theorem tyT {Ps : List VP} {x : V} {G : Hp} (h : (vT K Ps).p x G) : TyX K G x (.type "tuple") := by
  obtain ⟨a, vs, rfl, h, _⟩ := h
  rcases h with (h | ⟨o, h⟩) | ⟨o, its, n, h1, h2, _⟩
  · exact .base (.tup h)
  · exact .fTuple h
  · exact .kTuple h1 h2
end
end Ow
namespace Ow
open PySem PySem.Spec PyProof.Rows L2

/-! ### *e among arguments -/
theorem ag_star {X : Cx} {Γ : Cn} {Ω : Om} {e : Expr} {es : List Expr} {Ps Qs : List VP} {p : Pos} (he : EG X Γ Ω e (vSq X.K Ps)) (hr : AG X Γ Ω es Qs) (hs : starEach (.Starred e p :: es) X.env = (true, eval e X.env) :: starEach es X.env := by rfl) : AG X Γ Ω (.Starred e p :: es) (Ps ++ Qs) :=
  weakA (StX.pa_star he hr hs) fun σ H Q ⟨G0, H0, s, k⟩ => ⟨G0, H0, s, fun (x : V) G1 H1 g1 o1 q1 => by
    have go : ∃ a us, x = V.ref a ∧ (SqT X.K H1 a us ∨ SqL X.K H1 a us) ∧ PV Ps us G1 := by
      rcases q1 with ⟨a, us, e1, ha, q⟩ | ⟨a, us, e1, ha, q⟩
      · exact ⟨a, us, e1, .inr (SqL.of (o1.gh _ _ ha)), q⟩
      · exact ⟨a, us, e1, .inl (SqT.same o1.gh ha), q⟩
    obtain ⟨a, us, e1, h1, q⟩ := go
    exact ⟨a, us, e1, h1, G1, H0, ⟨G1, g1.self, o1⟩, fun ys G2 H2 g2 o2 q2 => k _ G2 H2 (g1.trans g2) o2 ((PV.mono g2.g q).append q2)⟩⟩

/-! ### slices -/
def tGO (Γ : Cn) (Ω : Om) (i : Option Int) : TO := fun σ H Q => ∃ G0 H0, Sat G0 H0 Γ Ω σ H ∧ ∀ G H', Grow G0 H0 G H' → Ok H0 Γ Ω σ G H' → Q i H'
abbrev OG (X : Cx) (Γ : Cn) (Ω : Om) (e : Option Expr) (i : Option Int) : Prop := PO X e (tGO Γ Ω i)
theorem og_none {X : Cx} {Γ : Cn} {Ω : Om} : OG X Γ Ω none none := ⟨fun pins s σ H Q I ⟨G0, H0, ⟨G, g, o⟩, k⟩ => po_none.run pins s σ H Q I (k G H g o)⟩
theorem og_some {X : Cx} {Γ : Cn} {Ω : Om} {e : Expr} {i : Int} (h : EG X Γ Ω e (vI i)) : OG X Γ Ω (some e) (some i) := ⟨fun pins s σ H Q I ⟨G0, H0, s0, k⟩ => (po_some h).run pins s σ H Q I ⟨G0, H0, s0, fun v G H' g o q => ⟨i, q, k G H' g o⟩⟩⟩
def cutG {α : Type} (xs : List α) (lo hi : Option Int) : List α := (xs.drop (HT.sIx xs.length 0 lo)).take (HT.sIx xs.length xs.length hi - HT.sIx xs.length 0 lo)
theorem cutG_pv {Ps : List VP} {vs : List V} {H : Hp} {lo hi : Option Int} (q : PV Ps vs H) : PV (cutG Ps lo hi) (cutV vs lo hi) H := by
  have hl := Paired.length q
  unfold cutG cutV
  rw [hl]
  exact (PV.drop _ q).take _
theorem eg_slL {X : Cx} {Γ : Cn} {Ω : Om} {e : Expr} {lo hi : Option Expr} {i j : Option Int} {Ps : List VP} {p2 pos : Pos} (he : EG X Γ Ω e (vL Ps)) (hl : OG X Γ Ω lo i) (hh : OG X Γ Ω hi j) : EG X Γ Ω (.Subscript e (.Slice lo hi none p2) pos) (vL (cutG Ps i j)) :=
  weak (pe_slice sl_list he hl hh) fun σ H Q ⟨G0, H0, s, k⟩ => ⟨G0, H0, s, fun x G1 H1 g1 o1 ⟨a, vs, e1, ha, q⟩ => ⟨G1, H0, ⟨G1, g1.self, o1⟩, fun G2 H2 g2 o2 => ⟨G2, H0, ⟨G2, g2.self, o2⟩, fun G3 H3 g3 o3 => ⟨a, vs, e1, SqL.of (o3.gh _ _ (g3.g _ _ (g2.g _ _ ha))), fun p hp => by
    have st := Step.new (o := .lst (cutV vs i j)) o3.gh hp
    exact k _ _ _ (((g1.trans g2).trans g3).step st) (o3.step st) ⟨p, _, rfl, upd_same, (cutG_pv q).mono ((g2.g.trans g3.g).trans st.g)⟩⟩⟩⟩⟩
theorem cutG_map {α β : Type} (f : α → β) (xs : List α) (i j : Option Int) : cutG (xs.map f) i j = (cutG xs i j).map f := by
  unfold cutG
  rw [List.length_map, List.map_take, List.map_drop]
theorem sIx_of {n d k : Nat} (h : k ≤ n) : HT.sIx n d (some (k : Int)) = k := by rw [HT.sIx_nat]; omega
theorem cutG_to {α : Type} {xs : List α} {n : Nat} (h : n ≤ xs.length) : cutG xs none (some (n : Int)) = xs.take n := by
  unfold cutG
  rw [HT.sIx_none, sIx_of h]
  simp
theorem cutG_from {α : Type} {xs : List α} {n : Nat} (h : n ≤ xs.length) : cutG xs (some (n : Int)) none = xs.drop n := by
  unfold cutG
  rw [HT.sIx_none, sIx_of h, List.take_of_length_le (by rw [List.length_drop]; omega)]
theorem cutG_mid {α : Type} {xs : List α} {m n : Nat} (h : n ≤ xs.length) (hm : m ≤ n) : cutG xs (some (m : Int)) (some (n : Int)) = (xs.drop m).take (n - m) := by
  unfold cutG
  rw [sIx_of h, sIx_of (by omega)]

/-! ### == of lists of bools -/
theorem dp_bools {K : PySem.W.Frag} {H : Hp} : ∀ bs : List Bool, DpAll K H (bs.map V.bl) (bs.map PyData.bool)
  | [] => .nil
  | b :: bs => .cons (.bl b) (dp_bools bs)
theorem eqv_bools : ∀ bs cs : List Bool, PyData.eqv (.list (bs.map PyData.bool)) (.list (cs.map PyData.bool)) = decide (bs = cs) := by
  have all : ∀ bs cs : List Bool, PyData.eqvAll (bs.map PyData.bool) (cs.map PyData.bool) = decide (bs = cs) := by
    intro bs
    induction bs with
    | nil =>
      intro cs
      cases cs with
      | nil => rfl
      | cons c cs => rfl
    | cons b bs ih =>
      intro cs
      cases cs with
      | nil => rfl
      | cons c cs =>
        show (PyData.eqv (.bool b) (.bool c) && PyData.eqvAll (bs.map PyData.bool) (cs.map PyData.bool)) = _
        rw [ih cs]
        have : PyData.eqv (.bool b) (.bool c) = decide (b = c) := by cases b <;> cases c <;> rfl
        rw [this]
        by_cases h1 : b = c <;> by_cases h2 : bs = cs <;> simp [h1, h2]
  intro bs cs
  show PyData.eqvAll (bs.map PyData.bool) (cs.map PyData.bool) = _
  exact all bs cs
theorem lay_bools : ∀ bs : List Bool, PyData.canLayAll0 (bs.map PyData.bool) = true ∧ PyData.depthAll (bs.map PyData.bool) ≤ 1
  | [] => by simp [PyData.canLayAll0, PyData.depthAll]
  | b :: bs => by
    obtain ⟨h1, h2⟩ := lay_bools bs
    simp [PyData.canLayAll0, PyData.canLay0, PyData.depthAll, PyData.depth, h1]
    omega
theorem shaped_bools (bs : List Bool) : SeqAt.shaped (.list (bs.map PyData.bool)) = true := by
  obtain ⟨h1, h2⟩ := lay_bools bs
  simp [SeqAt.shaped, PyData.canLay0, PyData.depth, h1]
  omega
theorem rg_eqBs {K : PySem.W.Frag} {bs cs : List Bool} : RG (rEqD K) (vL (bs.map vB)) (vL (cs.map vB)) (vB (decide (bs = cs))) := by
  rintro _ _ G H Q sm ⟨a, vs, rfl, ha, qa⟩ ⟨b, us, rfl, hb, qb⟩ k
  rw [PV.bools qa] at ha
  rw [PV.bools qb] at hb
  refine ⟨_, _, .lst (SqL.of (sm _ _ ha)) (dp_bools bs), .lst (SqL.of (sm _ _ hb)) (dp_bools cs), shaped_bools bs, shaped_bools cs, k _ _ _ (Step.refl sm) ?_⟩
  rw [eqv_bools]
  rfl

/-! ### what is ours alone: made, changed, handed over -/
/-- a value that is a new thing, ours alone -/
def tGN (Γ : Cn) (Ω : Om) (R : OP) : TE := fun σ H Q => ∃ G0 H0, Sat G0 H0 Γ Ω σ H ∧ ∀ a G H', Grow G0 H0 G H' → Ok H0 Γ ((a, R) :: Ω) σ G H' → Q (.ref a) H'
abbrev NG (X : Cx) (Γ : Cn) (Ω : Om) (e : Expr) (R : OP) : Prop := PE X e (tGN Γ Ω R)
/-- laid: known to H alone -/
theorem Ok.new {H0 G H : Hp} {Γ : Cn} {Ω : Om} {σ : L2.St} {a : Addr} {o : HO} {R : OP} (k : Ok H0 Γ Ω σ G H) (h0 : Same H0 H) (ha : H a = Option.none) (hr : R.p o G) : Ok H0 Γ ((a, R) :: Ω) σ G (upd H a o) := by
  have fr : ∀ q ∈ Ω, q.1 ≠ a := fun q hq e => by
    obtain ⟨_, _, u, h2, _⟩ := k.ow q hq
    rw [e, ha] at h2; cases h2
  refine ⟨fun b u e => ?_, k.len, k.im, fun q hq => ?_, ?_⟩
  · rw [upd_ne (ne_of_none e (k.gh.free ha))]; exact k.gh _ _ e
  · rcases List.mem_cons.mp hq with rfl | hq
    · exact ⟨h0.free ha, k.gh.free ha, o, upd_same, hr⟩
    · obtain ⟨x, y, u, h2, h3⟩ := k.ow q hq
      exact ⟨x, y, u, by rw [upd_ne (fr q hq)]; exact h2, h3⟩
  · rw [List.map_cons, List.nodup_cons]
    refine ⟨fun z => ?_, k.nd⟩
    obtain ⟨q, hq, e⟩ := List.mem_map.mp z
    exact fr q hq e
theorem Grow.new {G0 H0 G H : Hp} {a : Addr} {o : HO} (g : Grow G0 H0 G H) (ha : H a = Option.none) : Grow G0 H0 G (upd H a o) :=
  ⟨g.g, fun b u e => by rw [upd_ne (ne_of_none e (g.h.free ha))]; exact g.h _ _ e, g.out⟩
theorem ng_lst {X : Cx} {Γ : Cn} {Ω : Om} {es : List Expr} {Ps : List VP} {pos : Pos} (h : AG X Γ Ω es Ps) (hl : Ps.length ≤ sizeLine := by exact Nat.le_trans (Nat.le_of_ble_eq_true (rfl : Nat.ble _ 30 = true)) small30) : NG X Γ Ω (.List es pos) (oL Ps) :=
  weak (pe_lst h) fun σ H Q ⟨G0, H0, s, k⟩ => ⟨G0, H0, s, fun vs G1 H1 g1 o1 q1 => ⟨by rw [← Paired.length q1]; exact hl, fun p hp => k p _ _ (g1.new hp) (o1.new g1.h hp ⟨vs, rfl, q1⟩)⟩⟩
/-- from an operation whose answer is always new -/
theorem ng_rep {X : Cx} {Γ : Cn} {Ω : Om} {a b : Expr} {P : VP} {n : Int} {pos : Pos} (h0 : 0 ≤ n) (hn : n ≤ (sizeLine : Nat)) (ha : EG X Γ Ω a (vL [P])) (hb : EG X Γ Ω b (vI n)) : NG X Γ Ω (.BinOp a .Mult b pos) (oL (List.replicate n.toNat P)) :=
  weak (pe_op op_rep ha hb) fun σ H Q ⟨G0, H0, s, k⟩ => ⟨G0, H0, s, fun x G1 H1 g1 o1 ⟨a, vs, e1, ha, q⟩ => ⟨G1, H0, ⟨G1, g1.self, o1⟩, fun y G2 H2 g2 o2 q2 => by
    have e2 : y = V.int n := q2
    subst e1 e2
    obtain ⟨v, rfl, hv⟩ : ∃ v, vs = [v] ∧ P.p v G2 := by
      cases q with
      | cons r t => cases t; exact ⟨_, rfl, P.mono g2.g r⟩
    have hz : (sizeLine : Nat) < 2 ^ 63 := line63
    refine ⟨a, n, [v], rfl, rfl, o2.gh _ _ (g2.g _ _ ha), by omega, by omega, ?_, fun p hp => ?_⟩
    · show 1 * n.toNat ≤ sizeLine
      omega
    · have all : ∀ m : Nat, PV (List.replicate m P) ((List.replicate m [v]).flatten) G2 := fun m => by
        induction m with
        | zero => exact .nil
        | succ m ih => exact .cons hv ih
      exact k p _ _ ((g1.trans g2).new hp) (o2.new (g1.trans g2).h hp ⟨_, rfl, all _⟩)⟩⟩
/-- list(..) -/
theorem ng_list {X : Cx} {Γ : Cn} {Ω : Om} {e : Expr} {Ps : List VP} {pos p : Pos} (hm : X.mg "list" = none) (ha : AG X Γ Ω [e] [vSq X.K Ps]) (hg : Gl X "list" := by rfl) (he : starEach [e] X.env = (false, eval e X.env) :: starEach [] X.env := by rfl) (hpl : (backTo pos (starEach [] X.env)).any (·.1) = false := by rfl) : NG X Γ Ω (.Call (.Name "list" p) [e] [] pos) (oL Ps) :=
  weak (pe_callTy call_list_of hg hm boot_list ha (by decide) (by decide) he hpl) fun σ H Q ⟨G0, H0, s, k⟩ => ⟨G0, H0, s, fun vs G1 H1 g1 o1 q => by
    cases q with
    | cons q t =>
      cases t
      rcases q with ⟨a, us, rfl, ha, q⟩ | ⟨a, us, rfl, ha, q⟩
      · exact ⟨a, us, rfl, .inl (SqL.of (o1.gh _ _ ha)), fun l hl => k l _ _ (g1.new hl) (o1.new g1.h hl ⟨us, rfl, q⟩)⟩
      · exact ⟨a, us, rfl, .inr (SqT.same o1.gh ha), fun l hl => k l _ _ (g1.new hl) (o1.new g1.h hl ⟨us, rfl, q⟩)⟩⟩
section
variable {X : Cx} {G0 H0 H : Hp} {Γ : Cn} {Ω : Om} {σ : L2.St} {D : Ends} {rest : List Stmt} {e o : Expr} {P : VP} {Ps : List VP} {R : OP} {pos pos' : Pos} {a : Addr}
/-- x = a new thing -/
theorem s_new (hs : Sat G0 H0 Γ Ω σ H) (i : Nat) {x : Str} (he : NG X Γ Ω e R) (k : ∀ a σ' H', Sat G0 H0 (Γ.set i (some (vR a))) ((a, R) :: Ω) σ' H' → wpS X rest D σ' H') (hN : X.N.Nodup) (hi : X.N[i]? = some x := by rfl) (hx : Loc X.env.scope x := by first | exact .inl rfl | exact .inr rfl)
    (hw : swapsWith e (some (.Name x pos')) pos.line X.env = pure false := by rfl) (hf : X.fn x = true ∨ X.env.scope.names.lookup x = some .local := by first | exact .inl rfl | exact .inr rfl) : wpS X (.Assign [.Name x pos'] e pos :: rest) D σ H :=
  wp_cons (ps_set hN hi hx he hw hf) ⟨G0, H0, hs, fun a G H' g o => k a _ H' ⟨G, g, o.set rfl⟩⟩
/-- the thing at a changed -/
theorem Ok.put {G : Hp} {u : HO} {R' : OP} {j : Nat} (k : Ok H0 Γ Ω σ G H) (hj : Ω[j]? = some (a, R)) (hr : R'.p u G) : Ok H0 Γ (Ω.set j (a, R')) σ G (upd H a u) := by
  have hm : (a, R) ∈ Ω := List.mem_of_getElem? hj
  obtain ⟨h0, h1, _, _, _⟩ := k.ow _ hm
  have hjl := lt_of_some hj
  have nd := k.nd
  have key : ∀ i q, i ≠ j → Ω[i]? = some q → q.1 ≠ a := fun i q hi hq e => by
    have e1 : (Ω.map (·.1))[i]? = some a := by rw [List.getElem?_map, hq, ← e]; rfl
    have e2 : (Ω.map (·.1))[j]? = some a := by rw [List.getElem?_map, hj]; rfl
    exact hi ((List.getElem?_inj (lt_of_some e1) nd).mp (e1.trans e2.symm))
  refine ⟨fun b v e => ?_, k.len, k.im, fun q hq => ?_, ?_⟩
  · rw [upd_ne (ne_of_none e h1)]; exact k.gh _ _ e
  · obtain ⟨i, hi⟩ := List.mem_iff_getElem?.mp hq
    by_cases hij : i = j
    · subst hij
      rw [List.getElem?_set_self hjl] at hi
      cases hi
      exact ⟨h0, h1, u, upd_same, hr⟩
    · rw [List.getElem?_set_ne (fun z => hij z.symm)] at hi
      obtain ⟨x, y, v, h2, h3⟩ := k.ow q (List.mem_of_getElem? hi)
      exact ⟨x, y, v, by rw [upd_ne (key i q hij hi)]; exact h2, h3⟩
  · have e : (Ω.set j (a, R')).map (·.1) = Ω.map (·.1) := by
      refine List.ext_getElem? fun i => ?_
      rw [List.getElem?_map, List.getElem?_map]
      by_cases hij : j = i
      · subst hij; rw [List.getElem?_set_self hjl, hj]; rfl
      · rw [List.getElem?_set_ne hij]
    rw [e]; exact nd
theorem Grow.put {G : Hp} {u : HO} (g : Grow G0 H0 G H) (h0 : H0 a = Option.none) : Grow G0 H0 G (upd H a u) := ⟨g.g, fun b v e => by rw [upd_ne (ne_of_none e h0)]; exact g.h _ _ e, g.out⟩
/-- o.append(e) -/
theorem s_app {apos cpos epos : Pos} (j : Nat) (hs : Sat G0 H0 Γ Ω σ H) (hj : Ω[j]? = some (a, oL Ps)) (hl : Ps.length < sizeLine) (ho : EG X Γ Ω o (vR a)) (he : EG X Γ Ω e P) (k : ∀ H', Sat G0 H0 Γ (Ω.set j (a, oL (Ps ++ [P]))) σ H' → wpS X rest D σ H')
    (hbase : attributeBase o "append" X.env (eval o X.env) = eval o X.env := by rfl) (hline : (apos.endLine == cpos.line) = true := by rfl) (h1 : starEach [e] X.env = (false, eval e X.env) :: starEach [] X.env := by rfl)
    (hfew : ((backTo cpos (starEach [e] X.env)).all (fun x => !x.1) && (backToKw cpos (keywordEach [] X.env)).all (fun x => x.1.isSome) && decide ([e].length + ([] : List Keyword).length + (if ([] : List Keyword).isEmpty then 0 else 1) < 30)) = true := by rfl)
    (hpl : (backTo cpos (starEach [] X.env)).any (·.1) = false := by rfl) (hw : swapsWith (.Call (.Attribute o "append" apos) [e] [] cpos) none epos.line X.env = pure false := by rfl) : wpS X (.Expr (.Call (.Attribute o "append" apos) [e] [] cpos) epos :: rest) D σ H := by
  refine wp_cons (ps_expr (pe_bm PySem.F.plainAttrs_list PySem.F.slot_list_append PySem.F.type_list_append mt_append ho (pa_cons he pa_nil h1) hbase hfew hline h1 hpl) hw) ?_
  refine ⟨G0, H0, hs, fun x G1 H1 g1 o1 q1 => ?_⟩
  have e1 : x = V.ref a := q1
  subst e1
  have hm : (a, oL Ps) ∈ Ω := List.mem_of_getElem? hj
  refine ⟨?_, ?_⟩
  · obtain ⟨_, _, u, h2, vs, rfl, _⟩ := o1.ow _ hm
    exact .inl ⟨rfl, vs, SqL.of h2⟩
  · refine ⟨G1, H0, ⟨G1, g1.self, o1⟩, fun y G2 H2 g2 o2 q2 => ?_⟩
    obtain ⟨h0, _, u, h2, vs, rfl, h3⟩ := o2.ow _ hm
    refine ⟨a, vs, y, rfl, rfl, h2, by rw [← Paired.length h3]; exact hl, ?_⟩
    exact k _ ⟨G2, (g1.trans g2).put h0, o2.put hj ⟨_, rfl, PV.append h3 (.cons q2 .nil)⟩⟩
/-- o[i] = e -/
theorem s_item {i : Expr} {n : Int} {m : Nat} {tpos : Pos} (j : Nat) (hs : Sat G0 H0 Γ Ω σ H) (hj : Ω[j]? = some (a, oL Ps)) (hn : ixN Ps.length n = some m) (he : EG X Γ Ω e P) (ho : EG X Γ Ω o (vR a)) (hi : EG X Γ Ω i (vI n)) (k : ∀ H', Sat G0 H0 Γ (Ω.set j (a, oL (Ps.set m P))) σ H' → wpS X rest D σ H')
    (ha : ∀ v, assign (.Subscript o i tpos) X.env v = (do
      let ov ← holding [v] (eval o X.env)
      let iv ← holding [v, ov] (eval i X.env)
      standAt tpos
      holding [v, ov, iv] (setItem ov iv v)
      release [v, ov, iv] []) := by intro _; rfl)
    (h1 : swapsWithSole [.Subscript o i tpos] e pos.line X.env = pure false := by rfl) (h2 : swappedStores [.Subscript o i tpos] e X.env = pure none := by rfl)
    (h3 : (assignEach [.Subscript o i tpos] X.env).map (·.2) = [assign (.Subscript o i tpos) X.env] := by rfl) : wpS X (.Assign [.Subscript o i tpos] e pos :: rest) D σ H := by
  refine wp_cons (ps_asg he (pg_sub ho hi set_list ha) h1 h2 h3) ?_
  refine ⟨G0, H0, hs, fun v G1 H1 g1 o1 q1 => ⟨G1, H0, ⟨G1, g1.self, o1⟩, fun x G2 H2 g2 o2 q2 => ⟨G2, H0, ⟨G2, g2.self, o2⟩, fun y G3 H3 g3 o3 q3 => ?_⟩⟩⟩
  have e1 : x = V.ref a := q2
  have e2 : y = V.int n := q3
  subst e1 e2
  have hm : (a, oL Ps) ∈ Ω := List.mem_of_getElem? hj
  obtain ⟨h0, _, u, h2, vs, rfl, h3⟩ := o3.ow _ hm
  refine ⟨a, vs, n, m, rfl, rfl, h2, by rw [← Paired.length h3]; exact hn, ?_⟩
  exact k _ ⟨G3, ((g1.trans g2).trans g3).put h0, o3.put hj ⟨_, rfl, PV.set (P.mono (g2.g.trans g3.g) q1) m h3⟩⟩
/-- handed over: from now on it stands still -/
theorem Sat.pub (j i : Nat) (hs : Sat G0 H0 Γ Ω σ H) (hj : Ω[j]? = some (a, oL Ps)) (hi : Γ[i]? = some (some (vR a))) : Sat G0 H0 (Γ.set i (some (vL Ps))) (Ω.eraseIdx j) σ H := by
  obtain ⟨G, g, o⟩ := hs
  obtain ⟨h0, h1, u, h2, vs, rfl, h3⟩ := o.ow _ (List.mem_of_getElem? hj)
  have sm : Same G (upd G a (.lst vs)) := fun b v e => by rw [upd_ne (ne_of_none e h1)]; exact e
  obtain ⟨v, hv, ev⟩ := o.im i _ hi
  have ev' : v = V.ref a := ev
  subst ev'
  have nd := o.nd
  have key : ∀ q ∈ Ω.eraseIdx j, q ∈ Ω ∧ q.1 ≠ a := fun q hq => by
    rw [List.mem_eraseIdx_iff_getElem?] at hq
    obtain ⟨i', hi', hq'⟩ := hq
    refine ⟨List.mem_of_getElem? hq', fun e => ?_⟩
    have e1 : (Ω.map (·.1))[i']? = some a := by rw [List.getElem?_map, hq', ← e]; rfl
    have e2 : (Ω.map (·.1))[j]? = some a := by rw [List.getElem?_map, hj]; rfl
    exact hi' ((List.getElem?_inj (lt_of_some e1) nd).mp (e1.trans e2.symm))
  refine ⟨upd G a (.lst vs), ⟨g.g.trans sm, g.h, fun b v e n => ?_⟩, fun b v e => ?_, by rw [List.length_set]; exact o.len, fun m R e => ?_, fun q hq => ?_, ?_⟩
  · rw [upd_ne (ne_of_none e h0)]; exact g.out b v e n
  · by_cases hb : b = a
    · subst hb; rw [upd_same] at e; rw [h2]; exact e
    · rw [upd_ne hb] at e; exact o.gh _ _ e
  · by_cases hm : i = m
    · subst hm
      rw [List.getElem?_set_self (lt_of_some hi)] at e
      cases e
      exact ⟨_, hv, a, vs, rfl, upd_same, PV.mono sm h3⟩
    · rw [List.getElem?_set_ne hm] at e
      obtain ⟨w, h4, h5⟩ := o.im m R e
      exact ⟨w, h4, R.mono sm h5⟩
  · obtain ⟨hq1, hq2⟩ := key q hq
    obtain ⟨x, y, v, h4, h5⟩ := o.ow q hq1
    exact ⟨x, by rw [upd_ne hq2]; exact y, v, h4, q.2.mono sm h5⟩
  · exact List.Nodup.sublist (List.Sublist.map _ (List.eraseIdx_sublist ..)) nd
end
end Ow
namespace Ow
open PySem PySem.Spec PyProof.Rows L2

/-! ### heaps without a thing -/
def rmv (H : Hp) (x : Addr) : Hp := fun b => if b = x then none else H b
theorem rmv_self {H : Hp} {x : Addr} : rmv H x x = none := by unfold rmv; rw [if_pos rfl]
theorem rmv_ne {H : Hp} {x b : Addr} (h : b ≠ x) : rmv H x b = H b := by unfold rmv; rw [if_neg h]
theorem rmv_sub {H : Hp} {x : Addr} : Same (rmv H x) H := fun b o e => by
  by_cases h : b = x
  · subst h; rw [rmv_self] at e; cases e
  · rw [rmv_ne h] at e; exact e

/-! ### publishing, told of heaps -/
theorem GG.step {G0 H0 G1 G' H' : Hp} (gg : GG G0 H0 G1) (st : Step G1 H0 G' H') : Step G0 H0 G' H' := ⟨gg.g.trans st.g, st.h, st.gh, fun b o e n => st.out b o e (gg.out b o e n)⟩
theorem GG.trans {G0 H0 G1 G2 : Hp} (a : GG G0 H0 G1) (b : GG G1 H0 G2) : GG G0 H0 G2 := ⟨a.g.trans b.g, fun x o e n => b.out x o e (a.out x o e n)⟩
section
variable {G0 H0 H : Hp} {Γ : Cn} {Ω : Om} {σ : L2.St} {a : Addr} {R : OP}
theorem nd_erase {Ω : Om} {j : Nat} {a : Addr} {R : OP} (nd : (Ω.map (·.1)).Nodup) (hj : Ω[j]? = some (a, R)) : ∀ q ∈ Ω.eraseIdx j, q ∈ Ω ∧ q.1 ≠ a := fun q hq => by
  rw [List.mem_eraseIdx_iff_getElem?] at hq
  obtain ⟨i', hi', hq'⟩ := hq
  refine ⟨List.mem_of_getElem? hq', fun e => ?_⟩
  have e1 : (Ω.map (·.1))[i']? = some a := by rw [List.getElem?_map, hq', ← e]; rfl
  have e2 : (Ω.map (·.1))[j]? = some a := by rw [List.getElem?_map, hj]; rfl
  exact hi' ((List.getElem?_inj (lt_of_some e1) nd).mp (e1.trans e2.symm))
/-- handed over; what stands there is known from now on -/
theorem Sat.pubG (j : Nat) (hs : Sat G0 H0 Γ Ω σ H) (hj : Ω[j]? = some (a, R)) : ∃ G1 o, GG G0 H0 G1 ∧ G1 a = some o ∧ R.p o G1 ∧ H0 a = none ∧ Sat G1 H0 Γ (Ω.eraseIdx j) σ H := by
  obtain ⟨G, g, o⟩ := hs
  obtain ⟨h0, h1, u, h2, h3⟩ := o.ow _ (List.mem_of_getElem? hj)
  have sm : Same G (upd G a u) := fun b v e => by rw [upd_ne (ne_of_none e h1)]; exact e
  have key := nd_erase o.nd hj
  refine ⟨upd G a u, u, ⟨g.g.trans sm, fun b v e n => ?_⟩, upd_same, R.mono sm h3, h0, upd G a u, ⟨Same.refl _, g.h, fun b v e n => n⟩, ⟨fun b v e => ?_, o.len, fun m R e => ?_, fun q hq => ?_, ?_⟩⟩
  · rw [upd_ne (ne_of_none e h0)]; exact g.out b v e n
  · by_cases hb : b = a
    · subst hb; rw [upd_same] at e; rw [h2]; exact e
    · rw [upd_ne hb] at e; exact o.gh _ _ e
  · obtain ⟨w, h4, h5⟩ := o.im m R e
    exact ⟨w, h4, R.mono sm h5⟩
  · obtain ⟨hq1, hq2⟩ := key q hq
    obtain ⟨x, y, v, h4, h5⟩ := o.ow q hq1
    exact ⟨x, by rw [upd_ne hq2]; exact y, v, h4, q.2.mono sm h5⟩
  · exact List.Nodup.sublist (List.Sublist.map _ (List.eraseIdx_sublist ..)) o.nd
/-- told otherwise, with the heap of the base -/
theorem Sat.toB {P P' : VP} (i : Nat) (s : Sat G0 H0 Γ Ω σ H) (e : Γ[i]? = some (some P)) (w : ∀ v G, Same G0 G → P.p v G → P'.p v G) : Sat G0 H0 (Γ.set i (some P')) Ω σ H := by
  obtain ⟨G, g, o⟩ := s
  refine ⟨G, g, o.gh, by rw [List.length_set]; exact o.len, fun j R e' => ?_, o.ow, o.nd⟩
  by_cases hj : i = j
  · subst hj
    have hl := lt_of_some e'
    rw [List.length_set] at hl
    rw [List.getElem?_set_self hl] at e'
    cases e'
    obtain ⟨v, h1, h2⟩ := o.im i P e
    exact ⟨v, h1, w v G g.g h2⟩
  · rw [List.getElem?_set_ne hj] at e'
    exact o.im j R e'
theorem Sat.toO {R' : OP} (j : Nat) (s : Sat G0 H0 Γ Ω σ H) (hj : Ω[j]? = some (a, R)) (w : ∀ o G, Same G0 G → R.p o G → R'.p o G) : Sat G0 H0 Γ (Ω.set j (a, R')) σ H := by
  obtain ⟨G, g, o⟩ := s
  have hjl := lt_of_some hj
  refine ⟨G, g, o.gh, o.len, o.im, fun q hq => ?_, ?_⟩
  · obtain ⟨i, hi⟩ := List.mem_iff_getElem?.mp hq
    by_cases hij : j = i
    · subst hij
      rw [List.getElem?_set_self hjl] at hi
      cases hi
      obtain ⟨h0, h1, u, h2, h3⟩ := o.ow _ (List.mem_of_getElem? hj)
      exact ⟨h0, h1, u, h2, w u G g.g h3⟩
    · rw [List.getElem?_set_ne hij] at hi
      exact o.ow q (List.mem_of_getElem? hi)
  · have e : (Ω.set j (a, R')).map (·.1) = Ω.map (·.1) := by
      refine List.ext_getElem? fun i => ?_
      rw [List.getElem?_map, List.getElem?_map]
      by_cases hij : j = i
      · subst hij; rw [List.getElem?_set_self hjl, hj]; rfl
      · rw [List.getElem?_set_ne hij]
    rw [e]; exact o.nd
end

/-! ### borrowed: the things of ours read as if they stood still -/
/-- is never changed by what a reading may write -/
def isMut : HO → Bool
  | .tup _ | .frz _ _ => false
  | _ => true
/-- of such a value what is said rests on what never changes -/
def Surv (P : VP) : Prop := ∀ v G G', P.p v G → (∀ b o, G b = some o → isMut o = false → G' b = some o) → P.p v G'
theorem surv_is {u : V} : Surv (vIs u) := fun _ _ _ h _ => h
theorem surv_PV {G G' : Hp} (k : ∀ b o, G b = some o → isMut o = false → G' b = some o) : ∀ {Ps : List VP} {vs : List V}, (∀ P ∈ Ps, Surv P) → PV Ps vs G → PV Ps vs G'
  | _, _, _, .nil => .nil
  | _, _, h, .cons r t => .cons (h _ List.mem_cons_self _ G G' r k) (surv_PV k (fun P hP => h P (List.mem_cons_of_mem _ hP)) t)
theorem surv_T {K : PySem.W.Frag} {Ps : List VP} (h : ∀ P ∈ Ps, Surv P) : Surv (vT K Ps) := fun v G G' ⟨a, vs, e, q, pv⟩ k => by
  refine ⟨a, vs, e, ?_, surv_PV k h pv⟩
  rcases q with (q | ⟨o, q⟩) | q
  · exact .inl (.inl (k _ _ q rfl))
  · exact .inl (.inr ⟨o, k _ _ q rfl⟩)
  · exact .inr q
def glueO (G : Hp) (Ω : Om) (H : Hp) : Hp := fun b => if b ∈ Ω.map (·.1) then H b else G b
section
variable {X : Cx} {Γ Γ' : Cn} {Ω : Om} {e : Expr} {P : VP}
/-- how the slots are told while all of ours stands still -/
def BorrC (Ω : Om) (Γ Γ' : Cn) : Prop := Γ'.length = Γ.length ∧ ∀ G H, (∀ q ∈ Ω, ∃ o, H q.1 = some o ∧ q.2.p o H) → Same G H → ∀ (i : Nat) (P' : VP), Γ'[i]? = some (some P') → ∀ v, (∀ P, Γ[i]? = some (some P) → P.p v G) → P'.p v H ∧ ∃ P, Γ[i]? = some (some P)
theorem borrow_ok {G0 H0 G H : Hp} {σ : L2.St} (hm : ∀ q ∈ Ω, ∀ o G, q.2.p o G → isMut o = true) (g : Grow G0 H0 G H) (o : Ok H0 Γ Ω σ G H) (hb : BorrC Ω Γ Γ') :
    Sat (glueO G Ω H) H Γ' [] σ H ∧ ∀ G1 H1, Grow (glueO G Ω H) H G1 H1 → Same G1 H1 → ∃ G2, Grow G0 H0 G2 H1 ∧ Ok H0 Γ Ω σ G2 H1 ∧ ∀ P : VP, Surv P → ∀ v, P.p v G1 → P.p v G2 := by
  have nG : ∀ b, b ∈ Ω.map (·.1) → G b = none ∧ H0 b = none := fun b hb => by
    obtain ⟨q, hq, e⟩ := List.mem_map.mp hb
    obtain ⟨h0, h1, _⟩ := o.ow q hq
    rw [← e]; exact ⟨h1, h0⟩
  have sG : Same G (glueO G Ω H) := fun b u e => by
    unfold glueO
    by_cases z : b ∈ Ω.map (·.1)
    · rw [(nG b z).1] at e; cases e
    · rw [if_neg z]; exact e
  have sH : Same (glueO G Ω H) H := fun b u e => by
    unfold glueO at e
    by_cases z : b ∈ Ω.map (·.1)
    · rw [if_pos z] at e; exact e
    · rw [if_neg z] at e; exact o.gh _ _ e
  have hΩ : ∀ q ∈ Ω, ∃ u, (glueO G Ω H) q.1 = some u ∧ q.2.p u (glueO G Ω H) := fun q hq => by
    obtain ⟨_, _, u, h2, h3⟩ := o.ow q hq
    refine ⟨u, ?_, q.2.mono sG h3⟩
    unfold glueO
    rw [if_pos (List.mem_map_of_mem hq)]; exact h2
  refine ⟨⟨glueO G Ω H, Grow.refl, sH, o.len.trans hb.1.symm, fun i P' e => ?_, (by intro q hq; cases hq), .nil⟩, fun G1 H1 g1 s1 => ?_⟩
  · by_cases hi : ∃ v, σ[i]? = some (some v)
    · obtain ⟨v, hv⟩ := hi
      refine ⟨v, hv, (hb.2 G _ hΩ sG i P' e v fun P eP => ?_).1⟩
      obtain ⟨v', h1, h2⟩ := o.im i P eP
      rw [hv] at h1
      cases h1
      exact h2
    · exfalso
      obtain ⟨_, P, eP⟩ := hb.2 G _ hΩ sG i P' e .non fun P eP => by
        obtain ⟨v', h1, _⟩ := o.im i P eP
        exact absurd ⟨v', h1⟩ hi
      obtain ⟨v', h1, _⟩ := o.im i P eP
      exact hi ⟨v', h1⟩
  · let G2 : Hp := fun b => if b ∈ Ω.map (·.1) then none else G1 b
    have s21 : Same G2 G1 := fun b u e => by
      by_cases z : b ∈ Ω.map (·.1)
      · have : G2 b = none := if_pos z
        rw [this] at e; cases e
      · have : G2 b = G1 b := if_neg z
        rw [this] at e; exact e
    have s02 : Same G G2 := fun b u e => by
      by_cases z : b ∈ Ω.map (·.1)
      · rw [(nG b z).1] at e; cases e
      · have : G2 b = G1 b := if_neg z
        rw [this]; exact g1.g _ _ (sG _ _ e)
    refine ⟨G2, ⟨g.g.trans s02, g.h.trans g1.h, fun b u e n => ?_⟩, ⟨s21.trans s1, o.len, fun i P e => ?_, fun q hq => ?_, o.nd⟩, fun P sv v pv => sv v G1 G2 pv fun b u e mu => ?_⟩
    · by_cases z : b ∈ Ω.map (·.1)
      · exact if_pos z
      · have e2 : G2 b = G1 b := if_neg z
        rw [e2]
        refine g1.out b u (g.h _ _ e) ?_
        unfold glueO
        rw [if_neg z]
        exact g.out b u e n
    · obtain ⟨v, h1, h2⟩ := o.im i P e
      exact ⟨v, h1, P.mono s02 h2⟩
    · obtain ⟨h0, h1, u, h2, h3⟩ := o.ow q hq
      exact ⟨h0, if_pos (List.mem_map_of_mem hq), u, g1.h _ _ h2, q.2.mono s02 h3⟩
    · by_cases z : b ∈ Ω.map (·.1)
      · exfalso
        obtain ⟨q, hq, eq⟩ := List.mem_map.mp z
        obtain ⟨_, _, u', h2, h3⟩ := o.ow q hq
        have e3 : H1 b = some u' := by rw [← eq]; exact g1.h _ _ h2
        rw [s1 _ _ e] at e3
        cases e3
        have := hm q hq _ _ h3
        rw [mu] at this; cases this
      · have e2 : G2 b = G1 b := if_neg z
        rw [e2]; exact e
theorem eg_borrow (Γ' : Cn) (hb : BorrC Ω Γ Γ') (hm : ∀ q ∈ Ω, ∀ o G, q.2.p o G → isMut o = true) (sv : Surv P) (he : EG X Γ' [] e P) : EG X Γ Ω e P :=
  weak he fun σ H Q ⟨G0, H0, ⟨G, g, o⟩, k⟩ => by
    obtain ⟨s, back⟩ := borrow_ok hm g o hb
    refine ⟨_, H, s, fun v G1 H1 g1 o1 pv => ?_⟩
    obtain ⟨G2, g2, o2, q⟩ := back G1 H1 g1 o1.gh
    exact k v G2 H1 g2 o2 (q P sv v pv)
theorem tg_borrow {b : Bool} (Γ' : Cn) (hb : BorrC Ω Γ Γ') (hm : ∀ q ∈ Ω, ∀ o G, q.2.p o G → isMut o = true) (he : TG X Γ' [] e b) : TG X Γ Ω e b :=
  weakT he fun σ H Q ⟨G0, H0, ⟨G, g, o⟩, k⟩ => by
    obtain ⟨s, back⟩ := borrow_ok hm g o hb
    refine ⟨_, H, s, fun G1 H1 g1 o1 => ?_⟩
    obtain ⟨G2, g2, o2, q⟩ := back G1 H1 g1 o1.gh
    exact k G2 H1 g2 o2
/-- slot by slot -/
theorem borrC_of {Ω : Om} {Γ Γ' : Cn} (hl : Γ'.length = Γ.length) (h : ∀ (i : Nat) (P' : VP), Γ'[i]? = some (some P') → ∃ P, Γ[i]? = some (some P) ∧ ∀ v G H, (∀ q ∈ Ω, ∃ o, H q.1 = some o ∧ q.2.p o H) → Same G H → P.p v G → P'.p v H) : BorrC Ω Γ Γ' :=
  ⟨hl, fun G H hΩ s i P' e v hv => let ⟨P, eP, w⟩ := h i P' e; ⟨w v G H hΩ s (hv P eP), P, eP⟩⟩
/-- the slots, one after the other -/
inductive BC (Ω : Om) : Cn → Cn → Prop
  | nil : BC Ω [] []
  | same {P : Option VP} {Γ Γ' : Cn} : BC Ω Γ Γ' → BC Ω (P :: Γ) (P :: Γ')
  | off {P : Option VP} {Γ Γ' : Cn} : BC Ω Γ Γ' → BC Ω (P :: Γ) (none :: Γ')
  | to {P P' : VP} {Γ Γ' : Cn} : (∀ v G H, (∀ q ∈ Ω, ∃ o, H q.1 = some o ∧ q.2.p o H) → Same G H → P.p v G → P'.p v H) → BC Ω Γ Γ' → BC Ω (some P :: Γ) (some P' :: Γ')
theorem BC.ok {Ω : Om} {Γ Γ' : Cn} (h : BC Ω Γ Γ') : BorrC Ω Γ Γ' := by
  induction h with
  | nil => exact ⟨rfl, fun G H _ _ i P' e => by simp at e⟩
  | same t ih =>
    refine ⟨congrArg (· + 1) ih.1, fun G H hΩ s i P' e v hv => ?_⟩
    cases i with
    | zero =>
      have e' := e
      simp at e'
      subst e'
      exact ⟨P'.mono s (hv P' (by simp)), P', by simp⟩
    | succ i => exact ih.2 G H hΩ s i P' (by simpa using e) v fun P eP => hv P (by simpa using eP)
  | off t ih =>
    refine ⟨congrArg (· + 1) ih.1, fun G H hΩ s i P' e v hv => ?_⟩
    cases i with
    | zero => simp at e
    | succ i => exact ih.2 G H hΩ s i P' (by simpa using e) v fun P eP => hv P (by simpa using eP)
  | to w t ih =>
    refine ⟨congrArg (· + 1) ih.1, fun G H hΩ s i P' e v hv => ?_⟩
    cases i with
    | zero =>
      have e' := e
      simp at e'
      subst e'
      exact ⟨w v G H hΩ s (hv _ rfl), _, rfl⟩
    | succ i => exact ih.2 G H hΩ s i P' (by simpa using e) v fun P eP => hv P (by simpa using eP)
/-- the list of ours at a, read -/
theorem bc_list {Ω : Om} {a : Addr} {Ps : List VP} {Γ Γ' : Cn} (hj : (a, oL Ps) ∈ Ω) (t : BC Ω Γ Γ') : BC Ω (some (vR a) :: Γ) (some (vL Ps) :: Γ') :=
  .to (fun v G H hΩ s e => by
    obtain ⟨o, h1, vs, rfl, h2⟩ := hΩ _ hj
    exact ⟨a, vs, e, h1, h2⟩) t
theorem mut_L {a : Addr} {Ps : List VP} {Ω : Om} (h : ∀ q ∈ Ω, ∀ o G, q.2.p o G → isMut o = true) : ∀ q ∈ (a, oL Ps) :: Ω, ∀ o G, q.2.p o G → isMut o = true := fun q hq o G p => by
  rcases List.mem_cons.mp hq with rfl | hq
  · obtain ⟨vs, rfl, _⟩ := p; rfl
  · exact h q hq o G p
theorem mut_I {a : Addr} {C dx : Addr} {fs : List (Str × VP)} {Ω : Om} (h : ∀ q ∈ Ω, ∀ o G, q.2.p o G → isMut o = true) : ∀ q ∈ (a, oI C dx fs) :: Ω, ∀ o G, q.2.p o G → isMut o = true := fun q hq o G p => by
  rcases List.mem_cons.mp hq with rfl | hq
  · obtain ⟨vs, rfl, _⟩ := p; rfl
  · exact h q hq o G p
theorem mut_nil : ∀ q ∈ ([] : Om), ∀ (o : HO) (G : Hp), q.2.p o G → isMut o = true := by intro q hq; cases hq
end

/-! ### the fields of an instance of ours -/
def putG (f : Str) (P : VP) : List (Str × VP) → List (Str × VP)
  | [] => [(f, P)]
  | (g, x) :: r => if g = f then (g, P) :: r else (g, x) :: putG f P r
theorem putF_zip {f : Str} {P : VP} {v : V} {G : Hp} (hv : P.p v G) : ∀ {fs : List (Str × VP)} {vs : List V}, PV (fs.map Prod.snd) vs G → ∃ ws, putF f v ((fs.map Prod.fst).zip vs) = ((putG f P fs).map Prod.fst).zip ws ∧ PV ((putG f P fs).map Prod.snd) ws G
  | [], _, .nil => ⟨[v], rfl, .cons hv .nil⟩
  | (g, x) :: r, u :: us, pv0 => by
    have q : x.p u G := by cases pv0 with | cons q t => exact q
    have t : PV (r.map Prod.snd) us G := by cases pv0 with | cons q t => exact t
    by_cases h : g = f
    · refine ⟨v :: us, ?_, ?_⟩
      rotate_left
      · show PV ((if g = f then (g, P) :: r else (g, x) :: putG f P r).map Prod.snd) _ G
        rw [if_pos h]
        exact .cons hv t
      · show (if g = f then _ else _) = ((if g = f then (g, P) :: r else (g, x) :: putG f P r).map Prod.fst).zip _
        rw [if_pos h, if_pos h]
        rfl
    · obtain ⟨ws, e, pv⟩ := putF_zip (f := f) hv t
      refine ⟨u :: ws, ?_, ?_⟩
      rotate_left
      · show PV ((if g = f then (g, P) :: r else (g, x) :: putG f P r).map Prod.snd) _ G
        rw [if_neg h]
        exact .cons q pv
      · show (if g = f then _ else (g, u) :: putF f v ((r.map Prod.fst).zip _)) = ((if g = f then (g, P) :: r else (g, x) :: putG f P r).map Prod.fst).zip _
        rw [if_neg h, if_neg h, e]
        rfl
section
variable {X : Cx} {G0 H0 H : Hp} {Γ : Cn} {Ω : Om} {σ : L2.St} {D : Ends} {rest : List Stmt} {e o : Expr} {P : VP} {pos pos' : Pos} {a C dx : Addr} {f : Str} {fs : List (Str × VP)}
/-- self.f = e -/
theorem s_fld (hs : Sat G0 H0 Γ Ω σ H) (j : Nat) (hj : Ω[j]? = some (a, oI C dx fs)) (he : EG X Γ Ω e P) (ho : EG X Γ Ω o (vR a)) (c : Cls X.K C) (n : NoAttr X.K C f) (hl : fs.length < 1000) (k : ∀ H', Sat G0 H0 Γ (Ω.set j (a, oI C dx (putG f P fs))) σ H' → wpS X rest D σ H')
    (hw : swapsWith e (some (.Attribute o f pos')) pos.line X.env = pure false := by rfl) : wpS X (.Assign [.Attribute o f pos'] e pos :: rest) D σ H := by
  refine wp_cons (ps_fld ho he hw) ⟨G0, H0, hs, fun v G1 H1 g1 o1 q1 => ⟨G1, H0, ⟨G1, g1.self, o1⟩, fun x G2 H2 g2 o2 q2 => ?_⟩⟩
  have e1 : x = V.ref a := q2
  subst e1
  obtain ⟨h0, _, u, h2, vs, rfl, h3⟩ := o2.ow _ (List.mem_of_getElem? hj)
  obtain ⟨ws, e5, pv⟩ := putF_zip (f := f) (P.mono g2.g q1) h3
  refine ⟨a, C, dx, _, rfl, h2, c, n, ?_, ?_⟩
  · rw [List.length_zip, List.length_map]; omega
  · rw [e5]
    exact k _ ⟨G2, (g1.trans g2).put h0, o2.put hj ⟨ws, rfl, pv⟩⟩
/-- self.f -/
theorem eg_own (j : Nat) (hj : Ω[j]? = some (a, oI C dx fs)) (ho : EG X Γ Ω o (vR a)) (c : Cls X.K C) (n : NoAttr X.K C f) (hl : fs.lookup f = some P) (hb : attributeBase o f X.env (eval o X.env) = eval o X.env := by rfl) : EG X Γ Ω (.Attribute o f pos) P :=
  weak (pe_fld ho hb) fun σ H Q ⟨G0, H0, s, k⟩ => ⟨G0, H0, s, fun v G H' g o q => by
    have e1 : v = V.ref a := q
    subst e1
    obtain ⟨_, _, u, h2, vs, rfl, h3⟩ := o.ow _ (List.mem_of_getElem? hj)
    obtain ⟨w, h4, h5⟩ := lookup_zip h3 hl
    exact ⟨a, C, dx, _, w, rfl, h2, c, n, h4, k w G H' g o h5⟩⟩
end

/-! ### making an instance -/
def PiS {α : Type} (C : Addr) (φ : α → Prop) (A : α → List VP) (fs : α → List (Str × VP)) : Sp := fun vs H Q E => ∃ y x dx us G, φ y ∧ vs = .ref x :: us ∧ Same G H ∧ G x = none ∧ H x = some (.ins C dx []) ∧ PV (A y) us G ∧
  ∀ ws G' H', Grow G (rmv H x) G' H' → Same G' H' → G' x = none → H' x = some (.ins C dx (((fs y).map Prod.fst).zip ws)) → PV ((fs y).map Prod.snd) ws G' → Q .non H'
section
variable {P : Program} {w : World} {K : PySem.W.Frag} {mg : Str → Option Value} {base : Heap} {x qual : Str} {params : Arguments} {body : List Stmt} {scope : Scope} {dvs : List V} {kws : List (Str × V)} {f : Addr} {fd : FuncData} {N ps : List Str} {k : Nat} {α : Type} {φ : α → Prop} {A : α → List VP} {fs : α → List (Str × VP)} {C : Addr}
theorem fn_pi (F : FunD K x qual params body scope dvs kws f fd) (S : FnScope N ps scope) (hl : ∀ y, φ y → (A y).length + 1 = ps.length)
    (hb : ∀ (cdv : Value) (Ar : Around) (outer : List Env) (s : Shared) (H0 H : Hp) (E : XK) (y : α) (G : Hp) (D : L2.St → Hp → Prop) (σ : L2.St) (a dx : Addr), Room k (Ar.deeper (envOfC qual scope s.heap.objs.size f cdv)) → φ y → Sat G H0 (stC N (vR a :: A y)) [(a, oI C dx [])] σ H →
      (∀ Γ' σ' H', Sat G H0 Γ' [(a, oI C dx (fs y))] σ' H' → D σ' H') → ∀ rt, wpS (bodyX P w K mg base N qual scope f cdv Ar outer s H E) body { nx := D, rt := rt } σ H) : FnOk P w K mg base CX0 (k + 1) f fd ps (PiS C φ A fs) := by
  refine F.ok S (fun vs H Q E h => ?_) (fun cdv Ar outer s H vs Q E hr h => ⟨_, PSs.nox pss_wp, ?_⟩)
  · obtain ⟨y, x, dx, us, G, hy, rfl, _, _, _, q, _⟩ := h
    rw [List.length_cons, ← Paired.length q]; exact hl y hy
  · obtain ⟨y, x, dx, us, G, hy, rfl, sm, hGx, hHx, q, kk⟩ := h
    have s1 : Same G (rmv H x) := fun b o e => by
      rw [rmv_ne (ne_of_none e hGx)]; exact sm _ _ e
    refine hb cdv Ar outer s (rmv H x) H E y G _ _ x dx hr hy ⟨G, ⟨Same.refl _, rmv_sub, fun _ _ _ n => n⟩, ?_⟩ ?_ _
    · have o := start_ok (N := N) (A := vR x :: A y) (vs := .ref x :: us) (H0 := rmv H x) sm (.cons rfl q)
      refine ⟨o.gh, o.len, o.im, fun r hr => ?_, by simp⟩
      have e := List.mem_singleton.mp hr
      subst e
      exact ⟨rmv_self, hGx, _, hHx, [], rfl, .nil⟩
    · rintro Γ' σ' H' ⟨G', g, o⟩
      obtain ⟨h0, h1, u, h2, vs, rfl, h3⟩ := o.ow _ List.mem_cons_self
      exact kk vs G' H' g o.gh h1 h2 h3
/-- C(..) with the defaults dvs behind -/
structure FI (P : Program) (w : World) (K : PySem.W.Frag) (mg : Str → Option Value) (base : Heap) (k : Nat) (C : Addr) (x : Str) (dvs : List V) {α : Type} (φ : α → Prop) (A : α → List VP) (fs : α → List (Str × VP)) : Prop where
  ex : ∃ f fd ps ds, FnOk P w K mg base CX0 k f fd ps (PiS C φ A fs) ∧ mg x = some (.ref C) ∧ Mk K C f ∧ Binds K fd ps ds ∧ Vals dvs ds
end
section
variable {X : Cx} {Γ : Cn} {Ω : Om} {pos p : Pos} {e : Expr} {es : List Expr} {As : List VP} {x : Str} {k j : Nat} {α : Type} {φ : α → Prop} {A : α → List VP} {fs : α → List (Str × VP)} {C : Addr} {dvs : List V} {ds : List VP}
/-- the new instance, handed out -/
theorem make_out {G0 H0 G1 H1 : Hp} {σ : L2.St} {Q : VK} {vs : List V} {y : α} (g1 : Grow G0 H0 G1 H1) (o1 : Ok H0 Γ Ω σ G1 H1) (hy : φ y) (q1 : PV (A y) vs G1) (k : ∀ v G H', Grow G0 H0 G H' → Ok H0 Γ Ω σ G H' → (vO C (fs y)).p v G → Q v H')
    {a dx : Addr} (ha : H1 a = none) (hdx : H1 dx = none) (hne : dx ≠ a) {E : XK} : PiS C φ A fs (.ref a :: vs) (upd (upd H1 dx (.own a)) a (.ins C dx [])) (fun v H2 => v = .non ∧ Q (.ref a) H2) E := by
  have sH : Same H1 (rmv (upd (upd H1 dx (.own a)) a (.ins C dx [])) a) := fun b u e => by
    have hb : b ≠ a := ne_of_none e ha
    rw [rmv_ne hb, upd_ne hb, upd_ne (ne_of_none e hdx)]; exact e
  have sG : Same G1 (upd (upd H1 dx (.own a)) a (.ins C dx [])) := o1.gh.trans (sH.trans rmv_sub)
  refine ⟨y, a, dx, vs, G1, hy, rfl, sG, o1.gh.free ha, upd_same, q1, fun ws G' H' g s' hx hx' pv => ⟨rfl, ?_⟩⟩
  have sm : Same G' (upd G' a (.ins C dx (((fs y).map Prod.fst).zip ws))) := fun b u e => by rw [upd_ne (ne_of_none e hx)]; exact e
  have st : Step G1 H1 (upd G' a (.ins C dx (((fs y).map Prod.fst).zip ws))) H' := by
    refine ⟨g.g.trans sm, sH.trans g.h, fun b u e => ?_, fun b u e n => ?_⟩
    · by_cases hb : b = a
      · subst hb; rw [upd_same] at e; rw [hx']; exact e
      · rw [upd_ne hb] at e; exact s' _ _ e
    · rw [upd_ne (ne_of_none e ha)]
      exact g.out b u (sH _ _ e) n
  exact k _ _ H' (g1.step st) (o1.step st) ⟨a, dx, ws, rfl, upd_same, PV.mono sm pv⟩
theorem eg_make (F : FI X.prog X.w X.K X.mg X.base j C x dvs φ A fs) (hr : Room k X.A) (hk : j + 1 ≤ k) (y : α) (hy : φ y) (hA : A y = As ++ ds) (hd : ∀ G, PV ds dvs G) (ha : AG X Γ Ω (e :: es) As) (hg : Gl X x := by rfl)
    (hdb : (x == ("__debug__" : Str)) = false := by decide) (he : starEach (e :: es) X.env = (false, eval e X.env) :: starEach es X.env := by rfl) (hpl : (backTo pos (starEach es X.env)).any (·.1) = false := by rfl) : EG X Γ Ω (.Call (.Name x p) (e :: es) [] pos) (vO C (fs y)) := by
  obtain ⟨f, fd, ps, dv, ok, hm, mk, hb, rd⟩ := F.ex
  refine weak (pe_make (E := E0) mk ok (hr.mono hk) hg hm hb rd pass0 ha hdb he hpl) fun σ H Q ⟨G0, H0, s, k⟩ => ⟨G0, H0, s, fun vs G1 H1 g1 o1 q1 a dx h1 h2 h3 => ?_⟩
  exact make_out g1 o1 hy (by rw [hA]; exact q1.append (hd _)) k h1 h2 h3
theorem eg_make0 (F : FI X.prog X.w X.K X.mg X.base j C x dvs φ A fs) (hr : Room k X.A) (hk : j + 1 ≤ k) (y : α) (hy : φ y) (hd : ∀ G, PV (A y) dvs G) (hg : Gl X x := by rfl)
    (hdb : (x == ("__debug__" : Str)) = false := by decide) : EG X Γ Ω (.Call (.Name x p) [] [] pos) (vO C (fs y)) := by
  obtain ⟨f, fd, ps, dv, ok, hm, mk, hb, rd⟩ := F.ex
  refine weak (pe_make0 (E := E0) mk ok (hr.mono hk) hg hm hb rd pass0 hdb) fun σ H Q ⟨G0, H0, ⟨G, g, o⟩, k⟩ => fun a dx h1 h2 h3 => ?_
  exact make_out (vs := dvs) g o hy (hd _) k h1 h2 h3
end
end Ow
namespace Ow
open PySem PySem.Spec PyProof.Rows L2

/-! ### dicts, plain -/
section
variable {κ : Type} [DecidableEq κ] {β : Type}
def dG (d : List (κ × β)) (k : κ) : Option β := (d.find? fun q => decide (q.1 = k)).map (·.2)
def dP (d : List (κ × β)) (k : κ) (x : β) : List (κ × β) := if (d.any fun q => decide (q.1 = k)) = true then d.map (fun q => if q.1 = k then (q.1, x) else q) else d ++ [(k, x)]
abbrev PD (F : β → VP) (d : List (κ × β)) (us : List (κ × V)) (G : Hp) : Prop := Paired (fun (q : κ × β) (u : κ × V) => q.1 = u.1 ∧ (F q.2).p u.2 G) d us
theorem PD.mono {F : β → VP} {d : List (κ × β)} {us : List (κ × V)} {G G' : Hp} (s : Same G G') (h : PD F d us G) : PD F d us G' := Paired.mapP h fun q u ⟨e, p⟩ => ⟨e, (F q.2).mono s p⟩
theorem PD.get {F : β → VP} {k : κ} {G : Hp} : ∀ {d : List (κ × β)} {us : List (κ × V)}, PD F d us G → (∀ x, dG d k = some x → ∃ v, valV us k = some v ∧ (F x).p v G) ∧ (dG d k = none → valV us k = none)
  | [], us, h => by
    cases h
    exact ⟨fun x e => (by cases e), fun _ => rfl⟩
  | q :: d, us, h => by
    obtain ⟨u, us', rfl, ⟨e, p⟩, t⟩ : ∃ u us', us = u :: us' ∧ (q.1 = u.1 ∧ (F q.2).p u.2 G) ∧ PD F d us' G := by
      cases h with | cons r t => exact ⟨_, _, rfl, r, t⟩
    have ih := PD.get (k := k) t
    by_cases h : q.1 = k
    · have h' : u.1 = k := e ▸ h
      refine ⟨fun x ex => ?_, fun ex => ?_⟩
      · have : dG (q :: d) k = some q.2 := by simp [dG, h]
        rw [this] at ex
        cases ex
        exact ⟨u.2, valV_pos h', p⟩
      · have : dG (q :: d) k = some q.2 := by simp [dG, h]
        rw [this] at ex; cases ex
    · have h' : ¬ u.1 = k := fun z => h (e.trans z)
      have e1 : ∀ l, dG (q :: l) k = dG l k := fun l => by simp [dG, h]
      rw [e1, valV_neg h']
      exact ih
theorem PD.any {F : β → VP} {k : κ} {G : Hp} : ∀ {d : List (κ × β)} {us : List (κ × V)}, PD F d us G → (d.any fun q => decide (q.1 = k)) = us.any fun u => decide (u.1 = k)
  | _, _, .nil => rfl
  | _, _, .cons r t => by
    obtain ⟨e, _⟩ := r
    rw [List.any_cons, List.any_cons, PD.any t, e]
theorem PD.put {F : β → VP} {k : κ} {x : β} {v : V} {G : Hp} {d : List (κ × β)} {us : List (κ × V)} (h : PD F d us G) (hv : (F x).p v G) : PD F (dP d k x) (putK us k v) G := by
  unfold dP putK
  rw [h.any (k := k)]
  by_cases hb : (us.any fun u => decide (u.1 = k)) = true
  · rw [if_pos hb, if_pos hb]
    clear hb
    induction h with
    | nil => exact .nil
    | @cons q u _ _ r t ih =>
      obtain ⟨e, p⟩ := r
      refine .cons ?_ ih
      by_cases hk : q.1 = k
      · have hk' : u.1 = k := e ▸ hk
        show (if q.1 = k then (q.1, x) else q).1 = (if u.1 = k then (u.1, v) else u).1 ∧ (F (if q.1 = k then (q.1, x) else q).2).p (if u.1 = k then (u.1, v) else u).2 G
        rw [if_pos hk, if_pos hk']; exact ⟨e, hv⟩
      · have hk' : ¬ u.1 = k := fun z => hk (e.trans z)
        show (if q.1 = k then (q.1, x) else q).1 = (if u.1 = k then (u.1, v) else u).1 ∧ (F (if q.1 = k then (q.1, x) else q).2).p (if u.1 = k then (u.1, v) else u).2 G
        rw [if_neg hk, if_neg hk']; exact ⟨e, p⟩
  · rw [if_neg hb, if_neg hb]
    clear hb
    induction h with
    | nil => exact .cons ⟨rfl, hv⟩ .nil
    | cons r t ih => exact .cons r ih
theorem dG_put_same {d : List (κ × β)} {k : κ} {x : β} : dG (dP d k x) k = some x := by
  unfold dP
  by_cases hb : (d.any fun q => decide (q.1 = k)) = true
  · rw [if_pos hb]
    induction d with
    | nil => cases hb
    | cons q d ih =>
      rw [List.map_cons]
      by_cases h : q.1 = k
      · simp [dG, h]
      · have hb' : (d.any fun q => decide (q.1 = k)) = true := by
          rw [List.any_cons, decide_eq_false h, Bool.false_or] at hb; exact hb
        have : dG ((if q.1 = k then (q.1, x) else q) :: d.map fun q => if q.1 = k then (q.1, x) else q) k = dG (d.map fun q => if q.1 = k then (q.1, x) else q) k := by
          simp [dG, h]
        rw [this]; exact ih hb'
  · rw [if_neg hb]
    induction d with
    | nil => simp [dG]
    | cons q d ih =>
      have hb2 : ¬ (d.any fun q => decide (q.1 = k)) = true := fun z => hb (by rw [List.any_cons, z, Bool.or_true])
      have h : ¬ q.1 = k := fun z => hb (by rw [List.any_cons, decide_eq_true z, Bool.true_or])
      have : dG (q :: d ++ [(k, x)]) k = dG (d ++ [(k, x)]) k := by simp [dG, h]
      rw [this]; exact ih hb2
theorem dG_put_ne {d : List (κ × β)} {k j : κ} {x : β} (h : j ≠ k) : dG (dP d k x) j = dG d j := by
  unfold dP
  by_cases hb : (d.any fun q => decide (q.1 = k)) = true
  · rw [if_pos hb]
    clear hb
    induction d with
    | nil => rfl
    | cons q d ih =>
      rw [List.map_cons]
      by_cases hq : q.1 = k
      · have hj : ¬ q.1 = j := fun z => h (z.symm.trans hq)
        have e1 : dG ((if q.1 = k then (q.1, x) else q) :: d.map fun q => if q.1 = k then (q.1, x) else q) j = dG (d.map fun q => if q.1 = k then (q.1, x) else q) j := by
          rw [if_pos hq]; simp [dG, hj]
        have e2 : dG (q :: d) j = dG d j := by simp [dG, hj]
        rw [e1, e2]; exact ih
      · rw [if_neg hq]
        by_cases hj : q.1 = j
        · simp [dG, hj]
        · have e1 : ∀ l, dG (q :: l) j = dG l j := fun l => by simp [dG, hj]
          rw [e1, e1]; exact ih
  · rw [if_neg hb]
    clear hb
    induction d with
    | nil => simp [dG, Ne.symm h]
    | cons q d ih =>
      by_cases hj : q.1 = j
      · simp [dG, hj]
      · have e1 : ∀ l, dG (q :: l) j = dG l j := fun l => by simp [dG, hj]
        rw [List.cons_append, e1, e1]; exact ih
theorem dP_len {d : List (κ × β)} {k : κ} {x : β} : (dP d k x).length ≤ d.length + 1 := by
  unfold dP
  split
  · rw [List.length_map]; omega
  · rw [List.length_append]; exact Nat.le_refl _
end

/-! ### dicts as values, dicts of ours -/
section
variable {β : Type}
def vDK (F : β → VP) (d : List (Key × β)) : VP := ⟨fun v H => ∃ a us, v = .ref a ∧ H a = some (.dK us) ∧ PD F d us H, fun s ⟨a, us, e, h, q⟩ => ⟨a, us, e, s _ _ h, q.mono s⟩⟩
def vDT (F : β → VP) (d : List (List Key × β)) : VP := ⟨fun v H => ∃ a us, v = .ref a ∧ H a = some (.dT us) ∧ PD F d us H, fun s ⟨a, us, e, h, q⟩ => ⟨a, us, e, s _ _ h, q.mono s⟩⟩
def oDK (F : β → VP) (d : List (Key × β)) : OP := ⟨fun o G => ∃ us, o = .dK us ∧ PD F d us G, fun s ⟨us, e, q⟩ => ⟨us, e, q.mono s⟩⟩
def oDT (F : β → VP) (d : List (List Key × β)) : OP := ⟨fun o G => ∃ us, o = .dT us ∧ PD F d us G, fun s ⟨us, e, q⟩ => ⟨us, e, q.mono s⟩⟩
/-- a tuple that was laid here, of keys -/
def vKT (k : List Key) : VP := ⟨fun v H => ∃ b, v = .ref b ∧ H b = some (.tup (k.map kV)), fun s ⟨b, e, h⟩ => ⟨b, e, s _ _ h⟩⟩
/-- a tuple that was laid here -/
def vX (Ps : List VP) : VP := ⟨fun v H => ∃ b vs, v = .ref b ∧ H b = some (.tup vs) ∧ PV Ps vs H, fun s ⟨b, vs, e, h, q⟩ => ⟨b, vs, e, s _ _ h, q.mono s⟩⟩
theorem vX_T {K : PySem.W.Frag} {Ps : List VP} {v : V} {G : Hp} (h : (vX Ps).p v G) : (vT K Ps).p v G := let ⟨b, vs, e, h, q⟩ := h; ⟨b, vs, e, SqT.of h, q⟩
theorem PV.keys {H : Hp} : ∀ {k : List Key} {vs : List V}, PV (k.map fun x => vIs (kV x)) vs H → vs = k.map kV
  | [], _, .nil => rfl
  | n :: ns, _, .cons r t => by
    have e : _ = kV n := r
    rw [e, PV.keys t]; rfl
theorem vX_KT {k : List Key} {v : V} {G : Hp} (h : (vX (k.map fun x => vIs (kV x))).p v G) : (vKT k).p v G := by
  obtain ⟨b, vs, e, h, q⟩ := h
  rw [PV.keys q] at h
  exact ⟨b, e, h⟩
theorem vKT_X {k : List Key} {v : V} {G : Hp} (h : (vKT k).p v G) : (vX (k.map fun x => vIs (kV x))).p v G := by
  obtain ⟨b, e, h⟩ := h
  refine ⟨b, _, e, h, ?_⟩
  have : (k.map fun x => vIs (kV x)) = (k.map kV).map vIs := by rw [List.map_map]; rfl
  rw [this]
  exact PV.of_is _
variable {X : Cx} {Γ : Cn} {Ω : Om} {pos apos cpos : Pos} {a o i e f : Expr} {es : List Expr} {P P' Pz : VP} {Ps : List VP} {F : β → VP} {b : Addr} {k : Nat}
theorem eg_tupX {x1} (h : AG X Γ Ω es Ps) (hl : Ps.length ≤ sizeLine := by exact Nat.le_trans (Nat.le_of_ble_eq_true (rfl : Nat.ble _ 30 = true)) small30) : EG X Γ Ω (.Tuple es x1 pos) (vX Ps) :=
  weak (pe_tup h) fun σ H Q ⟨G0, H0, s, k⟩ => ⟨G0, H0, s, fun vs G1 H1 g1 o1 q1 => ⟨by rw [← Paired.length q1]; exact hl, fun p hp =>
    have st := Step.new (o := .tup vs) o1.gh hp
    k _ _ _ (g1.step st) (o1.step st) ⟨p, vs, rfl, upd_same, q1.mono st.g⟩⟩⟩
theorem hu_of {k : Nat} {A : Around} (hr : Room k A) : A.units + 1 < cLine := by have := hr.units; omega
/-- what is asked of a dict at a key, and what comes -/
inductive DAsk : VP → VP → (β → VP) → Option β → Prop
  | k {F : β → VP} {d : List (Key × β)} {q : Key} : DAsk (vDK F d) (vIs (kV q)) F (dG d q)
  | t {F : β → VP} {d : List (List Key × β)} {q : List Key} : DAsk (vDT F d) (vKT q) F (dG d q)
theorem DAsk.get {Pd Pk : VP} {F : β → VP} {r : Option β} (h : DAsk Pd Pk F r) {x y : V} {G H : Hp} (s : Same G H) (hx : Pd.p x G) (hy : Pk.p y G) : ∃ a ov, x = .ref a ∧ IsD H a ∧ DGet H a y ov ∧ (∀ z, r = some z → ∃ v, ov = some v ∧ (F z).p v G) ∧ (r = none → ov = none) := by
  cases h with
  | k =>
    obtain ⟨a, us, e, ha, pd⟩ := hx
    have ey : y = kV _ := hy
    subst e ey
    exact ⟨a, _, rfl, .inl ⟨us, .inl (s _ _ ha)⟩, DGet.k (s _ _ ha), pd.get.1, pd.get.2⟩
  | t =>
    obtain ⟨a, us, e, ha, pd⟩ := hx
    obtain ⟨b, e2, hb⟩ := hy
    subst e e2
    exact ⟨a, _, rfl, .inr ⟨us, .inl (s _ _ ha)⟩, DGet.t (s _ _ ha) (s _ _ hb), pd.get.1, pd.get.2⟩
/-- d[i] -/
theorem eg_dget {Pd Pk : VP} {x : β} (hr : Room k X.A) (hd : DAsk Pd Pk F (some x)) (ho : EG X Γ Ω o Pd) (hi : EG X Γ Ω i Pk) (hs : NoSl i := by exact fun _ _ => rfl) : EG X Γ Ω (.Subscript o i pos) (F x) :=
  weak (pe_dget (hu_of hr) ho hi hs) fun σ H Q ⟨G0, H0, s, k⟩ => ⟨G0, H0, s, fun v G1 H1 g1 o1 q1 => ⟨G1, H0, ⟨G1, g1.self, o1⟩, fun y G2 H2 g2 o2 q2 => by
    obtain ⟨a, ov, e, _, g, h1, _⟩ := hd.get o2.gh (Pd.mono g2.g q1) q2
    obtain ⟨w, rfl, hw⟩ := h1 x rfl
    exact ⟨a, w, e, g, k w G2 H2 (g1.trans g2) o2 hw⟩⟩⟩
/-- d.get(i, f) -/
theorem eg_dget2 {Pd Pk : VP} {r : Option β} (hr : Room k X.A) (hd : DAsk Pd Pk F r) (ho : EG X Γ Ω o Pd) (he : EG X Γ Ω e Pk) (hf : EG X Γ Ω f Pz) (h1 : ∀ x, r = some x → ∀ v G, (F x).p v G → P'.p v G) (h2 : r = none → ∀ v G, Pz.p v G → P'.p v G) (m : M2 X o "get" apos e f cpos := by exact ⟨rfl, rfl, rfl, rfl⟩) : EG X Γ Ω (.Call (.Attribute o "get" apos) [e, f] [] cpos) P' :=
  weak (pe_dget2 (hu_of hr) ho he hf m) fun σ H Q ⟨G0, H0, s, k⟩ => ⟨G0, H0, s, fun v G1 H1 g1 o1 q1 => by
    have isd : ∃ a, v = .ref a ∧ IsD H1 a := by
      clear h1 h2
      cases hd with
      | k => obtain ⟨a, us, e, ha, _⟩ := q1; exact ⟨a, e, .inl ⟨us, .inl (o1.gh _ _ ha)⟩⟩
      | t => obtain ⟨a, us, e, ha, _⟩ := q1; exact ⟨a, e, .inr ⟨us, .inl (o1.gh _ _ ha)⟩⟩
    obtain ⟨a, e, isd⟩ := isd
    refine ⟨a, e, isd, G1, H0, ⟨G1, g1.self, o1⟩, fun y G2 H2 g2 o2 q2 => ⟨G2, H0, ⟨G2, g2.self, o2⟩, fun z G3 H3 g3 o3 q3 => ?_⟩⟩
    obtain ⟨a', ov, e', _, g, k1, k2⟩ := hd.get o3.gh (Pd.mono (g2.g.trans g3.g) q1) (Pk.mono g3.g q2)
    rw [e] at e'
    cases e'
    refine ⟨ov, g, k _ G3 H3 ((g1.trans g2).trans g3) o3 ?_⟩
    cases er : r with
    | some x =>
      obtain ⟨w, ew, hw⟩ := k1 x er
      rw [ew]; exact h1 x er _ _ hw
    | none =>
      rw [k2 er]; exact h2 er _ _ q3⟩
/-- d.get(i) -/
theorem eg_dget1 {Pd Pk : VP} {r : Option β} (hr : Room k X.A) (hd : DAsk Pd Pk F r) (ho : EG X Γ Ω o Pd) (he : EG X Γ Ω e Pk) (h1 : ∀ x, r = some x → ∀ v G, (F x).p v G → P'.p v G) (h2 : r = none → ∀ G, P'.p .non G) (m : M1 X o "get" apos e cpos := by exact ⟨rfl, rfl, rfl, rfl⟩) : EG X Γ Ω (.Call (.Attribute o "get" apos) [e] [] cpos) P' :=
  weak (pe_dget1 (hu_of hr) ho he m) fun σ H Q ⟨G0, H0, s, k⟩ => ⟨G0, H0, s, fun v G1 H1 g1 o1 q1 => by
    have isd : ∃ a, v = .ref a ∧ IsD H1 a := by
      clear h1 h2
      cases hd with
      | k => obtain ⟨a, us, e, ha, _⟩ := q1; exact ⟨a, e, .inl ⟨us, .inl (o1.gh _ _ ha)⟩⟩
      | t => obtain ⟨a, us, e, ha, _⟩ := q1; exact ⟨a, e, .inr ⟨us, .inl (o1.gh _ _ ha)⟩⟩
    obtain ⟨a, e, isd⟩ := isd
    refine ⟨a, e, isd, G1, H0, ⟨G1, g1.self, o1⟩, fun y G2 H2 g2 o2 q2 => ?_⟩
    obtain ⟨a', ov, e', _, g, k1, k2⟩ := hd.get o2.gh (Pd.mono g2.g q1) q2
    rw [e] at e'
    cases e'
    refine ⟨ov, g, k _ G2 H2 (g1.trans g2) o2 ?_⟩
    cases er : r with
    | some x =>
      obtain ⟨w, ew, hw⟩ := k1 x er
      rw [ew]; exact h1 x er _ _ hw
    | none =>
      rw [k2 er]; exact h2 er _⟩
/-- {} -/
theorem ng_dK : NG X Γ Ω (.Dict [] [] pos) (oDK F []) := weak pe_dnewK fun σ H Q ⟨G0, H0, ⟨G, g, o⟩, k⟩ => fun p hp => k p G _ (g.new hp) (o.new g.h hp ⟨[], rfl, .nil⟩)
theorem ng_dT : NG X Γ Ω (.Dict [] [] pos) (oDT F []) := weak pe_dnewT fun σ H Q ⟨G0, H0, ⟨G, g, o⟩, k⟩ => fun p hp => k p G _ (g.new hp) (o.new g.h hp ⟨[], rfl, .nil⟩)
/-- what is put into a dict of ours, and what it is then -/
inductive DPuts (F : β → VP) (x : β) : OP → VP → OP → Prop
  | k {d : List (Key × β)} {q : Key} : d.length < sizeLine → DPuts F x (oDK F d) (vIs (kV q)) (oDK F (dP d q x))
  | t {d : List (List Key × β)} {q : List Key} : d.length < sizeLine → DPuts F x (oDT F d) (vKT q) (oDT F (dP d q x))
theorem DPuts.put {R R' : OP} {Pk : VP} {x : β} (h : DPuts F x R Pk R') {u : HO} {v y : V} {G H : Hp} {a : Addr} (s : Same G H) (hu : R.p u G) (hy : Pk.p y G) (hv : (F x).p v G) (ha : H a = some u) : ∃ u', DPut H a y v (upd H a u') ∧ R'.p u' G := by
  cases h with
  | k hl =>
    obtain ⟨us, rfl, pd⟩ := hu
    have ey : y = kV _ := hy
    subst ey
    exact ⟨_, DPut.k ha (by rw [← Paired.length pd]; exact hl), _, rfl, pd.put hv⟩
  | t hl =>
    obtain ⟨us, rfl, pd⟩ := hu
    obtain ⟨b, e, hb⟩ := hy
    subst e
    exact ⟨_, DPut.t ha (s _ _ hb) (by rw [← Paired.length pd]; exact hl), _, rfl, pd.put hv⟩
section
variable {G0 H0 H : Hp} {σ : L2.St} {D : Ends} {rest : List Stmt} {R R' : OP} {Pk : VP} {pos' : Pos}
/-- o[i] = e -/
theorem s_dput {x : β} (hr : Room k X.A) (hs : Sat G0 H0 Γ Ω σ H) (j : Nat) (hj : Ω[j]? = some (b, R)) (hp : DPuts F x R Pk R') (he : EG X Γ Ω e (F x)) (ho : EG X Γ Ω o (vR b)) (hi : EG X Γ Ω i Pk) (kk : ∀ H', Sat G0 H0 Γ (Ω.set j (b, R')) σ H' → wpS X rest D σ H')
    (hw : swapsWith e (some (.Subscript o i pos')) pos.line X.env = pure false := by rfl) : wpS X (.Assign [.Subscript o i pos'] e pos :: rest) D σ H := by
  refine wp_cons (ps_dput (hu_of hr) ho hi he hw) ⟨G0, H0, hs, fun v G1 H1 g1 o1 q1 => ⟨G1, H0, ⟨G1, g1.self, o1⟩, fun x' G2 H2 g2 o2 q2 => ⟨G2, H0, ⟨G2, g2.self, o2⟩, fun y G3 H3 g3 o3 q3 => ?_⟩⟩⟩
  have e1 : x' = V.ref b := q2
  subst e1
  obtain ⟨h0, _, u, h2, h3⟩ := o3.ow _ (List.mem_of_getElem? hj)
  obtain ⟨u', hd, hr'⟩ := hp.put o3.gh h3 q3 ((F x).mono (g2.g.trans g3.g) q1) h2
  exact ⟨b, _, rfl, hd, kk _ ⟨G3, ((g1.trans g2).trans g3).put h0, o3.put hj hr'⟩⟩
end
/-- d[i] of a dict of ours -/
inductive DAskO : OP → VP → (β → VP) → Option β → Prop
  | k {F : β → VP} {d : List (Key × β)} {q : Key} : DAskO (oDK F d) (vIs (kV q)) F (dG d q)
  | t {F : β → VP} {d : List (List Key × β)} {q : List Key} : DAskO (oDT F d) (vKT q) F (dG d q)
theorem eg_dgetO {R : OP} {Pk : VP} {x : β} (hr : Room k X.A) (j : Nat) (hj : Ω[j]? = some (b, R)) (hd : DAskO R Pk F (some x)) (ho : EG X Γ Ω o (vR b)) (hi : EG X Γ Ω i Pk) (hs : NoSl i := by exact fun _ _ => rfl) : EG X Γ Ω (.Subscript o i pos) (F x) :=
  weak (pe_dget (hu_of hr) ho hi hs) fun σ H Q ⟨G0, H0, s, k⟩ => ⟨G0, H0, s, fun v G1 H1 g1 o1 q1 => ⟨G1, H0, ⟨G1, g1.self, o1⟩, fun y G2 H2 g2 o2 q2 => by
    have e1 : v = V.ref b := q1
    subst e1
    obtain ⟨_, _, u, h2, h3⟩ := o2.ow _ (List.mem_of_getElem? hj)
    generalize er : (some x : Option β) = r at hd
    cases hd with
    | @k _ _ qq =>
      obtain ⟨us, rfl, pd⟩ := h3
      have ey : y = kV qq := q2
      subst ey
      obtain ⟨w, hw, pw⟩ := pd.get.1 x er.symm
      have g := DGet.k (k := qq) h2
      rw [hw] at g
      exact ⟨b, w, rfl, g, k w G2 H2 (g1.trans g2) o2 pw⟩
    | t =>
      obtain ⟨us, rfl, pd⟩ := h3
      obtain ⟨c, e, hc⟩ := q2
      subst e
      obtain ⟨w, hw, pw⟩ := pd.get.1 x er.symm
      have g := DGet.t h2 (o2.gh _ _ hc)
      rw [hw] at g
      exact ⟨b, w, rfl, g, k w G2 H2 (g1.trans g2) o2 pw⟩⟩⟩
theorem mut_DK {a : Addr} {d : List (Key × β)} {Ω : Om} (h : ∀ q ∈ Ω, ∀ o G, q.2.p o G → isMut o = true) : ∀ q ∈ (a, oDK F d) :: Ω, ∀ o G, q.2.p o G → isMut o = true := fun q hq o G p => by
  rcases List.mem_cons.mp hq with rfl | hq
  · obtain ⟨vs, rfl, _⟩ := p; rfl
  · exact h q hq o G p
theorem mut_DT {a : Addr} {d : List (List Key × β)} {Ω : Om} (h : ∀ q ∈ Ω, ∀ o G, q.2.p o G → isMut o = true) : ∀ q ∈ (a, oDT F d) :: Ω, ∀ o G, q.2.p o G → isMut o = true := fun q hq o G p => by
  rcases List.mem_cons.mp hq with rfl | hq
  · obtain ⟨vs, rfl, _⟩ := p; rfl
  · exact h q hq o G p
theorem bc_DT {Ω : Om} {a : Addr} {d : List (List Key × β)} {Γ Γ' : Cn} (hj : (a, oDT F d) ∈ Ω) (t : BC Ω Γ Γ') : BC Ω (some (vR a) :: Γ) (some (vDT F d) :: Γ') :=
  .to (fun v G H hΩ s e => by
    obtain ⟨o, h1, vs, rfl, h2⟩ := hΩ _ hj
    exact ⟨a, vs, e, h1, h2⟩) t
end
end Ow
namespace Ow
open PySem PySem.Spec PyProof.Rows L2

/-! ### values that read as data -/
mutual
theorem Dp.same {K : PySem.W.Frag} {H H' : Hp} (s : Same H H') : ∀ (d : PyData) (v : V), Dp K H v d → Dp K H' v d
  | .none, _, h => by cases h; exact .non
  | .bool b, _, h => by cases h; exact .bl b
  | .int i, _, h => by cases h; exact .int i
  | .str x, _, h => by cases h; exact .str x
  | .list ds, _, h => by
    cases h with
    | lst hs ha =>
      refine .lst ?_ (DpAll.same s ds _ ha)
      rcases hs with (h | ⟨o, h⟩) | h
      · exact .inl (.inl (s _ _ h))
      · exact .inl (.inr ⟨o, s _ _ h⟩)
      · exact .inr h
  | .tuple ds, _, h => by
    cases h with
    | tup hs ha => exact .tup (SqT.same s hs) (DpAll.same s ds _ ha)
  | .dict _, _, h => by cases h
theorem DpAll.same {K : PySem.W.Frag} {H H' : Hp} (s : Same H H') : ∀ (ds : List PyData) (vs : List V), DpAll K H vs ds → DpAll K H' vs ds
  | [], _, h => by cases h; exact .nil
  | d :: ds, _, h => by
    cases h with
    | cons h1 h2 => exact .cons (Dp.same s d _ h1) (DpAll.same s ds _ h2)
end
/-- such values read as d -/
def Dat (K : PySem.W.Frag) (P : VP) (d : PyData) : Prop := ∀ v G, P.p v G → Dp K G v d
inductive DatAll (K : PySem.W.Frag) : List VP → List PyData → Prop
  | nil : DatAll K [] []
  | cons {P : VP} {d : PyData} {Ps : List VP} {ds : List PyData} : Dat K P d → DatAll K Ps ds → DatAll K (P :: Ps) (d :: ds)
theorem DatAll.at {K : PySem.W.Frag} {G : Hp} {Ps : List VP} {ds : List PyData} (h : DatAll K Ps ds) : ∀ {vs : List V}, PV Ps vs G → DpAll K G vs ds := by
  induction h with
  | nil => intro vs q; cases q; exact .nil
  | cons h t ih => intro vs q; cases q with | cons r q => exact .cons (h _ _ r) (ih q)
section
variable {K : PySem.W.Frag}
theorem dat_I {i : Int} : Dat K (vI i) (.int i) := fun v G e => by
  have e : v = V.int i := e
  subst e; exact .int i
theorem dat_S {i : Str} : Dat K (vS i) (.str i) := fun v G e => by
  have e : v = V.str i := e
  subst e; exact .str i
theorem dat_B {i : Bool} : Dat K (vB i) (.bool i) := fun v G e => by
  have e : v = V.bl i := e
  subst e; exact .bl i
theorem dat_N : Dat K vN .none := fun v G e => by
  have e : v = V.non := e
  subst e; exact .non
theorem dat_T {Ps : List VP} {ds : List PyData} (h : DatAll K Ps ds) : Dat K (vT K Ps) (.tuple ds) := fun v G ⟨a, vs, e, hs, q⟩ => by
  subst e; exact .tup hs (h.at q)
theorem dat_X {Ps : List VP} {ds : List PyData} (h : DatAll K Ps ds) : Dat K (vX Ps) (.tuple ds) := fun v G q => dat_T h v G (vX_T q)
theorem dat_L {Ps : List VP} {ds : List PyData} (h : DatAll K Ps ds) : Dat K (vL Ps) (.list ds) := fun v G ⟨a, vs, e, hs, q⟩ => by
  subst e; exact .lst (SqL.of hs) (h.at q)
theorem dat_map {α : Type} {F : α → VP} {f : α → PyData} (h : ∀ x, Dat K (F x) (f x)) : ∀ xs : List α, DatAll K (xs.map F) (xs.map f)
  | [] => .nil
  | x :: xs => .cons (h x) (dat_map h xs)
/-- == -/
theorem rg_eqD {Pa Pb : VP} {d e : PyData} (ha : Dat K Pa d) (hb : Dat K Pb e) (sa : SeqAt.shaped d = true) (sb : SeqAt.shaped e = true) : RG (rEqD K) Pa Pb (vB (PyData.eqv d e)) := fun x y G H Q sm px py k =>
  ⟨d, e, Dp.same sm _ _ (ha _ _ px), Dp.same sm _ _ (hb _ _ py), sa, sb, k _ _ _ (Step.refl sm) rfl⟩
theorem rg_neD {Pa Pb : VP} {d e : PyData} (ha : Dat K Pa d) (hb : Dat K Pb e) (sa : SeqAt.shaped d = true) (sb : SeqAt.shaped e = true) : RG (rNeD K) Pa Pb (vB (!PyData.eqv d e)) := fun x y G H Q sm px py k =>
  ⟨d, e, Dp.same sm _ _ (ha _ _ px), Dp.same sm _ _ (hb _ _ py), sa, sb, k _ _ _ (Step.refl sm) rfl⟩
def rLtD (K : PySem.W.Frag) : R2 := fun x y H Q => ∃ d e, Dp K H x d ∧ Dp K H y e ∧ PySem.W.alike d e = true ∧ d ≠ .none ∧ d.depth ≤ 60 ∧ Q (.bl (PySem.W.dataLt d e)) H
end
section
variable {X : Cx}
theorem op_ltD (hu : X.A.units + 64 < cLine) : OpR X (compareOp .Lt) (rLtD X.K) := by
  intro pins s σ H x y v u Q I rx ry h
  obtain ⟨d, e, hd, he, al, hn, hdp, q⟩ := h
  obtain ⟨as, r1⟩ := Dp.reads I d x v hd rx
  obtain ⟨bs, r2⟩ := Dp.reads I e y u he ry
  exact PySem.W.rcLt_alike d e X.A s v u as bs r1 r2 al hn (by omega) X.prog X.w X.xe _ ⟨.bl _, H, I, rfl, q⟩
theorem rg_ltD {K : PySem.W.Frag} {Pa Pb : VP} {d e : PyData} (ha : Dat K Pa d) (hb : Dat K Pb e) (al : PySem.W.alike d e = true) (hn : d ≠ .none) (hd : d.depth ≤ 60) : RG (rLtD K) Pa Pb (vB (PySem.W.dataLt d e)) := fun x y G H Q sm px py k =>
  ⟨d, e, Dp.same sm _ _ (ha _ _ px), Dp.same sm _ _ (hb _ _ py), al, hn, hd, k _ _ _ (Step.refl sm) rfl⟩
/-- sorted of data -/
def rSortD (K : PySem.W.Frag) : List V → Hp → VK → Prop := fun vs H Q => ∃ (a : Addr) (ps : List (V × PyData)), vs = [V.ref a] ∧ SqL K H a (ps.map (·.1)) ∧ (∀ p ∈ ps, Dp K H p.1 p.2 ∧ p.2.depth ≤ 60) ∧ PySem.W.AllAlike (ps.map (·.2)) ∧ PySem.W.Sortable (ps.map (·.2)) ∧
  ∀ l, H l = none → Q (.ref l) (upd H l (.lst ((ps.mergeSort (PySem.W.dataLe false (·.2))).map (·.1))))
theorem eachIs_of {ps : List (V × PyData)} {us : List Value} (r : Vals (ps.map (·.1)) us) : PySem.W.EachIs (fun (u : Value) (p : V × PyData) => RelV p.1 u) us ps := by
  induction ps generalizing us with
  | nil => cases r; exact .nil
  | cons p ps ih => cases r with | cons h t => exact .cons h (ih t)
theorem eachIs_back {us : List Value} {ps : List (V × PyData)} (e : PySem.W.EachIs (fun (u : Value) (p : V × PyData) => RelV p.1 u) us ps) : Vals (ps.map (·.1)) us := by
  induction e with
  | nil => exact .nil
  | cons h t ih => exact .cons h ih
theorem cr_sortedD (hu : X.A.units + 64 < cLine) : CallR X (.builtin "sorted") (rSortD X.K) := by
  intro pins s σ H vs us Q I r h
  obtain ⟨a, ps, rfl, hs, hd, hal, hk, q⟩ := h
  obtain ⟨its, rv, hl, hz⟩ := I.list hs
  rw [Vals.ref1 r]
  have e := eachIs_of rv
  have er : PySem.W.EachIs (fun v (b : V × PyData) => ∃ as, Reads s.heap v b.2 as) its ps := by
    have hd' : ∀ p ∈ ps, Dp X.K H p.1 p.2 := fun p hp => (hd p hp).1
    clear hd hal hk q hs hl hz r rv
    induction e with
    | nil => exact .nil
    | cons h t ih => exact .cons (Dp.reads I _ _ _ (hd' _ List.mem_cons_self) h) (ih fun p hp => hd' p (List.mem_cons_of_mem _ hp))
  have hz' : ps.length ≤ sizeLine := by rw [List.length_map] at hz; exact hz
  refine PySem.W.sorted_data (enc := fun b : V × PyData => b.2) hl.isList e er hal hk hz' (fun b hb => by have := (hd b hb).2; omega) fun out ho eo => ?_
  obtain ⟨ep, he'⟩ := PyProof.Rows.sortedAll_at s.heap its (List.toArray out)
  have rb := eachIs_back eo
  have hlen2 : ((ps.mergeSort (PySem.W.dataLe false (·.2))).map (·.1)).length ≤ sizeLine := by rw [List.length_map, List.length_mergeSort]; exact hz'
  exact ⟨.ref _, upd H (s.heap.objs.size + 1) (.lst ((ps.mergeSort (PySem.W.dataLe false (·.2))).map (·.1))), I.laid (t' := s.toks) (fun _ _ => PyProof.Rows.sortedAll_old) (Nat.le_succ _) ⟨hlen2, out, ep, rb, he'⟩, rfl, q _ (I.hok.fresh (Nat.le_succ _))⟩
end
theorem pv_zip {Ps : List VP} {vs : List V} {G : Hp} (q : PV Ps vs G) : PV ((Ps.zip vs).map (·.1)) ((Ps.zip vs).map (·.2)) G ∧ (Ps.zip vs).map (·.1) = Ps ∧ (Ps.zip vs).map (·.2) = vs := by
  induction q with
  | nil => exact ⟨.nil, rfl, rfl⟩
  | cons r t ih =>
    obtain ⟨a, b, c⟩ := ih
    exact ⟨.cons r a, by rw [List.zip_cons_cons, List.map_cons, b], by rw [List.zip_cons_cons, List.map_cons, c]⟩
/-- a list of things told by plain data, sorted: in the order of the data -/
theorem ru_sortD {K : PySem.W.Frag} {α : Type} {xs : List α} {F : α → VP} {f : α → PyData} (hf : ∀ x ∈ xs, Dat K (F x) (f x)) (hd : ∀ x ∈ xs, (f x).depth ≤ 60) (hal : PySem.W.AllAlike (xs.map f)) (hk : PySem.W.Sortable (xs.map f)) :
    RU (rSortD K) [vL (xs.map F)] (vL ((xs.mergeSort (PySem.W.dataLe false f)).map F)) := fun vs G H Q sm q k => by
  cases q with
  | cons q t =>
    cases t
    obtain ⟨a, us, rfl, ha, q⟩ := q
    -- pairs of item and value
    have key : ∀ {xs : List α} {us : List V}, PV (xs.map F) us G → ∃ zs : List (α × V), zs.map (·.1) = xs ∧ zs.map (·.2) = us ∧ ∀ z ∈ zs, (F z.1).p z.2 G := fun {xs} => by
      clear hf hd hal hk ha q
      induction xs with
      | nil => intro us q; cases q; exact ⟨[], rfl, rfl, fun z h => by cases h⟩
      | cons x xs ih =>
        intro us q
        cases q with
        | cons r t =>
          obtain ⟨zs, h1, h2, h3⟩ := ih t
          refine ⟨(x, _) :: zs, by rw [List.map_cons, h1], by rw [List.map_cons, h2], fun z hz => ?_⟩
          rcases List.mem_cons.mp hz with rfl | hz
          · exact r
          · exact h3 z hz
    obtain ⟨zs, h1, h2, h3⟩ := key q
    let g : α × V → V × PyData := fun z => (z.2, f z.1)
    have e1 : (zs.map g).map (·.1) = us := by rw [List.map_map]; exact h2
    have e2 : (zs.map g).map (·.2) = xs.map f := by rw [List.map_map, ← h1, List.map_map]; rfl
    refine ⟨a, zs.map g, rfl, by rw [e1]; exact SqL.of (sm _ _ ha), fun p hp => ?_, by rw [e2]; exact hal, by rw [e2]; exact hk, fun l hl => ?_⟩
    · obtain ⟨z, hz, rfl⟩ := List.mem_map.mp hp
      have hx : z.1 ∈ xs := by rw [← h1]; exact List.mem_map_of_mem hz
      exact ⟨Dp.same sm _ _ (hf z.1 hx _ _ (h3 z hz)), hd z.1 hx⟩
    · have st := Step.new (o := .lst (((zs.map g).mergeSort (PySem.W.dataLe false (·.2))).map (·.1))) sm hl
      refine k _ _ _ st ⟨l, _, rfl, upd_same, ?_⟩
      have m1 : (zs.map g).mergeSort (PySem.W.dataLe false (·.2)) = (zs.mergeSort (PySem.W.dataLe false fun z => f z.1)).map g := by
        rw [List.map_mergeSort]
        intro a _ b _; rfl
      have m2 : (xs.mergeSort (PySem.W.dataLe false f)) = (zs.mergeSort (PySem.W.dataLe false fun z => f z.1)).map (·.1) := by
        rw [← h1, List.map_mergeSort]
        intro a _ b _; rfl
      rw [m2, List.map_map]
      have all : ∀ ws : List (α × V), (∀ z ∈ ws, (F z.1).p z.2 G) → PV (ws.map (F ∘ (·.1))) (ws.map ((·.1) ∘ g)) G := fun ws => by
        induction ws with
        | nil => intro _; exact .nil
        | cons z ws ih => intro h; exact .cons (h z List.mem_cons_self) (ih fun y hy => h y (List.mem_cons_of_mem _ hy))
      have fin := all (zs.mergeSort (PySem.W.dataLe false fun z => f z.1)) fun z hz => h3 z (List.mem_mergeSort.mp hz)
      rw [← List.map_map (f := g), ← m1] at fin
      exact PV.mono st.g fin
section
variable {X : Cx} {Γ : Cn} {Ω : Om} {pos p : Pos} {e : Expr} {k : Nat}
theorem eg_sortD {α : Type} {xs : List α} {F : α → VP} {f : α → PyData} (hr : Room k X.A) (hf : ∀ x ∈ xs, Dat X.K (F x) (f x)) (hd : ∀ x ∈ xs, (f x).depth ≤ 60) (hal : PySem.W.AllAlike (xs.map f)) (hk : PySem.W.Sortable (xs.map f)) (hm : X.mg "sorted" = none) (he : EG X Γ Ω e (vL (xs.map F))) (hg : Gl X "sorted" := by rfl) (h1 : starEach [e] X.env = (false, eval e X.env) :: starEach [] X.env := by rfl) (h3 : (backTo pos (starEach [] X.env)).any (·.1) = false := by rfl) : EG X Γ Ω (.Call (.Name "sorted" p) [e] [] pos) (vL ((xs.mergeSort (PySem.W.dataLe false f)).map F)) :=
  eg_callB (cr_sortedD hr.units) (ru_sortD hf hd hal hk) hg hm boot_sorted (ag_cons he ag_nil h1) (by decide) (by decide) h1 h3
end
end Ow
namespace Ow
open PySem PySem.Spec PyProof.Rows L2

theorem pv_snoc {P : VP} {G : Hp} : ∀ {Ps : List VP} {vs : List V}, PV (Ps ++ [P]) vs G → ∃ ws y, vs = ws ++ [y] ∧ PV Ps ws G ∧ P.p y G
  | [], _, h => by
    cases h with
    | cons r t => cases t; exact ⟨[], _, rfl, .nil, r⟩
  | Q1 :: Ps, _, h => by
    cases h with
    | cons r t =>
      obtain ⟨ws, y, e, h4, h5⟩ := pv_snoc t
      exact ⟨_ :: ws, y, by rw [e]; rfl, .cons r h4, h5⟩
section
variable {X : Cx} {G0 H0 H : Hp} {Γ : Cn} {Ω : Om} {σ : L2.St} {D : Ends} {rest : List Stmt} {e o : Expr} {P : VP} {Ps Qs : List VP} {R : OP} {pos pos' : Pos} {a : Addr}
/-! ### truth -/
theorem tg_truL (he : EG X Γ Ω e (vL Ps)) (hi : ∀ whole, isTrue e X.env whole = (do let v ← whole; standAt e.pos; holding [v] (truthy v)) := by intro _; rfl) : TG X Γ Ω e (!Ps.isEmpty) :=
  weakT (pt_truth he hi) fun σ H Q ⟨G0, H0, s, w⟩ => ⟨G0, H0, s, fun v G H' g o ⟨a, vs, e1, ha, q⟩ => by
    subst e1
    have : vs.isEmpty = Ps.isEmpty := by cases q <;> rfl
    exact ⟨!vs.isEmpty, .inl ⟨vs, SqL.of (o.gh _ _ ha), rfl⟩, by rw [this]; exact w G H' g o⟩⟩
/-! ### a reading that changes what is ours -/
def tGM (Γ : Cn) (Ω : Om) (P : VP) (Ω' : Om) : TE := fun σ H Q => ∃ G0 H0, Sat G0 H0 Γ Ω σ H ∧ ∀ v G H', Grow G0 H0 G H' → Ok H0 Γ Ω' σ G H' → P.p v G → Q v H'
abbrev MG (X : Cx) (Γ : Cn) (Ω : Om) (e : Expr) (P : VP) (Ω' : Om) : Prop := PE X e (tGM Γ Ω P Ω')
theorem s_asgM {tg : Expr} {Γ' : Cn} {Ω' : Om} {ts : List Nat} (hs : Sat G0 H0 Γ Ω σ H) (he : MG X Γ Ω e P Ω') (hg : TgG X tg P Γ Ω' Γ' ts) (k : ∀ σ' H', Sat G0 H0 Γ' Ω' σ' H' → wpS X rest D σ' H') (h1 : swapsWithSole [tg] e pos.line X.env = pure false := by rfl) (h2 : swappedStores [tg] e X.env = pure none := by rfl)
    (h3 : (assignEach [tg] X.env).map (·.2) = [assign tg X.env] := by rfl) : wpS X (.Assign [tg] e pos :: rest) D σ H :=
  wp_cons (ps_asg he hg h1 h2 h3) ⟨G0, H0, hs, fun v G H' g o q => ⟨G, H0, ⟨G, g.self, o, q⟩, fun σ' G' H'' _ g' o' => k σ' H'' ⟨G', g.trans g', o'⟩⟩⟩
theorem s_exprM {Ω' : Om} (hs : Sat G0 H0 Γ Ω σ H) (he : MG X Γ Ω e P Ω') (k : ∀ H', Sat G0 H0 Γ Ω' σ H' → wpS X rest D σ H') (hw : swapsWith e none pos.line X.env = pure false := by rfl) : wpS X (.Expr e pos :: rest) D σ H :=
  wp_cons (ps_expr he hw) ⟨G0, H0, hs, fun v G H' g o q => k H' ⟨G, g, o⟩⟩
/-- o.pop() -/
theorem mg_pop {apos cpos : Pos} (j : Nat) (hj : Ω[j]? = some (a, oL (Ps ++ [P]))) (ho : EG X Γ Ω o (vR a)) (hbase : attributeBase o "pop" X.env (eval o X.env) = eval o X.env := by rfl) (hline : (apos.endLine == cpos.line) = true := by rfl) : MG X Γ Ω (.Call (.Attribute o "pop" apos) [] [] cpos) P (Ω.set j (a, oL Ps)) :=
  weak (pe_bm0 PySem.F.plainAttrs_list PySem.F.slot_list_pop PySem.F.type_list_pop mt_pop ho hbase hline) fun σ H Q ⟨G0, H0, s, k⟩ => ⟨G0, H0, s, fun x G1 H1 g1 o1 q1 => by
    have e1 : x = V.ref a := q1
    subst e1
    obtain ⟨h0, _, u, h2, vs, rfl, h3⟩ := o1.ow _ (List.mem_of_getElem? hj)
    obtain ⟨ws, y, rfl, h4, h5⟩ := pv_snoc h3
    refine ⟨.inl ⟨rfl, _, SqL.of h2⟩, a, _, y, rfl, rfl, h2, by simp, ?_⟩
    rw [List.dropLast_concat]
    exact k y G1 _ (g1.put h0) (o1.put hj ⟨ws, rfl, h4⟩) h5⟩
/-! ### a, b = x, y with new things -/
def tGNA (Γ : Cn) (Ω : Om) (R1 R2 : OP) : TA := fun σ H Q => ∃ G0 H0, Sat G0 H0 Γ Ω σ H ∧ ∀ a b G H', Grow G0 H0 G H' → Ok H0 Γ ((b, R2) :: (a, R1) :: Ω) σ G H' → Q [.ref a, .ref b] H'
theorem s_parNN {i j : Nat} {x y : Str} {e1 e2 : Expr} {R1 R2 : OP} {px py pt : Pos} {kt k2 pt2} (hs : Sat G0 H0 Γ Ω σ H) (h1 : NG X Γ Ω e1 R1) (h2 : ∀ a, NG X Γ ((a, R1) :: Ω) e2 R2) (k : ∀ a b σ' H', Sat G0 H0 ((Γ.set i (some (vR a))).set j (some (vR b))) ((b, R2) :: (a, R1) :: Ω) σ' H' → wpS X rest D σ' H') (hN : X.N.Nodup) (hi : X.N[i]? = some x) (hj : X.N[j]? = some y) (hij : i ≠ j := by decide)
    (hc : X.calm = true := by rfl) (hx : X.env.scope.names.lookup x = some .local := by rfl) (hy : X.env.scope.names.lookup y = some .local := by rfl)
    (hw : swappedStores [.Tuple [.Name x px, .Name y py] kt pt] (.Tuple [e1, e2] k2 pt2) X.env = pure (some [x, y]) := by rfl)
    (h5 : swapsWithSole [.Tuple [.Name x px, .Name y py] kt pt] (.Tuple [e1, e2] k2 pt2) pos.line X.env = pure false := by rfl) (hs1 : starEach [e1, e2] X.env = (false, eval e1 X.env) :: starEach [e2] X.env := by rfl) (hs2 : starEach [e2] X.env = (false, eval e2 X.env) :: starEach [] X.env := by rfl) : wpS X (.Assign [.Tuple [.Name x px, .Name y py] kt pt] (.Tuple [e1, e2] k2 pt2) pos :: rest) D σ H := by
  have h2' : PE X e2 (fun σ H Q => ∃ a G0 H0, Sat G0 H0 Γ ((a, R1) :: Ω) σ H ∧ ∀ b G H', Grow G0 H0 G H' → Ok H0 Γ ((b, R2) :: (a, R1) :: Ω) σ G H' → Q (.ref b) H') := ⟨fun pins s σ H Q I ⟨a, h⟩ => (h2 a).run pins s σ H Q I h⟩
  refine wp_cons (ps_par hc hN hi hj hij hx hy (pa_cons h1 (pa_cons h2' pa_nil hs2) hs1) hw h5) ⟨G0, H0, hs, fun a G H' g o => ⟨a, G, H0, ⟨G, g.self, o⟩, fun b G2 H2 g2 o2 => ⟨_, _, rfl, ?_⟩⟩⟩
  exact k a b _ H2 ⟨G2, g.trans g2, (o2.set rfl).set rfl⟩
theorem s_parEN {i j : Nat} {x y : Str} {e1 e2 : Expr} {P1 : VP} {R2 : OP} {px py pt : Pos} {kt k2 pt2} (hs : Sat G0 H0 Γ Ω σ H) (h1 : EG X Γ Ω e1 P1) (h2 : NG X Γ Ω e2 R2) (k : ∀ b σ' H', Sat G0 H0 ((Γ.set i (some P1)).set j (some (vR b))) ((b, R2) :: Ω) σ' H' → wpS X rest D σ' H') (hN : X.N.Nodup) (hi : X.N[i]? = some x) (hj : X.N[j]? = some y) (hij : i ≠ j := by decide)
    (hc : X.calm = true := by rfl) (hx : X.env.scope.names.lookup x = some .local := by rfl) (hy : X.env.scope.names.lookup y = some .local := by rfl)
    (hw : swappedStores [.Tuple [.Name x px, .Name y py] kt pt] (.Tuple [e1, e2] k2 pt2) X.env = pure (some [x, y]) := by rfl)
    (h5 : swapsWithSole [.Tuple [.Name x px, .Name y py] kt pt] (.Tuple [e1, e2] k2 pt2) pos.line X.env = pure false := by rfl) (hs1 : starEach [e1, e2] X.env = (false, eval e1 X.env) :: starEach [e2] X.env := by rfl) (hs2 : starEach [e2] X.env = (false, eval e2 X.env) :: starEach [] X.env := by rfl) : wpS X (.Assign [.Tuple [.Name x px, .Name y py] kt pt] (.Tuple [e1, e2] k2 pt2) pos :: rest) D σ H := by
  refine wp_cons (ps_par hc hN hi hj hij hx hy (pa_cons h1 (pa_cons h2 pa_nil hs2) hs1) hw h5) ⟨G0, H0, hs, fun v G H' g o q => ⟨G, H0, ⟨G, g.self, o⟩, fun b G2 H2 g2 o2 => ⟨_, _, rfl, ?_⟩⟩⟩
  exact k b _ H2 ⟨G2, g.trans g2, (o2.set (P1.mono g2.g q)).set rfl⟩
/-- x += e, x a list of ours -/
theorem s_ext {x : Str} (hs : Sat G0 H0 Γ Ω σ H) (i j : Nat) (hi : Γ[i]? = some (some (vR a))) (hj : Ω[j]? = some (a, oL Ps)) (he : EG X Γ Ω e (vL Qs)) (hl : Ps.length + Qs.length ≤ sizeLine) (k : ∀ σ' H', Sat G0 H0 Γ (Ω.set j (a, oL (Ps ++ Qs))) σ' H' → wpS X rest D σ' H') (hN : X.N.Nodup) (hx : X.N[i]? = some x := by rfl) (hloc : Loc X.env.scope x := by first | exact .inl rfl | exact .inr rfl)
    (hf : X.fn x = true ∨ X.env.scope.names.lookup x = some .local := by first | exact .inl rfl | exact .inr rfl) : wpS X (.AugAssign (.Name x pos') .Add e pos :: rest) D σ H := by
  refine wp_cons (ps_aug (ti := rExt2) hN hx hloc he (fun pins s σ H x y v u Q I rx ry h => iop_ext pins s σ H x y v u Q I rx ry h) hf) ?_
  obtain ⟨G, g, o⟩ := hs
  obtain ⟨v, hv, ev⟩ := o.im i _ hi
  have ev' : v = V.ref a := ev
  subst ev'
  refine ⟨_, hv, G0, H0, ⟨G, g, o⟩, fun y G1 H1 g1 o1 ⟨b, us, e1, hb, q⟩ => ?_⟩
  obtain ⟨h0, _, u, h2, vs, rfl, h3⟩ := o1.ow _ (List.mem_of_getElem? hj)
  refine ⟨a, b, vs, us, rfl, e1, h2, o1.gh _ _ hb, by rw [← Paired.length h3, ← Paired.length q]; exact hl, ?_⟩
  have e2 : σ.set i (some (V.ref a)) = σ := by
    refine List.ext_getElem? fun m => ?_
    by_cases hm : i = m
    · subst hm
      rw [List.getElem?_set_self (lt_of_some hv)]; exact hv.symm
    · rw [List.getElem?_set_ne hm]
  show wpS X rest D (σ.set i (some (V.ref a))) _
  rw [e2]
  exact k σ _ ⟨G1, g1.put h0, o1.put hj ⟨_, rfl, PV.append h3 q⟩⟩
end
end Ow
namespace Ow
open PySem PySem.Spec PyProof.Rows L2
section
variable {X : Cx} {G0 H0 H : Hp} {Γ : Cn} {Ω : Om} {σ : L2.St} {α β : Type} {xs : List α} {F : α → VP} {tg iter kx vx : Expr} {scope : Scope} {own : List (Str × Nat)} {pos : Pos}
def dFold (key : α → Key) (val : α → β) (xs : List α) : List (Key × β) := xs.foldl (fun d x => dP d (key x) (val x)) []
theorem dFold_len {key : α → Key} {val : α → β} (xs : List α) : (dFold key val xs).length ≤ xs.length := by
  have all : ∀ (xs : List α) (d : List (Key × β)), (xs.foldl (fun d x => dP d (key x) (val x)) d).length ≤ d.length + xs.length := fun xs => by
    induction xs with
    | nil => intro d; exact Nat.le_refl _
    | cons x xs ih =>
      intro d
      have h1 := ih (dP d (key x) (val x))
      have h2 := dP_len (d := d) (k := key x) (x := val x)
      show (xs.foldl _ (dP d (key x) (val x))).length ≤ _
      rw [List.length_cons]; omega
  have h := all xs []
  unfold dFold
  rw [List.length_nil, Nat.zero_add] at h
  exact h
theorem dFold_take {key : α → Key} {val : α → β} {i : Nat} {x : α} (hx : xs[i]? = some x) : dFold key val (xs.take (i + 1)) = dP (dFold key val (xs.take i)) (key x) (val x) := by
  have e : xs.take (i + 1) = xs.take i ++ [x] := by
    rw [List.take_add_one, hx]; rfl
  unfold dFold
  rw [e, List.foldl_append]
  rfl
theorem wipe_wipe (σ : L2.St) (vs : List Nat) : L2.wipe (L2.wipe σ vs) vs = L2.wipe σ vs := by
  refine List.ext_getElem? fun j => ?_
  by_cases hj : j ∈ vs
  · have wl : ∀ (us : List Nat) (τ : L2.St), j ∈ us → j < τ.length → (L2.wipe τ us)[j]? = some none := fun us τ => by
      induction us with
      | nil => intro z; cases z
      | cons u us ih =>
        intro z l
        show ((L2.wipe τ us).set u none)[j]? = _
        by_cases hu : u = j
        · subst hu; rw [List.getElem?_set_self (by rw [wipe_length]; exact l)]
        · rw [List.getElem?_set_ne hu]
          exact ih ((List.mem_cons.mp z).resolve_left fun q => hu q.symm) l
    by_cases hl : j < σ.length
    · rw [wl _ _ hj (by rw [wipe_length]; exact hl), wl _ _ hj hl]
    · rw [List.getElem?_eq_none (by rw [wipe_length, wipe_length]; omega), List.getElem?_eq_none (by rw [wipe_length]; omega)]
  · rw [wipe_out hj]
theorem dc_read {key : α → Key} {val : α → β} {R : β → VP} {Γt : α → Cn} {ts : List Nat} (hts : ∀ i ∈ ts, i ∈ own.map (·.2)) (hz : xs.length ≤ sizeLine) {Q : VK} (hs : Sat G0 H0 Γ Ω σ H)
    (k : ∀ v G H', Grow G0 H0 G H' → Ok H0 Γ Ω σ G H' → (vDK R (dFold key val xs)).p v G → Q v H') :
    tDc (tGI Γ Ω xs F) (fun v σ H Q => ∃ x ∈ xs, tGg (F x) (wipeC Γ (own.map (·.2))) Ω (Γt x) ts v σ H Q) (fun σ H Q => ∃ x ∈ xs, tGT (Γt x) Ω true σ H Q) (fun σ H Q => ∃ x ∈ xs, tG (Γt x) Ω (vIs (kV (key x))) σ H Q) (fun σ H Q => ∃ x ∈ xs, tG (Γt x) Ω (R (val x)) σ H Q) (own.map (·.2)) σ H Q := by
  refine ⟨G0, H0, hs, fun J G1 H1 g1 o1 w D hD => ?_⟩
  have hD0 : H0 D = Option.none := g1.h.free hD
  have fr : ∀ q ∈ Ω, q.1 ≠ D := fun q hq e => by
    obtain ⟨_, _, o, h2, _⟩ := o1.ow q hq
    rw [e, hD] at h2; cases h2
  let Pv : Nat → Hp → Prop := fun i H => ∃ G us, Grow G1 H0 G H ∧ Ok H0 Γ Ω σ G H ∧ G D = none ∧ H D = some (.dK us) ∧ PD R (dFold key val (xs.take i)) us G
  refine ⟨fun i m H => i ≤ xs.length ∧ m = xs.length - i ∧ Pv i H, ⟨xs.length, Nat.zero_le _, rfl, ?h0⟩, ?step⟩
  case h0 =>
    refine ⟨G1, [], ⟨Same.refl _, fun b o e => ?_, fun _ _ _ n => n⟩, ⟨fun b o e => ?_, o1.len, o1.im, fun q hq => ?_, o1.nd⟩, o1.gh.free hD, upd_same, .nil⟩
    · rw [upd_ne (ne_of_none e hD0)]; exact g1.h _ _ e
    · rw [upd_ne (ne_of_none e (o1.gh.free hD))]; exact o1.gh _ _ e
    · obtain ⟨a, b, o, h2, h3⟩ := o1.ow q hq
      exact ⟨a, b, o, by rw [upd_ne (fr q hq)]; exact h2, h3⟩
  case step =>
    rintro i m H ⟨hi, rfl, G, us, g, o, nD, hDl, pd⟩
    have sm : Same G1 H := g.g.trans o.gh
    by_cases hl : i < xs.length
    · refine .inr ⟨w.goes i H hl sm, Pv (i + 1), fun H' h => ⟨xs.length - (i + 1), by omega, hl, rfl, h⟩, fun v H' y => ?_⟩
      have hx : xs[i]? = some xs[i] := by simp [hl]
      have hm : xs[i] ∈ xs := List.getElem_mem hl
      obtain ⟨G2, st, fv⟩ := w.yields i H v H' xs[i] G hx g.g o.gh y
      have o2 := (o.step st).wipe (own.map (·.2))
      have hD2 : H' D = some (.dK us) := st.h _ _ hDl
      have nD2 : G2 D = Option.none := st.out _ _ hDl nD
      have okD : ∀ {Γ' : Cn} {σ' : L2.St} {G' K' : Hp} {u : HO}, Ok H0 Γ' Ω σ' G' K' → Ok (upd H0 D u) Γ' Ω σ' G' K' := fun {Γ' σ' G' K' u} o => ⟨o.gh, o.len, o.im, fun q hq => by
        obtain ⟨a, b⟩ := o.ow q hq
        exact ⟨by rw [upd_ne (fr q hq)]; exact a, b⟩, o.nd⟩
      have gD : ∀ {G' K' : Hp}, Grow G2 (upd H0 D (.dK us)) G' K' → Grow G1 H0 G' K' ∧ G' D = none ∧ K' D = some (.dK us) := fun {G' K'} g' => ⟨(g.step st).unframe hD0 g', g'.out _ _ upd_same nD2, g'.h _ _ upd_same⟩
      have carry : ∀ {G' K' : Hp}, Grow G2 (upd H0 D (.dK us)) G' K' → Same G' K' → (∀ q ∈ Ω, G' q.1 = none ∧ ∃ o, K' q.1 = some o ∧ q.2.p o G') → Ok H0 Γ Ω σ G' K' := fun {G' K'} g' s' ow' => by
        have o3 := o.step st
        exact ⟨s', o3.len, fun j R e => let ⟨u, h1, h2⟩ := o3.im j R e; ⟨u, h1, R.mono g'.g h2⟩, fun q hq => ⟨(o3.ow q hq).1, (ow' q hq).1, (ow' q hq).2⟩, o3.nd⟩
      refine ⟨xs[i], hm, G2, upd H0 D (.dK us), ⟨G2, Grow.frame ((g.step st).h) hD2, okD o2, fv⟩, fun σ2 G3 H3 on g3 o3 => ⟨(wipe_only on hts).trans (wipe_wipe _ _), xs[i], hm, G3, _, ⟨G3, g3.self, o3⟩, fun G4 H4 g4 o4 => ?_⟩⟩
      have g34 := g3.trans g4
      show (if true = true then _ else _)
      rw [if_pos rfl]
      refine ⟨xs[i], hm, G4, _, ⟨G4, g4.self, o4⟩, fun y5 G5 H5 g5 o5 ry => ⟨xs[i], hm, G5, _, ⟨G5, g5.self, o5⟩, fun z6 G6 H6 g6 o6 rz => ?_⟩⟩
      have g36 := (g34.trans g5).trans g6
      obtain ⟨gg, nD6, hD6⟩ := gD g36
      have ok6 := carry g36 o6.gh fun q hq => (o6.ow q hq).2
      have pd6 : PD R (dFold key val (xs.take i)) us G6 := pd.mono (st.g.trans g36.g)
      have hlen : us.length < sizeLine := by
        have h1 := Paired.length pd
        have h2 := dFold_len (key := key) (val := val) (xs.take i)
        rw [List.length_take] at h2
        omega
      refine ⟨us, key xs[i], ry, hD6, hlen, G6, putK us (key xs[i]) z6, ⟨gg.g, fun b o e => ?_, gg.out⟩, ⟨fun b o e => ?_, ok6.len, ok6.im, fun q hq => ?_, ok6.nd⟩, nD6, upd_same, ?_⟩
      · rw [upd_ne (ne_of_none e hD0)]; exact gg.h _ _ e
      · rw [upd_ne (ne_of_none e nD6)]; exact ok6.gh _ _ e
      · obtain ⟨a, b, o, h2, h3⟩ := ok6.ow q hq
        exact ⟨a, b, o, by rw [upd_ne (fr q hq)]; exact h2, h3⟩
      · rw [dFold_take hx]
        exact pd6.put rz
    · have e : i = xs.length := by omega
      subst e
      refine .inl ⟨w.stops H sm, ?_⟩
      rw [List.take_length] at pd
      have sm2 : Same G (upd G D (.dK us)) := fun b u e => by rw [upd_ne (ne_of_none e nD)]; exact e
      refine k (.ref D) (upd G D (.dK us)) H ⟨g1.g.trans (g.g.trans sm2), g.h, fun b u e n => ?_⟩ ⟨fun b u e => ?_, o.len, fun j R e => let ⟨u, h1, h2⟩ := o.im j R e; ⟨u, h1, R.mono sm2 h2⟩, fun q hq => ?_, o.nd⟩ ⟨D, us, rfl, upd_same, pd.mono sm2⟩
      · rw [upd_ne (ne_of_none e hD0)]
        exact g.out b u e (g1.out b u e n)
      · by_cases hb : b = D
        · subst hb; rw [upd_same] at e; rw [hDl]; exact e
        · rw [upd_ne hb] at e; exact o.gh _ _ e
      · obtain ⟨a, b, u, h2, h3⟩ := o.ow q hq
        exact ⟨a, by rw [upd_ne (fr q hq)]; exact b, u, h2, q.2.mono sm2 h3⟩
theorem eg_dc (N : List Str) (sc : Scope) (own : List (Str × Nat)) {key : α → Key} {val : α → β} {R : β → VP} (Γt : α → Cn) (ts : List Nat) (hi : IG X tg iter Γ Ω xs F) (hz : xs.length ≤ sizeLine)
    (hg : ∀ s H C cl fp, ∀ x ∈ xs, TgG (bX X s H scope C cl fp) tg (F x) (wipeC Γ (own.map (·.2))) Ω (Γt x) ts)
    (hk : ∀ s H C cl fp, ∀ x ∈ xs, EG (bX X s H scope C cl fp) (Γt x) Ω kx (vIs (kV (key x))))
    (he : ∀ s H C cl fp, ∀ x ∈ xs, EG (bX X s H scope C cl fp) (Γt x) Ω vx (R (val x)))
    (hN : X.N.Nodup) (ok : blkC N sc scope own = true := by decide +kernel) (hX : X.N = N ∧ X.env.scope = sc := by exact ⟨rfl, rfl⟩) (hts : ∀ i ∈ ts, i ∈ own.map (·.2) := by decide) (hc : X.calm = true := by rfl) (hs : ∀ x, foldedSetIterable iter X.env x = pure x := by intro _; rfl) : EG X Γ Ω (.DictComp kx vx [⟨tg, iter, [], 0⟩] scope pos) (vDK R (dFold key val xs)) := by
  refine weak (pe_dc (own := own) (g := fun v σ H Q => ∃ x ∈ xs, tGg (F x) (wipeC Γ (own.map (·.2))) Ω (Γt x) ts v σ H Q) (tt := fun σ H Q => ∃ x ∈ xs, tGT (Γt x) Ω true σ H Q) (tk := fun σ H Q => ∃ x ∈ xs, tG (Γt x) Ω (vIs (kV (key x))) σ H Q) (tv := fun σ H Q => ∃ x ∈ xs, tG (Γt x) Ω (R (val x)) σ H Q) hc hN hi (blkOk_by (by rw [hX.1, hX.2]; exact ok)) ?_ ?_ ?_ ?_ hs) ?_
  · exact fun s H C cl fp => ⟨fun pins s' σ H' v u Q I r ⟨x, hx, h⟩ => (hg s H C cl fp x hx).run pins s' σ H' v u Q I r h⟩
  · exact fun s H C cl fp => ⟨fun pins s' σ H' Q I ⟨x, hx, h⟩ => pts_yes.run pins s' σ H' Q I h⟩
  · exact fun s H C cl fp => ⟨fun pins s' σ H' Q I ⟨x, hx, h⟩ => (hk s H C cl fp x hx).run pins s' σ H' Q I h⟩
  · exact fun s H C cl fp => ⟨fun pins s' σ H' Q I ⟨x, hx, h⟩ => (he s H C cl fp x hx).run pins s' σ H' Q I h⟩
  · rintro σ H Q ⟨G0, H0, s, k⟩
    exact dc_read hts hz s k
end
end Ow
namespace Ow
open PySem PySem.Spec PyProof.Rows L2
section
variable {α : Type} {X : Cx} {tg iter it : Expr} {Γ : Cn} {Ω : Om} {xs : List α} {F : α → VP} {G0 H0 H : Hp} {σ : L2.St} {D : Ends} {rest : List Stmt} {pos pos' : Pos} {a : Addr} {e : Expr} {Ps : List VP}
/-! ### walks over what is known only once it is there -/
def tGIE {α : Type} (Γ : Cn) (Ω : Om) (φ : List α → Prop) (F : α → VP) : TI := fun σ H R => ∃ G0 H0, Sat G0 H0 Γ Ω σ H ∧ ∀ J G H', Grow G0 H0 G H' → Ok H0 Γ Ω σ G H' → (∃ xs, φ xs ∧ WalkT J G xs F) → R J H'
abbrev IGE {α : Type} (X : Cx) (tg iter : Expr) (Γ : Cn) (Ω : Om) (φ : List α → Prop) (F : α → VP) : Prop := PI X tg iter (tGIE Γ Ω φ F)
theorem walk_tup {K : PySem.W.Frag} {a : Addr} {vs : List V} {G : Hp} (ha : SqT K G a vs) (q : PV (xs.map F) vs G) : WalkT (Itt K a) G xs F := by
  have hl : vs.length = xs.length := by rw [← Paired.length q, List.length_map]
  refine ⟨fun i H1 hi s1 => ?_, fun H1 s1 => ?_, fun i H1 v H2 x G1 hx s0 s1 y => ?_⟩
  · exact ⟨vs, vs[i]'(by omega), SqT.same s1 ha, by simp [hl, hi]⟩
  · exact ⟨vs, SqT.same s1 ha, by omega⟩
  · obtain ⟨e2, y⟩ := y
    subst e2
    obtain ⟨u, h1, h2⟩ := q.get (get_map (f := F) hx)
    have e3 := y vs (SqT.same (s0.trans s1) ha)
    rw [h1] at e3
    cases e3
    exact ⟨G1, Step.refl s1, (F x).mono s0 h2⟩
theorem ige_tup {φ : List α → Prop} (h : EG X Γ Ω iter (vEx φ fun xs => vT X.K (xs.map F))) : IGE X tg iter Γ Ω φ F := weakI (pi_tup h) fun σ H R ⟨G0, H0, s, k⟩ => ⟨G0, H0, s, fun v G H' g o ⟨xs, hx, a, vs, e, ha, q⟩ =>
  ⟨a, e, ⟨vs, SqT.same o.gh ha⟩, k _ G H' g o ⟨xs, hx, walk_tup ha q⟩⟩⟩
theorem s_forE {γ : Type} {body : List Stmt} {ψ : List α → Prop} (hs : Sat G0 H0 Γ Ω σ H) (hi : IGE X tg it Γ Ω ψ F) (Γi : List α → Nat → γ → Cn) (Ωi : List α → Nat → γ → Om) (φ : List α → Nat → γ → Prop) (Γt : List α → Nat → γ → α → Cn) (ts : List Nat)
    (h0 : ∀ xs, ψ xs → ∀ G1 σ H, Sat G1 H0 Γ Ω σ H → ∃ y, φ xs 0 y ∧ Sat G1 H0 (Γi xs 0 y) (Ωi xs 0 y) σ H)
    (ht : ∀ xs i y x, xs[i]? = some x → φ xs i y → TgG X tg (F x) (Γi xs i y) (Ωi xs i y) (Γt xs i y x) ts)
    (hb : ∀ xs, ψ xs → ∀ G1, GG G0 H0 G1 → ∀ i y x, xs[i]? = some x → φ xs i y → ∀ σ H, Sat G1 H0 (Γt xs i y x) (Ωi xs i y) σ H →
      wpS X body { D with nx := fun σ' H' => ∃ z, φ xs (i + 1) z ∧ Sat G1 H0 (Γi xs (i + 1) z) (Ωi xs (i + 1) z) σ' H', ct := fun σ' H' => ∃ z, φ xs (i + 1) z ∧ Sat G1 H0 (Γi xs (i + 1) z) (Ωi xs (i + 1) z) σ' H', bk := fun σ' H' => wpS X rest D σ' H' } σ H)
    (hd : ∀ xs, ψ xs → ∀ y, φ xs xs.length y → ∀ σ H, Sat G0 H0 (Γi xs xs.length y) (Ωi xs xs.length y) σ H → wpS X rest D σ H) (hp : PassesOwn (model X.prog X.w) X.A X.env X.xe := by exact PassesOwn.never) (hcm : X.calm = true := by rfl) (hfs : ∀ x, foldedSetIterable it X.env x = pure x := by intro _; rfl) : wpS X (.For tg it body [] pos :: rest) D σ H := by
  let g : L2.TG := fun v σ H Q => ∃ xs i y x, xs[i]? = some x ∧ φ xs i y ∧ tGg (F x) (Γi xs i y) (Ωi xs i y) (Γt xs i y x) ts v σ H Q
  have hg : PG X tg g := ⟨fun pins s σ H v u Q I r ⟨xs, i, y, x, hx, hy, h⟩ => (ht xs i y x hx hy).run pins s σ H v u Q I r h⟩
  refine wp_cons (ps_for hp hcm hi hg pss_wp hfs) ?_
  refine ⟨G0, H0, hs, fun J G1 H1 g1 o1 ⟨xs, hxs, w⟩ => ?_⟩
  have gg := g1.gg
  refine ⟨fun i m σ H => i ≤ xs.length ∧ m = xs.length - i ∧ ∃ y, φ xs i y ∧ Sat G1 H0 (Γi xs i y) (Ωi xs i y) σ H, ⟨xs.length, Nat.zero_le _, rfl, h0 xs hxs G1 σ H1 ⟨G1, g1.self, o1⟩⟩, ?_⟩
  rintro i m σ H ⟨hi, rfl, y, py, sy⟩
  obtain ⟨G2, g2, o2⟩ := id sy
  have sm : Same G1 H := g2.g.trans o2.gh
  by_cases hl : i < xs.length
  · refine .inr ⟨w.goes i H hl sm, fun σ' H' => ∃ z, φ xs (i + 1) z ∧ Sat G1 H0 (Γi xs (i + 1) z) (Ωi xs (i + 1) z) σ' H', fun σ' H' h => ?_, fun v H' yl => ?_⟩
    rotate_left
    · have hx : xs[i]? = some xs[i] := by simp [hl]
      obtain ⟨G3, st, pv⟩ := w.yields i H v H' xs[i] G2 hx g2.g o2.gh yl
      refine ⟨xs, i, y, xs[i], hx, py, G3, H0, ⟨G3, (g2.step st).self, o2.step st, pv⟩, fun σ' G' H'' on g' o' => ?_⟩
      exact hb xs hxs G1 gg i y xs[i] hx py σ' H'' ⟨G', (g2.step st).trans g', o'⟩
    · obtain ⟨z, pz, sz⟩ := h
      exact ⟨xs.length - (i + 1), by omega, hl, rfl, z, pz, sz⟩
  · have e : i = xs.length := by omega
    subst e
    exact .inl ⟨w.stops H sm, hd xs hxs y py σ H (sy.low gg)⟩
/-- x += e, e's list known once it is there -/
theorem s_extE {β : Type} {ψ : β → Prop} {L : β → List VP} {x : Str} (hs : Sat G0 H0 Γ Ω σ H) (i j : Nat) (hi : Γ[i]? = some (some (vR a))) (hj : Ω[j]? = some (a, oL Ps)) (he : EG X Γ Ω e (vEx ψ fun y => vL (L y))) (hl : ∀ y, ψ y → Ps.length + (L y).length ≤ sizeLine) (k : ∀ y, ψ y → ∀ σ' H', Sat G0 H0 Γ (Ω.set j (a, oL (Ps ++ L y))) σ' H' → wpS X rest D σ' H') (hN : X.N.Nodup) (hx : X.N[i]? = some x := by rfl) (hloc : Loc X.env.scope x := by first | exact .inl rfl | exact .inr rfl)
    (hf : X.fn x = true ∨ X.env.scope.names.lookup x = some .local := by first | exact .inl rfl | exact .inr rfl) : wpS X (.AugAssign (.Name x pos') .Add e pos :: rest) D σ H := by
  refine wp_cons (ps_aug (ti := rExt2) hN hx hloc he (fun pins s σ H x y v u Q I rx ry h => iop_ext pins s σ H x y v u Q I rx ry h) hf) ?_
  obtain ⟨G, g, o⟩ := hs
  obtain ⟨v, hv, ev⟩ := o.im i _ hi
  have ev' : v = V.ref a := ev
  subst ev'
  refine ⟨_, hv, G0, H0, ⟨G, g, o⟩, fun y G1 H1 g1 o1 ⟨z, hz, b, us, e1, hb, q⟩ => ?_⟩
  obtain ⟨h0, _, u, h2, vs, rfl, h3⟩ := o1.ow _ (List.mem_of_getElem? hj)
  refine ⟨a, b, vs, us, rfl, e1, h2, o1.gh _ _ hb, by rw [← Paired.length h3, ← Paired.length q]; exact hl z hz, ?_⟩
  have e2 : σ.set i (some (V.ref a)) = σ := by
    refine List.ext_getElem? fun m => ?_
    by_cases hm : i = m
    · subst hm
      rw [List.getElem?_set_self (lt_of_some hv)]; exact hv.symm
    · rw [List.getElem?_set_ne hm]
  show wpS X rest D (σ.set i (some (V.ref a))) _
  rw [e2]
  exact k z hz σ _ ⟨G1, g1.put h0, o1.put hj ⟨_, rfl, PV.append h3 q⟩⟩
end
end Ow
namespace Ow
open PySem PySem.Spec PyProof.Rows L2
section
variable {X : Cx} {Γ : Cn} {Ω : Om} {G0 H0 H : Hp} {σ : L2.St} {D : Ends} {rest : List Stmt} {pos pos' : Pos} {b : Addr} {e o i c ea eb : Expr} {R R1 : OP} {Pk : VP} {k : Nat}
theorem ng_ifExp {t : Bool} (hc : TG X Γ Ω c t) (ha : t = true → NG X Γ Ω ea R) (hb : t = false → NG X Γ Ω eb R) : NG X Γ Ω (.IfExp c ea eb pos) R := by
  cases t with
  | true =>
    refine weak (pe_ifExp hc (ha rfl) (tb := fun _ _ _ => False) ⟨fun _ _ _ _ _ _ h => h.elim⟩) fun σ H Q ⟨G0, H0, s, w⟩ => ⟨G0, H0, s, fun G H' g o => ?_⟩
    show (if true = true then _ else _)
    rw [if_pos rfl]
    exact ⟨G, H0, ⟨G, g.self, o⟩, fun a G2 H2 g2 o2 => w a G2 H2 (g.trans g2) o2⟩
  | false =>
    refine weak (pe_ifExp hc (ta := fun _ _ _ => False) ⟨fun _ _ _ _ _ _ h => h.elim⟩ (hb rfl)) fun σ H Q ⟨G0, H0, s, w⟩ => ⟨G0, H0, s, fun G H' g o => ?_⟩
    show (if false = true then _ else _)
    rw [if_neg Bool.false_ne_true]
    exact ⟨G, H0, ⟨G, g.self, o⟩, fun a G2 H2 g2 o2 => w a G2 H2 (g.trans g2) o2⟩
/-- o[i] = a new thing -/
theorem s_dputN (hr : Room k X.A) (hs : Sat G0 H0 Γ Ω σ H) (j : Nat) (hj : Ω[j]? = some (b, R)) (R' : Addr → OP) (hp : ∀ a, DPuts vR a R Pk (R' a)) (he : NG X Γ Ω e R1) (ho : ∀ a, EG X Γ ((a, R1) :: Ω) o (vR b)) (hi : ∀ a, EG X Γ ((a, R1) :: Ω) i Pk) (kk : ∀ a H', Sat G0 H0 Γ ((a, R1) :: Ω.set j (b, R' a)) σ H' → wpS X rest D σ H')
    (hw : swapsWith e (some (.Subscript o i pos')) pos.line X.env = pure false := by rfl) : wpS X (.Assign [.Subscript o i pos'] e pos :: rest) D σ H := by
  have ho' : PE X o (fun σ H Q => ∃ a, tG Γ ((a, R1) :: Ω) (vR b) σ H Q) := ⟨fun pins s σ H Q I ⟨a, h⟩ => (ho a).run pins s σ H Q I h⟩
  have hi' : PE X i (fun σ H Q => ∃ a, tG Γ ((a, R1) :: Ω) Pk σ H Q) := ⟨fun pins s σ H Q I ⟨a, h⟩ => (hi a).run pins s σ H Q I h⟩
  refine wp_cons (ps_dput (hu_of hr) ho' hi' he hw) ⟨G0, H0, hs, fun a G1 H1 g1 o1 => ⟨a, G1, H0, ⟨G1, g1.self, o1⟩, fun x' G2 H2 g2 o2 q2 => ⟨a, G2, H0, ⟨G2, g2.self, o2⟩, fun y G3 H3 g3 o3 q3 => ?_⟩⟩⟩
  have e1 : x' = V.ref b := q2
  subst e1
  have hj' : ((a, R1) :: Ω)[j + 1]? = some (b, R) := by rw [List.getElem?_cons_succ]; exact hj
  obtain ⟨h0, _, u, h2, h3⟩ := o3.ow _ (List.mem_of_getElem? hj')
  obtain ⟨u', hd, hr'⟩ := (hp a).put (v := V.ref a) o3.gh h3 q3 rfl h2
  have := o3.put hj' hr'
  rw [List.set_cons_succ] at this
  exact ⟨b, _, rfl, hd, kk a _ ⟨G3, ((g1.trans g2).trans g3).put h0, this⟩⟩
/-- a, b = x, y with new things, the names of any kind -/
theorem s_asgNN {tg e1 e2 : Expr} {R1 R2 : OP} {Γ' : Addr → Addr → Cn} {ts : List Nat} {k2 pt2} (hs : Sat G0 H0 Γ Ω σ H) (h1 : NG X Γ Ω e1 R1) (h2 : ∀ a, NG X Γ ((a, R1) :: Ω) e2 R2) (hg : ∀ a b, TgG X tg (vT X.K [vR a, vR b]) Γ ((b, R2) :: (a, R1) :: Ω) (Γ' a b) ts) (k : ∀ a b σ' H', Sat G0 H0 (Γ' a b) ((b, R2) :: (a, R1) :: Ω) σ' H' → wpS X rest D σ' H')
    (w1 : swapsWithSole [tg] (.Tuple [e1, e2] k2 pt2) pos.line X.env = pure false := by rfl) (w2 : swappedStores [tg] (.Tuple [e1, e2] k2 pt2) X.env = pure none := by rfl)
    (w3 : (assignEach [tg] X.env).map (·.2) = [assign tg X.env] := by rfl) (hs1 : starEach [e1, e2] X.env = (false, eval e1 X.env) :: starEach [e2] X.env := by rfl) (hs2 : starEach [e2] X.env = (false, eval e2 X.env) :: starEach [] X.env := by rfl) : wpS X (.Assign [tg] (.Tuple [e1, e2] k2 pt2) pos :: rest) D σ H := by
  have h2' : PE X e2 (fun σ H Q => ∃ a G0 H0, Sat G0 H0 Γ ((a, R1) :: Ω) σ H ∧ ∀ b G H', Grow G0 H0 G H' → Ok H0 Γ ((b, R2) :: (a, R1) :: Ω) σ G H' → Q (.ref b) H') := ⟨fun pins s σ H Q I ⟨a, h⟩ => (h2 a).run pins s σ H Q I h⟩
  have hg' : PG X tg (fun v σ H Q => ∃ a b, tGg (vT X.K [vR a, vR b]) Γ ((b, R2) :: (a, R1) :: Ω) (Γ' a b) ts v σ H Q) := ⟨fun pins s σ H v u Q I r ⟨a, b, h⟩ => (hg a b).run pins s σ H v u Q I r h⟩
  refine wp_cons (ps_asg (pe_tup (pa_cons h1 (pa_cons h2' pa_nil hs2) hs1)) hg' w1 w2 w3) ⟨G0, H0, hs, fun a G H' g o => ⟨a, G, H0, ⟨G, g.self, o⟩, fun b G2 H2 g2 o2 => ⟨Nat.le_trans (by show 2 ≤ 30; decide) small30, fun p hp => ?_⟩⟩⟩
  have st := Step.new (o := .tup [.ref a, .ref b]) o2.gh hp
  exact ⟨a, b, _, H0, ⟨_, ((g.trans g2).step st).self, o2.step st, p, _, rfl, SqT.of upd_same, .cons rfl (.cons rfl .nil)⟩, fun σ' G' H'' _ g' o' => k a b σ' H'' ⟨G', ((g.trans g2).step st).trans g', o'⟩⟩
/-- all of these handed over -/
theorem Sat.pubs {ι : Type} {adr : ι → Addr} {f : ι → OP} : ∀ {ys : List ι} {G0 : Hp} {Ω2 : Om}, Sat G0 H0 Γ (ys.map (fun y => (adr y, f y)) ++ Ω2) σ H → ∃ G1, GG G0 H0 G1 ∧ (∀ y ∈ ys, ∃ o, G1 (adr y) = some o ∧ (f y).p o G1) ∧ Sat G1 H0 Γ Ω2 σ H
  | [], G0, Ω2, hs => ⟨G0, GG.refl, fun y h => (by cases h), hs⟩
  | y :: ys, G0, Ω2, hs => by
    obtain ⟨G1, o, gg, h1, h2, _, hs1⟩ := Sat.pubG 0 hs rfl
    obtain ⟨G2, gg2, h3, hs2⟩ := Sat.pubs (ys := ys) hs1
    refine ⟨G2, gg.trans gg2, fun z hz => ?_, hs2⟩
    rcases List.mem_cons.mp hz with rfl | hz
    · exact ⟨o, gg2.g _ _ h1, (f z).mono gg2.g h2⟩
    · exact h3 z hz
end
end Ow
namespace Ow
open PySem PySem.Spec PyProof.Rows L2
/-! ### a dict whose keys are nested tuples of texts and numbers -/
mutual
theorem nested_of_dp {X : Cx} {pins : List (Addr × Obj)} {σ : L2.St} {H : Hp} {s : Shared} (I : Inv X pins σ H s) : ∀ (k : NestedKey) (v : V) (u : Value), Dp X.K H v k.data → RelV v u → NestedIs s.heap k u
  | .none, v, u, h, r => by
    have h' : Dp X.K H v .none := h
    cases h'
    cases r
    exact .none
  | .num i, v, u, h, r => by
    have h' : Dp X.K H v (.int i) := h
    cases h'
    obtain ⟨t, rfl⟩ := r
    exact .int i t
  | .text x, v, u, h, r => by
    have h' : Dp X.K H v (.str x) := h
    cases h'
    obtain ⟨t, rfl⟩ := r
    exact .text x t
  | .tup ks, v, u, h, r => by
    have h' : Dp X.K H v (.tuple (NestedKey.datas ks)) := h
    cases h' with
    | tup hs ha =>
      cases r
      obtain ⟨its, rv, ⟨o, ho, hc, n, hd⟩, _⟩ := I.tuple hs
      exact .tup ho hc hd (nestedAll_of_dp I ks _ its ha rv)
theorem nestedAll_of_dp {X : Cx} {pins : List (Addr × Obj)} {σ : L2.St} {H : Hp} {s : Shared} (I : Inv X pins σ H s) : ∀ (ks : List NestedKey) (vs : List V) (us : List Value), DpAll X.K H vs (NestedKey.datas ks) → Vals vs us → NestedAll s.heap ks us
  | [], vs, us, h, r => by
    have h' : DpAll X.K H vs [] := h
    cases h'
    cases r
    exact .nil
  | k :: ks, vs, us, h, r => by
    have h' : DpAll X.K H vs (k.data :: NestedKey.datas ks) := h
    cases h' with
    | cons h1 h2 =>
      cases r with
      | cons r1 r2 => exact .cons (nested_of_dp I k _ _ h1 r1) (nestedAll_of_dp I ks _ _ h2 r2)
end
def WinF (P : Program) (w : World) (a : Addr) (xs : List (NestedKey × Addr × Value)) (h : Heap) : Prop :=
  (a == sysModules) = false ∧ xs.length ≤ sizeLine ∧ ∃ o es ep, h.get? a = some o ∧ o.ExactDict ∧ o.data = .dict es ep ∧ es.toList = xs.map (entryOfKey (nestedKind P w)) ∧ (xs.map (·.1)).Nodup
def WinO (P : Program) (w : World) (a : Addr) (xs : List (NestedKey × Addr × Value)) : HO := .ext (WinF P w a xs)
theorem winO_ok {P : Program} {w : World} {H : Hp} {h : Heap} {a : Addr} {xs : List (NestedKey × Addr × Value)} (f : WinF P w a xs h) : ObjOk P w H h a (WinO P w a xs) := by
  refine ⟨f, ?_, fun h1 h2 p k => ?_⟩
  · obtain ⟨_, _, o, es, ep, ho, _⟩ := f
    exact ⟨o, ho⟩
  · obtain ⟨z, zl, o, es, ep, ho, r⟩ := p
    exact ⟨z, zl, o, es, ep, k o ho, r⟩
/-- the keys, as data; the values -/
def WinX (K : PySem.W.Frag) (P : Program) (w : World) (a : Addr) (d : List (NestedKey × Nat)) (o : HO) (G : Hp) : Prop :=
  ∃ xs, o = WinO P w a xs ∧ Paired (fun (q : NestedKey × Nat) (x : NestedKey × Addr × Value) => x.1 = q.1 ∧ Dp K G (.ref x.2.1) q.1.data ∧ q.1.depth ≤ 8 ∧ RelV (.int (q.2 : Nat)) x.2.2) d xs
def oW (K : PySem.W.Frag) (P : Program) (w : World) (a : Addr) (d : List (NestedKey × Nat)) : OP := ⟨fun o G => WinX K P w a d o G, fun s ⟨xs, e, q⟩ => ⟨xs, e, Paired.mapP q fun _ _ ⟨e1, e2, e3, e4⟩ => ⟨e1, Dp.same s _ _ e2, e3, e4⟩⟩⟩
section
variable {X : Cx} {pins : List (Addr × Obj)} {σ : L2.St} {H G : Hp} {s : Shared} {a : Addr} {d : List (NestedKey × Nat)} {xs : List (NestedKey × Addr × Value)}
theorem keys_is (I : Inv X pins σ H s) (sm : Same G H) : ∀ {d : List (NestedKey × Nat)} {xs : List (NestedKey × Addr × Value)}, Paired (fun (q : NestedKey × Nat) (x : NestedKey × Addr × Value) => x.1 = q.1 ∧ Dp X.K G (.ref x.2.1) q.1.data ∧ q.1.depth ≤ 8 ∧ RelV (.int (q.2 : Nat)) x.2.2) d xs → ∀ x ∈ xs, (nestedKind X.prog X.w).is s.heap x.1 x.2.1
  | _, _, .nil, x, hx => by cases hx
  | _, _, .cons r t, x, hx => by
    rcases List.mem_cons.mp hx with rfl | hx
    · obtain ⟨e1, e2, e3, _⟩ := r
      rw [e1]
      exact ⟨nested_of_dp I _ _ _ (Dp.same sm _ _ e2) rfl, e3⟩
    · exact keys_is I sm t x hx
theorem win_at (I : Inv X pins σ H s) (sm : Same G H) (ha : H a = some (WinO X.prog X.w a xs)) (q : Paired (fun (q : NestedKey × Nat) (x : NestedKey × Addr × Value) => x.1 = q.1 ∧ Dp X.K G (.ref x.2.1) q.1.data ∧ q.1.depth ≤ 8 ∧ RelV (.int (q.2 : Nat)) x.2.2) d xs) : (a == sysModules) = false ∧ xs.length ≤ sizeLine ∧ s.heap.DictOfH (nestedKind X.prog X.w) a xs := by
  obtain ⟨⟨z, zl, o, es, ep, ho, h1, h2, h3, h4⟩, _⟩ := (show ObjOk X.prog X.w H s.heap a (WinO X.prog X.w a xs) from I.hok a _ ha)
  exact ⟨z, zl, o, es, ep, ho, h1, h2, h3, keys_is I sm q, h4⟩
theorem atKey_win : ∀ {d : List (NestedKey × Nat)} {xs : List (NestedKey × Addr × Value)} {k : NestedKey}, Paired (fun (q : NestedKey × Nat) (x : NestedKey × Addr × Value) => x.1 = q.1 ∧ Dp X.K G (.ref x.2.1) q.1.data ∧ q.1.depth ≤ 8 ∧ RelV (.int (q.2 : Nat)) x.2.2) d xs → (atKey xs k).isSome = (dG d k).isSome ∧ ∀ n, dG d k = some n → ∃ p, atKey xs k = some p ∧ RelV (.int (n : Nat)) p.2
  | [], xs, k, h => by
    cases h
    exact ⟨rfl, fun n e => by cases e⟩
  | q :: d, xs, k, h => by
    obtain ⟨x, xs', rfl, ⟨e1, e2, e3, e4⟩, t⟩ : ∃ x xs', xs = x :: xs' ∧ (x.1 = q.1 ∧ Dp X.K G (.ref x.2.1) q.1.data ∧ q.1.depth ≤ 8 ∧ RelV (.int (q.2 : Nat)) x.2.2) ∧ Paired (fun (q : NestedKey × Nat) (x : NestedKey × Addr × Value) => x.1 = q.1 ∧ Dp X.K G (.ref x.2.1) q.1.data ∧ q.1.depth ≤ 8 ∧ RelV (.int (q.2 : Nat)) x.2.2) d xs' := by
      cases h with | cons r t => exact ⟨_, _, rfl, r, t⟩
    have ih := atKey_win (k := k) t
    by_cases h : q.1 = k
    · have h' : x.1 = k := e1.trans h
      have a1 : atKey (x :: xs') k = some x.2 := by simp [atKey, h']
      have a2 : dG (q :: d) k = some q.2 := by simp [dG, h]
      rw [a1, a2]
      exact ⟨rfl, fun n e => ⟨x.2, rfl, by cases e; exact e4⟩⟩
    · have h' : ¬ x.1 = k := fun z => h (e1.symm.trans z)
      have a1 : atKey (x :: xs') k = atKey xs' k := by simp [atKey, h']
      have a2 : dG (q :: d) k = dG d k := by simp [dG, h]
      rw [a1, a2]; exact ih
end
section
variable {X : Cx} {Γ : Cn} {Ω : Om} {pos pos' : Pos} {a b c : Expr} {P : VP} {k : Nat} {w : Addr} {d : List (NestedKey × Nat)} {key : NestedKey}
theorem winPair {K : PySem.W.Frag} {P : Program} {wd : World} {G : Hp} {u : HO} (h : (oW K P wd w d).p u G) : ∃ xs, u = WinO P wd w xs ∧ Paired (fun (q : NestedKey × Nat) (x : NestedKey × Addr × Value) => x.1 = q.1 ∧ Dp K G (.ref x.2.1) q.1.data ∧ q.1.depth ≤ 8 ∧ RelV (.int (q.2 : Nat)) x.2.2) d xs := h
/-- key in windows -/
theorem tg_inW (hr : Room k X.A) (j : Nat) (hj : Ω[j]? = some (w, oW X.K X.prog X.w w d)) (hk : ∀ v G, P.p v G → ∃ t, v = .ref t ∧ Dp X.K G v key.data) (h8 : key.depth ≤ 8) (ha : EG X Γ Ω a P) (hb : EG X Γ Ω b (vR w)) (hm : behindInMarks .In b = false := by rfl) : TG X Γ Ω (.Compare a [.In] [b] pos) (dG d key).isSome := by
  have op : OpR X (compareOp .In) (fun y x H Q => ∃ t xs G, y = V.ref t ∧ x = V.ref w ∧ Same G H ∧ H w = some (WinO X.prog X.w w xs) ∧ Paired (fun (q : NestedKey × Nat) (x : NestedKey × Addr × Value) => x.1 = q.1 ∧ Dp X.K G (.ref x.2.1) q.1.data ∧ q.1.depth ≤ 8 ∧ RelV (.int (q.2 : Nat)) x.2.2) d xs ∧ Dp X.K H (.ref t) key.data ∧ Q (.bl (dG d key).isSome) H) := by
    rintro pins s σ H y x v u Q I ry rx ⟨t, xs, G, rfl, rfl, sm, hw, pd, hkey, q⟩
    obtain rfl : v = Value.ref t := ry
    obtain rfl : u = Value.ref w := rx
    obtain ⟨z, zl, dd⟩ := win_at I sm hw pd
    refine wpAny_in_heap (knd := nestedKind X.prog X.w) (k := key) (by show X.A.units + 1 + 8 < cLine; have := hr.units; omega) ⟨nested_of_dp I key _ _ hkey rfl, h8⟩ z dd ?_
    rw [(atKey_win (k := key) pd).1]
    exact ⟨.bl _, H, I.tok _, rfl, q⟩
  refine weakT (pt_cmpR op ha hb hm) fun σ H Q ⟨G0, H0, s, wk⟩ => ⟨G0, H0, s, fun y G1 H1 g1 o1 q1 => ⟨G1, H0, ⟨G1, g1.self, o1⟩, fun x G2 H2 g2 o2 q2 => ?_⟩⟩
  have e2 : x = V.ref w := q2
  obtain ⟨t, e1, hd⟩ := hk y G1 q1
  obtain ⟨_, _, u, h2, h3⟩ := o2.ow _ (List.mem_of_getElem? hj)
  obtain ⟨xs, eu, pd⟩ := winPair h3
  rw [e1] at hd
  exact ⟨t, xs, G2, e1, e2, o2.gh, by rw [← eu]; exact h2, pd, Dp.same (g2.g.trans o2.gh) _ _ hd, _, rfl, wk G2 H2 (g1.trans g2) o2⟩
/-- windows[key] -/
theorem eg_wget (hr : Room k X.A) (j : Nat) (hj : Ω[j]? = some (w, oW X.K X.prog X.w w d)) {n : Nat} (hn : dG d key = some n) (hk : ∀ v G, P.p v G → ∃ t, v = .ref t ∧ Dp X.K G v key.data) (h8 : key.depth ≤ 8) (hb : EG X Γ Ω b (vR w)) (ha : EG X Γ Ω a P) (hs : NoSl a := by exact fun _ _ => rfl) : EG X Γ Ω (.Subscript b a pos) (vIs (.int (n : Nat))) := by
  refine ⟨fun pins s σ H Q I h => ?_⟩
  obtain ⟨G0, H0, st, kk⟩ := h
  refine subD_of PySem.F.slot_dict_getitem.lookup hs (thn (hb.run pins s σ H (fun v H' => ∃ G, Grow G0 H0 G H' ∧ Ok H0 Γ Ω σ G H' ∧ v = V.ref w) I ⟨G0, H0, st, fun v G H' g o q => ⟨G, g, o, q⟩⟩) fun u s1 ⟨x, H1, I1, rx, G1, g1, o1, ex⟩ => thn (ha.run pins s1 σ H1 (fun v H' => ∃ G, Grow G1 H0 G H' ∧ Ok H0 Γ Ω σ G H' ∧ P.p v G) I1 ⟨G1, H0, ⟨G1, g1.self, o1⟩, fun v G H' g o q => ⟨G, g, o, q⟩⟩) fun iv s2 ⟨y, H2, I2, ry, G2, g2, o2, py⟩ => ?_)
  subst ex
  obtain rfl : u = Value.ref w := rx
  obtain ⟨t, e1, hd⟩ := hk y G2 py
  subst e1
  obtain rfl : iv = Value.ref t := ry
  obtain ⟨_, _, uo, h2, h3⟩ := o2.ow _ (List.mem_of_getElem? hj)
  obtain ⟨xs, eu, pd⟩ := winPair h3
  rw [eu] at h2
  obtain ⟨z, zl, dd⟩ := win_at I2 o2.gh h2 pd
  obtain ⟨p, hp, rp⟩ := (atKey_win (k := key) pd).2 n hn
  refine ⟨dd.typeIs, wpAny_getItem_heap (knd := nestedKind X.prog X.w) (k := key) (by show X.A.units + 1 + 8 < cLine; have := hr.units; omega) ⟨nested_of_dp I2 key _ _ (Dp.same o2.gh _ _ hd) rfl, h8⟩ dd hp ?_⟩
  exact ⟨_, H2, I2.tok _, rp, kk _ G2 H2 (g1.trans g2) o2 rfl⟩
variable {G0 H0 H : Hp} {σ : L2.St} {D : Ends} {rest : List Stmt}
/-- windows[key] = n, a new key -/
theorem s_wput (hr : Room k X.A) (hst : Sat G0 H0 Γ Ω σ H) (j : Nat) (hj : Ω[j]? = some (w, oW X.K X.prog X.w w d)) {n : Nat} (hn : dG d key = none) (hl : d.length < sizeLine) (hk : ∀ v G, P.p v G → ∃ t, v = .ref t ∧ Dp X.K G v key.data) (h8 : key.depth ≤ 8) (he : EG X Γ Ω c (vIs (.int (n : Nat)))) (hb : EG X Γ Ω b (vR w)) (ha : EG X Γ Ω a P) (kk : ∀ H', Sat G0 H0 Γ (Ω.set j (w, oW X.K X.prog X.w w (d ++ [(key, n)]))) σ H' → wpS X rest D σ H')
    (hw : swapsWith c (some (.Subscript b a pos')) pos.line X.env = pure false := by rfl) : wpS X (.Assign [.Subscript b a pos'] c pos :: rest) D σ H := by
  refine wp_cons (t := fun D σ H => ∃ G0 H0, Sat G0 H0 Γ Ω σ H ∧ ∀ H', Sat G0 H0 Γ (Ω.set j (w, oW X.K X.prog X.w w (d ++ [(key, n)]))) σ H' → D.nx σ H') ⟨fun pins s σ H D I h => ?_⟩ ⟨G0, H0, hst, kk⟩
  obtain ⟨G0, H0, st, kk⟩ := h
  refine wpAny_Assign_Subscript (thn (he.run pins s σ H (fun v H' => ∃ G, Grow G0 H0 G H' ∧ Ok H0 Γ Ω σ G H' ∧ v = V.int (n : Nat)) I ⟨G0, H0, st, fun v G H' g o q => ⟨G, g, o, q⟩⟩) fun r s0 ⟨v, Ha, Ia, rv, Ga, ga, oa, ev⟩ => thn (hb.run pins s0 σ Ha (fun v H' => ∃ G, Grow Ga H0 G H' ∧ Ok H0 Γ Ω σ G H' ∧ v = V.ref w) Ia ⟨Ga, H0, ⟨Ga, ga.self, oa⟩, fun v G H' g o q => ⟨G, g, o, q⟩⟩) fun u s1 ⟨x, H1, I1, rx, G1, g1, o1, ex⟩ => thn (ha.run pins s1 σ H1 (fun v H' => ∃ G, Grow G1 H0 G H' ∧ Ok H0 Γ Ω σ G H' ∧ P.p v G) I1 ⟨G1, H0, ⟨G1, g1.self, o1⟩, fun v G H' g o q => ⟨G, g, o, q⟩⟩) fun iv s2 ⟨y, H2, I2, ry, G2, g2, o2, py⟩ => ?_) hw
  subst ex ev
  obtain rfl : u = Value.ref w := rx
  obtain ⟨t, e1, hd⟩ := hk y G2 py
  subst e1
  obtain rfl : iv = Value.ref t := ry
  obtain ⟨h0, _, uo, h2, h3⟩ := o2.ow _ (List.mem_of_getElem? hj)
  obtain ⟨xs, eu, pd⟩ := winPair h3
  have h2' := h2
  rw [eu] at h2'
  obtain ⟨z, zl, dd⟩ := win_at I2 o2.gh h2' pd
  have hnone : atKey xs key = none := by
    have := (atKey_win (k := key) pd).1
    rw [hn] at this
    exact Option.isNone_iff_eq_none.mp (by cases e : atKey xs key <;> simp_all)
  refine wpAny_setItem_heap (knd := nestedKind X.prog X.w) (k := key) (by show X.A.units + 1 + 8 < cLine; have := hr.units; omega) ⟨nested_of_dp I2 key _ _ (Dp.same o2.gh _ _ hd) rfl, h8⟩ dd (fun h' dd' hs => ?_) (hsz := zl)
  rw [storedH_new hnone] at dd'
  have he' : ∃ q, h'.get? w = some q := let ⟨q, _, _, hq, _⟩ := dd'; ⟨q, hq⟩
  have hxl : xs.length = d.length := (Paired.length pd).symm
  have wf : WinF X.prog X.w w (xs ++ [(key, t, r)]) h' := by
    obtain ⟨o, es, ep, k1, k2, k3, k4, _, k6⟩ := dd'
    exact ⟨z, by rw [List.length_append]; show xs.length + 1 ≤ sizeLine; omega, o, es, ep, k1, k2, k3, k4, k6⟩
  have I3 := d_write (t' := s2.toks + (nestedKind X.prog X.w).draws key) (ob := WinO X.prog X.w w (xs ++ [(key, t, r)])) I2 (by rw [h2']; exact True.intro) hs he' (winO_ok wf)
  refine ⟨σ, _, I3, kk _ ⟨G2, ((ga.trans g1).trans g2).put h0, o2.put hj ⟨_, rfl, ?_⟩⟩⟩
  have snoc : ∀ {d : List (NestedKey × Nat)} {xs : List (NestedKey × Addr × Value)}, Paired (fun (q : NestedKey × Nat) (x : NestedKey × Addr × Value) => x.1 = q.1 ∧ Dp X.K G2 (.ref x.2.1) q.1.data ∧ q.1.depth ≤ 8 ∧ RelV (.int (q.2 : Nat)) x.2.2) d xs → Paired (fun (q : NestedKey × Nat) (x : NestedKey × Addr × Value) => x.1 = q.1 ∧ Dp X.K G2 (.ref x.2.1) q.1.data ∧ q.1.depth ≤ 8 ∧ RelV (.int (q.2 : Nat)) x.2.2) (d ++ [(key, n)]) (xs ++ [(key, t, r)]) := fun {d xs} h => by
    induction h with
    | nil => exact .cons ⟨rfl, hd, h8, rv⟩ .nil
    | cons r t ih => exact .cons r ih
  exact snoc pd
/-- {}, to be such a dict -/
theorem pe_dnewW : PE X (.Dict [] [] pos) (fun _ H Q => ∀ p, H p = none → Q (.ref p) (upd H p (WinO X.prog X.w p []))) := ⟨fun pins s σ H Q I h => by
  have hb := I.big
  have wf : WinF X.prog X.w s.heap.objs.size [] (s.heap.push { cls := .type "dict", data := .dict #[] }) :=
    ⟨beq_eq_false_iff_ne.mpr (Ne.symm (Nat.ne_of_lt hb)), Nat.zero_le _, _, #[], 0, Heap.get?_push_size _ rfl, ⟨rfl, rfl, rfl⟩, rfl, rfl, List.nodup_nil⟩
  exact wpAny_Dict_empty ⟨.ref s.heap.objs.size, _, I.laid (a := s.heap.objs.size) (o := WinO X.prog X.w s.heap.objs.size []) (t' := s.toks) (fun _ _ q => Heap.get?_push_of_some _ q) (Nat.le_refl _) (winO_ok wf), rfl, h _ (I.hok.fresh (Nat.le_refl _))⟩⟩
theorem s_newW (hs : Sat G0 H0 Γ Ω σ H) (i : Nat) {x : Str} (k : ∀ a σ' H', Sat G0 H0 (Γ.set i (some (vR a))) ((a, oW X.K X.prog X.w a []) :: Ω) σ' H' → wpS X rest D σ' H') (hN : X.N.Nodup) (hi : X.N[i]? = some x := by rfl) (hx : Loc X.env.scope x := by first | exact .inl rfl | exact .inr rfl)
    (hw : swapsWith (.Dict [] [] pos) (some (.Name x pos')) pos.line X.env = pure false := by rfl) (hf : X.fn x = true ∨ X.env.scope.names.lookup x = some .local := by first | exact .inl rfl | exact .inr rfl) {spos : Pos} (hw2 : swapsWith (.Dict [] [] pos) (some (.Name x pos')) spos.line X.env = pure false := by rfl) : wpS X (.Assign [.Name x pos'] (.Dict [] [] pos) spos :: rest) D σ H :=
  wp_cons (ps_set hN hi hx pe_dnewW hw2 hf) (fun p hp => by
    obtain ⟨G, g, o⟩ := hs
    exact k p _ _ ⟨G, g.new hp, (Ok.new (R := oW X.K X.prog X.w p []) o g.h hp ⟨[], rfl, .nil⟩).set rfl⟩)
end
end Ow
namespace Ow
open PySem PySem.Spec PyProof.Rows L2
/-! ### targets that change what is ours -/
def tGgM (P : VP) (Γ : Cn) (Ω : Om) (Γ' : Cn) (Ω' : Om) : L2.TG := fun v σ H Q => ∃ G0 H0, (∃ G, Grow G0 H0 G H ∧ Ok H0 Γ Ω σ G H ∧ P.p v G) ∧ ∀ σ' G' H', Grow G0 H0 G' H' → Ok H0 Γ' Ω' σ' G' H' → Q σ' H'
def tGgsM (Ps : List VP) (Γ : Cn) (Ω : Om) (Γ' : Cn) (Ω' : Om) : TGs := fun vs σ H Q => ∃ G0 H0, (∃ G, Grow G0 H0 G H ∧ Ok H0 Γ Ω σ G H ∧ PV Ps vs G) ∧ ∀ σ' G' H', Grow G0 H0 G' H' → Ok H0 Γ' Ω' σ' G' H' → Q σ' H'
abbrev TgM (X : Cx) (tg : Expr) (P : VP) (Γ : Cn) (Ω : Om) (Γ' : Cn) (Ω' : Om) : Prop := PG X tg (tGgM P Γ Ω Γ' Ω')
abbrev TgsM (X : Cx) (tg : List Expr) (Ps : List VP) (Γ : Cn) (Ω : Om) (Γ' : Cn) (Ω' : Om) : Prop := PGs X tg (tGgsM Ps Γ Ω Γ' Ω')
section
variable {X : Cx} {Γ Γ1 Γ2 : Cn} {Ω Ω1 Ω2 : Om} {P : VP} {Ps : List VP} {pos : Pos} {e o : Expr} {es : List Expr} {a C dx : Addr} {f : Str} {fs : List (Str × VP)}
theorem pg_fld {ta : TE} {K' : PySem.W.Frag} (hK : X.K = K') (ha : PE X o ta) : PG X (.Attribute o f pos) (fun v σ H Q => ta σ H fun x H1 => ∃ a C dx fs, x = .ref a ∧ H1 a = some (.ins C dx fs) ∧ Cls X.K C ∧ NoAttr X.K C f ∧ fs.length < 1000 ∧ Q σ (upd H1 a (.ins C dx (putF f v fs)))) := by
  refine ⟨fun pins s σ H v u Q I r h => ?_⟩
  rw [assign_Attribute]
  refine wpAny_bind (wpAny_holding (thn (ha.run pins s σ H _ I h) fun ov s1 ⟨x, H1, I1, r1, a, C, dx, fs, ex, ea, c, n, l, q⟩ => ?_))
  subst ex
  obtain rfl : ov = Value.ref a := r1
  refine wpAny_bind (wpAny_standAt (wpAny_bind (wpAny_holding ?_)))
  exact setattr_ok I1 ea c n l r fun s3 I3 => wpAny_release ⟨σ, _, I3, q⟩
theorem gtm_fld (j : Nat) (hj : Ω[j]? = some (a, oI C dx fs)) (ho : EG X Γ Ω o (vR a)) (c : Cls X.K C) (n : NoAttr X.K C f) (hl : fs.length < 1000) : TgM X (.Attribute o f pos) P Γ Ω Γ (Ω.set j (a, oI C dx (putG f P fs))) :=
  weakG (pg_fld rfl ho) fun v σ H Q ⟨G0, H0, ⟨G, g, ok, p⟩, k⟩ => ⟨G, H0, ⟨G, g.self, ok⟩, fun x G2 H2 g2 o2 q2 => by
    have e1 : x = V.ref a := q2
    subst e1
    obtain ⟨h0, _, u, h2, vs, rfl, h3⟩ := o2.ow _ (List.mem_of_getElem? hj)
    obtain ⟨ws, e5, pv⟩ := putF_zip (f := f) (P.mono g2.g p) h3
    refine ⟨a, C, dx, _, rfl, h2, c, n, ?_, ?_⟩
    · rw [List.length_zip, List.length_map]; omega
    · rw [e5]
      exact k _ _ _ ((g.trans g2).put h0) (o2.put hj ⟨ws, rfl, pv⟩)⟩
theorem gtms_nil : TgsM X [] [] Γ Ω Γ Ω := weakGs pgs_nil fun vs σ H Q ⟨G0, H0, ⟨G, g, o, p⟩, k⟩ => ⟨by cases p; rfl, k σ G H g o⟩
theorem gtms_cons (h1 : TgM X e P Γ Ω Γ1 Ω1) (h2 : TgsM X es Ps Γ1 Ω1 Γ2 Ω2) (hs : (assignEach (e :: es) X.env).map (·.2) = assign e X.env :: (assignEach es X.env).map (·.2) := by rfl) : TgsM X (e :: es) (P :: Ps) Γ Ω Γ2 Ω2 :=
  weakGs (pgs_cons h1 h2 hs) fun vs σ H Q ⟨G0, H0, ⟨G, g, o, p⟩, k⟩ => by
    cases p with
    | cons r t => exact ⟨_, _, rfl, G, H0, ⟨G, g.self, o, r⟩, fun σ1 G1 H1 g1 o1 => ⟨G1, H0, ⟨G1, g1.self, o1, PV.mono g1.g t⟩, fun σ2 G2 H2 g2 o2 => k σ2 G2 H2 ((g.trans g1).trans g2) o2⟩⟩
theorem gtm_tup {k : Nat} {n : Nat} (h : TgsM X es Ps Γ Ω Γ1 Ω1) (hc : X.calm = true := by rfl) (hl : Ps.length = n := by rfl) (hn : (assignEach es X.env).length = n := by rfl) (hst : (assignEach es X.env).findIdx? (·.1) = none := by rfl) : TgM X (.Tuple es k pos) (vT X.K Ps) Γ Ω Γ1 Ω1 :=
  weakG (pg_tup hc h hn hst) fun v σ H Q ⟨G0, H0, ⟨G, g, o, a, vs, e, hq, q⟩, k⟩ => ⟨a, vs, e, SqT.same o.gh hq, by rw [← Paired.length q]; exact hl, G0, H0, ⟨G, g, o, q⟩, k⟩
variable {G0 H0 H : Hp} {σ : L2.St} {D : Ends} {rest : List Stmt}
theorem s_asgT {tg : Expr} (hs : Sat G0 H0 Γ Ω σ H) (he : EG X Γ Ω e P) (hg : TgM X tg P Γ Ω Γ1 Ω1) (k : ∀ σ' H', Sat G0 H0 Γ1 Ω1 σ' H' → wpS X rest D σ' H') (h1 : swapsWithSole [tg] e pos.line X.env = pure false := by rfl) (h2 : swappedStores [tg] e X.env = pure none := by rfl)
    (h3 : (assignEach [tg] X.env).map (·.2) = [assign tg X.env] := by rfl) : wpS X (.Assign [tg] e pos :: rest) D σ H :=
  wp_cons (ps_asg he hg h1 h2 h3) ⟨G0, H0, hs, fun v G H' g o q => ⟨G, H0, ⟨G, g.self, o, q⟩, fun σ' G' H'' g' o' => k σ' H'' ⟨G', g.trans g', o'⟩⟩⟩
/-- o.f = a new thing -/
theorem s_fldN {R : OP} {pos' : Pos} (hs : Sat G0 H0 Γ Ω σ H) (j : Nat) (hj : Ω[j]? = some (a, oI C dx fs)) (he : NG X Γ Ω e R) (ho : ∀ b, EG X Γ ((b, R) :: Ω) o (vR a)) (c : Cls X.K C) (n : NoAttr X.K C f) (hl : fs.length < 1000) (k : ∀ b H', Sat G0 H0 Γ ((b, R) :: Ω.set j (a, oI C dx (putG f (vR b) fs))) σ H' → wpS X rest D σ H')
    (hw : swapsWith e (some (.Attribute o f pos')) pos.line X.env = pure false := by rfl) : wpS X (.Assign [.Attribute o f pos'] e pos :: rest) D σ H := by
  have ho' : PE X o (fun σ H Q => ∃ b, tG Γ ((b, R) :: Ω) (vR a) σ H Q) := ⟨fun pins s σ H Q I ⟨b, h⟩ => (ho b).run pins s σ H Q I h⟩
  refine wp_cons (ps_fld ho' he hw) ⟨G0, H0, hs, fun b G1 H1 g1 o1 => ⟨b, G1, H0, ⟨G1, g1.self, o1⟩, fun x G2 H2 g2 o2 q2 => ?_⟩⟩
  have e1 : x = V.ref a := q2
  subst e1
  have hj' : ((b, R) :: Ω)[j + 1]? = some (a, oI C dx fs) := by rw [List.getElem?_cons_succ]; exact hj
  obtain ⟨h0, _, u, h2, vs, rfl, h3⟩ := o2.ow _ (List.mem_of_getElem? hj')
  obtain ⟨ws, e5, pv⟩ := putF_zip (f := f) (P := vR b) (v := V.ref b) (G := G2) rfl h3
  refine ⟨a, C, dx, _, rfl, h2, c, n, ?_, ?_⟩
  · rw [List.length_zip, List.length_map]; omega
  · rw [e5]
    have := o2.put hj' (R' := oI C dx (putG f (vR b) fs)) ⟨ws, rfl, pv⟩
    rw [List.set_cons_succ] at this
    exact k b _ ⟨G2, (g1.trans g2).put h0, this⟩
end
end Ow
namespace Ow
open PySem PySem.Spec PyProof.Rows L2
/-! ### making an instance whose attributes are known only once they are there -/
def PiE {α β : Type} (C : Addr) (φ : α → Prop) (A : α → List VP) (ψ : α → β → Prop) (fs : β → List (Str × VP)) : Sp := fun vs H Q E => ∃ y x dx us G, φ y ∧ vs = .ref x :: us ∧ Same G H ∧ G x = none ∧ H x = some (.ins C dx []) ∧ PV (A y) us G ∧
  ∀ z ws G' H', ψ y z → Grow G (rmv H x) G' H' → Same G' H' → G' x = none → H' x = some (.ins C dx (((fs z).map Prod.fst).zip ws)) → PV ((fs z).map Prod.snd) ws G' → Q .non H'
section
variable {P : Program} {w : World} {K : PySem.W.Frag} {mg : Str → Option Value} {base : Heap} {x qual : Str} {params : Arguments} {body : List Stmt} {scope : Scope} {dvs : List V} {kws : List (Str × V)} {f : Addr} {fd : FuncData} {N ps : List Str} {k : Nat} {α β : Type} {φ : α → Prop} {A : α → List VP} {ψ : α → β → Prop} {fs : β → List (Str × VP)} {C : Addr}
theorem fn_pie (F : FunD K x qual params body scope dvs kws f fd) (S : FnScope N ps scope) (hl : ∀ y, φ y → (A y).length + 1 = ps.length)
    (hb : ∀ (cdv : Value) (Ar : Around) (outer : List Env) (s : Shared) (H0 H : Hp) (E : XK) (y : α) (G : Hp) (D : L2.St → Hp → Prop) (σ : L2.St) (a dx : Addr), Room k (Ar.deeper (envOfC qual scope s.heap.objs.size f cdv)) → φ y → Sat G H0 (stC N (vR a :: A y)) [(a, oI C dx [])] σ H →
      (∀ z Γ' σ' G1 H', ψ y z → GG G H0 G1 → Sat G1 H0 Γ' [(a, oI C dx (fs z))] σ' H' → D σ' H') → ∀ rt, wpS (bodyX P w K mg base N qual scope f cdv Ar outer s H E) body { nx := D, rt := rt } σ H) : FnOk P w K mg base CX0 (k + 1) f fd ps (PiE C φ A ψ fs) := by
  refine F.ok S (fun vs H Q E h => ?_) (fun cdv Ar outer s H vs Q E hr h => ⟨_, PSs.nox pss_wp, ?_⟩)
  · obtain ⟨y, x, dx, us, G, hy, rfl, _, _, _, q, _⟩ := h
    rw [List.length_cons, ← Paired.length q]; exact hl y hy
  · obtain ⟨y, x, dx, us, G, hy, rfl, sm, hGx, hHx, q, kk⟩ := h
    have s1 : Same G (rmv H x) := fun b o e => by
      rw [rmv_ne (ne_of_none e hGx)]; exact sm _ _ e
    refine hb cdv Ar outer s (rmv H x) H E y G _ _ x dx hr hy ⟨G, ⟨Same.refl _, rmv_sub, fun _ _ _ n => n⟩, ?_⟩ ?_ _
    · have o := start_ok (N := N) (A := vR x :: A y) (vs := .ref x :: us) (H0 := rmv H x) sm (.cons rfl q)
      refine ⟨o.gh, o.len, o.im, fun r hr => ?_, by simp⟩
      have e := List.mem_singleton.mp hr
      subst e
      exact ⟨rmv_self, hGx, _, hHx, [], rfl, .nil⟩
    · rintro z Γ' σ' G1 H' hz gg ⟨G', g, o⟩
      obtain ⟨h0, h1, u, h2, vs, rfl, h3⟩ := o.ow _ List.mem_cons_self
      exact kk z vs G' H' hz (gg.low g) o.gh h1 h2 h3
structure FIE (P : Program) (w : World) (K : PySem.W.Frag) (mg : Str → Option Value) (base : Heap) (k : Nat) (C : Addr) (x : Str) {α β : Type} (φ : α → Prop) (A : α → List VP) (ψ : α → β → Prop) (fs : β → List (Str × VP)) : Prop where
  ex : ∃ f fd ps, FnOk P w K mg base CX0 k f fd ps (PiE C φ A ψ fs) ∧ mg x = some (.ref C) ∧ Mk K C f ∧ Binds K fd ps []
end
section
variable {X : Cx} {Γ Γ' : Cn} {Ω : Om} {pos p : Pos} {e o : Expr} {es : List Expr} {As : List VP} {x : Str} {k j : Nat} {α β : Type} {φ : α → Prop} {A : α → List VP} {ψ : α → β → Prop} {fs : β → List (Str × VP)} {C : Addr}
theorem eg_makeE (F : FIE X.prog X.w X.K X.mg X.base j C x φ A ψ fs) (hr : Room k X.A) (hk : j + 1 ≤ k) (y : α) (hy : φ y) (ha : AG X Γ Ω (e :: es) (A y)) (hg : Gl X x := by rfl)
    (hdb : (x == ("__debug__" : Str)) = false := by decide) (he : starEach (e :: es) X.env = (false, eval e X.env) :: starEach es X.env := by rfl) (hpl : (backTo pos (starEach es X.env)).any (·.1) = false := by rfl) : EG X Γ Ω (.Call (.Name x p) (e :: es) [] pos) (vEx (ψ y) fun z => vO C (fs z)) := by
  obtain ⟨f, fd, ps, ok, hm, mk, hb⟩ := F.ex
  refine weak (pe_make (E := E0) mk ok (hr.mono hk) hg hm hb .nil pass0 ha hdb he hpl) fun σ H Q ⟨G0, H0, s, k⟩ => ⟨G0, H0, s, fun vs G1 H1 g1 o1 q1 a dx hA hdx hne => ?_⟩
  have sH : Same H1 (rmv (upd (upd H1 dx (.own a)) a (.ins C dx [])) a) := fun b u e => by
    have hb : b ≠ a := ne_of_none e hA
    rw [rmv_ne hb, upd_ne hb, upd_ne (ne_of_none e hdx)]; exact e
  have sG : Same G1 (upd (upd H1 dx (.own a)) a (.ins C dx [])) := o1.gh.trans (sH.trans rmv_sub)
  refine ⟨y, a, dx, vs, G1, hy, by rw [List.append_nil], sG, o1.gh.free hA, upd_same, q1, fun z ws G' H' hz g s' hx hx' pv => ⟨rfl, ?_⟩⟩
  have sm : Same G' (upd G' a (.ins C dx (((fs z).map Prod.fst).zip ws))) := fun b u e => by rw [upd_ne (ne_of_none e hx)]; exact e
  have st : Step G1 H1 (upd G' a (.ins C dx (((fs z).map Prod.fst).zip ws))) H' := by
    refine ⟨g.g.trans sm, sH.trans g.h, fun b u e => ?_, fun b u e n => ?_⟩
    · by_cases hb : b = a
      · subst hb; rw [upd_same] at e; rw [hx']; exact e
      · rw [upd_ne hb] at e; exact s' _ _ e
    · rw [upd_ne (ne_of_none e hA)]
      exact g.out b u (sH _ _ e) n
  exact k _ _ H' (g1.step st) (o1.step st) ⟨z, hz, a, dx, ws, rfl, upd_same, PV.mono sm pv⟩
/-- o.append(e), e known once it is there -/
theorem s_appE {γ : Type} {χ : γ → Prop} {F : γ → VP} {Ps : List VP} {a : Addr} {G0 H0 H : Hp} {σ : L2.St} {D : Ends} {rest : List Stmt} {apos cpos epos : Pos} (j : Nat) (hs : Sat G0 H0 Γ Ω σ H) (hj : Ω[j]? = some (a, oL Ps)) (hl : Ps.length < sizeLine) (ho : EG X Γ Ω o (vR a)) (he : EG X Γ Ω e (vEx χ F)) (k : ∀ z, χ z → ∀ H', Sat G0 H0 Γ (Ω.set j (a, oL (Ps ++ [F z]))) σ H' → wpS X rest D σ H')
    (hbase : attributeBase o "append" X.env (eval o X.env) = eval o X.env := by rfl) (hline : (apos.endLine == cpos.line) = true := by rfl) (h1 : starEach [e] X.env = (false, eval e X.env) :: starEach [] X.env := by rfl)
    (hfew : ((backTo cpos (starEach [e] X.env)).all (fun x => !x.1) && (backToKw cpos (keywordEach [] X.env)).all (fun x => x.1.isSome) && decide ([e].length + ([] : List Keyword).length + (if ([] : List Keyword).isEmpty then 0 else 1) < 30)) = true := by rfl)
    (hpl : (backTo cpos (starEach [] X.env)).any (·.1) = false := by rfl) (hw : swapsWith (.Call (.Attribute o "append" apos) [e] [] cpos) none epos.line X.env = pure false := by rfl) : wpS X (.Expr (.Call (.Attribute o "append" apos) [e] [] cpos) epos :: rest) D σ H := by
  refine wp_cons (ps_expr (pe_bm PySem.F.plainAttrs_list PySem.F.slot_list_append PySem.F.type_list_append mt_append ho (pa_cons he pa_nil h1) hbase hfew hline h1 hpl) hw) ?_
  refine ⟨G0, H0, hs, fun x G1 H1 g1 o1 q1 => ?_⟩
  have e1 : x = V.ref a := q1
  subst e1
  have hm : (a, oL Ps) ∈ Ω := List.mem_of_getElem? hj
  refine ⟨?_, ?_⟩
  · obtain ⟨_, _, u, h2, vs, rfl, _⟩ := o1.ow _ hm
    exact .inl ⟨rfl, vs, SqL.of h2⟩
  · refine ⟨G1, H0, ⟨G1, g1.self, o1⟩, fun y G2 H2 g2 o2 ⟨z, hz, q2⟩ => ?_⟩
    obtain ⟨h0, _, u, h2, vs, rfl, h3⟩ := o2.ow _ hm
    refine ⟨a, vs, y, rfl, rfl, h2, by rw [← Paired.length h3]; exact hl, ?_⟩
    exact k z hz _ ⟨G2, (g1.trans g2).put h0, o2.put hj ⟨_, rfl, PV.append h3 (.cons q2 .nil)⟩⟩
theorem mut_W {K : PySem.W.Frag} {P : Program} {w : World} {a : Addr} {d : List (NestedKey × Nat)} {Ω : Om} (h : ∀ q ∈ Ω, ∀ o G, q.2.p o G → isMut o = true) : ∀ q ∈ (a, oW K P w a d) :: Ω, ∀ o G, q.2.p o G → isMut o = true := fun q hq o G p => by
  rcases List.mem_cons.mp hq with rfl | hq
  · obtain ⟨vs, rfl, _⟩ := p; rfl
  · exact h q hq o G p
/-- an instance of ours whose first attribute is a list of ours, read -/
theorem bc_self {a b dx : Addr} {C : Addr} {f : Str} {Ps : List VP} {fs : List (Str × VP)} {Γ Γ' : Cn} (hI : (a, oI C dx ((f, vR b) :: fs)) ∈ Ω) (hL : (b, oL Ps) ∈ Ω) (t : BC Ω Γ Γ') : BC Ω (some (vR a) :: Γ) (some (vO C ((f, vL Ps) :: fs)) :: Γ') :=
  .to (fun v G H hΩ s e => by
    obtain ⟨o, h1, vs, rfl, h2⟩ := hΩ _ hI
    obtain ⟨o2, h3, us, rfl, h4⟩ := hΩ _ hL
    cases h2 with
    | cons r q =>
      have r' : _ = V.ref b := r
      exact ⟨a, dx, _, e, h1, .cons ⟨b, us, r', h3, h4⟩ q⟩) t
end
end Ow
namespace Ow
open PySem PySem.Spec PyProof.Rows L2
section
variable {X : Cx} {Γ : Cn} {Ω : Om} {G0 H0 H : Hp} {σ : L2.St} {D : Ends} {rest : List Stmt} {pos pos' : Pos} {b a C dx : Addr} {e o i e1 e2 e3 tg : Expr} {R R1 R2 : OP} {Pk : VP} {k : Nat} {γ : Type} {χ : γ → Prop} {F : γ → VP} {f : Str} {fs : List (Str × VP)}
/-- o[i] = e, e known once it is there -/
theorem s_dputE {R' : γ → OP} (hr : Room k X.A) (hs : Sat G0 H0 Γ Ω σ H) (j : Nat) (hj : Ω[j]? = some (b, R)) (hp : ∀ z, χ z → DPuts F z R Pk (R' z)) (he : EG X Γ Ω e (vEx χ F)) (ho : EG X Γ Ω o (vR b)) (hi : EG X Γ Ω i Pk) (kk : ∀ z, χ z → ∀ H', Sat G0 H0 Γ (Ω.set j (b, R' z)) σ H' → wpS X rest D σ H')
    (hw : swapsWith e (some (.Subscript o i pos')) pos.line X.env = pure false := by rfl) : wpS X (.Assign [.Subscript o i pos'] e pos :: rest) D σ H := by
  refine wp_cons (ps_dput (hu_of hr) ho hi he hw) ⟨G0, H0, hs, fun v G1 H1 g1 o1 ⟨z, hz, q1⟩ => ⟨G1, H0, ⟨G1, g1.self, o1⟩, fun x' G2 H2 g2 o2 q2 => ⟨G2, H0, ⟨G2, g2.self, o2⟩, fun y G3 H3 g3 o3 q3 => ?_⟩⟩⟩
  have e1 : x' = V.ref b := q2
  subst e1
  obtain ⟨h0, _, u, h2, h3⟩ := o3.ow _ (List.mem_of_getElem? hj)
  obtain ⟨u', hd, hr'⟩ := (hp z hz).put o3.gh h3 q3 ((F z).mono (g2.g.trans g3.g) q1) h2
  exact ⟨b, _, rfl, hd, kk z hz _ ⟨G3, ((g1.trans g2).trans g3).put h0, o3.put hj hr'⟩⟩
/-- self.f = e, e known once it is there -/
theorem s_fldE (hs : Sat G0 H0 Γ Ω σ H) (j : Nat) (hj : Ω[j]? = some (a, oI C dx fs)) (he : EG X Γ Ω e (vEx χ F)) (ho : EG X Γ Ω o (vR a)) (c : Cls X.K C) (n : NoAttr X.K C f) (hl : fs.length < 1000) (kk : ∀ z, χ z → ∀ H', Sat G0 H0 Γ (Ω.set j (a, oI C dx (putG f (F z) fs))) σ H' → wpS X rest D σ H')
    (hw : swapsWith e (some (.Attribute o f pos')) pos.line X.env = pure false := by rfl) : wpS X (.Assign [.Attribute o f pos'] e pos :: rest) D σ H := by
  refine wp_cons (ps_fld ho he hw) ⟨G0, H0, hs, fun v G1 H1 g1 o1 ⟨z, hz, q1⟩ => ⟨G1, H0, ⟨G1, g1.self, o1⟩, fun x G2 H2 g2 o2 q2 => ?_⟩⟩
  have e1 : x = V.ref a := q2
  subst e1
  obtain ⟨h0, _, u, h2, vs, rfl, h3⟩ := o2.ow _ (List.mem_of_getElem? hj)
  obtain ⟨ws, e5, pv⟩ := putF_zip (f := f) ((F z).mono g2.g q1) h3
  refine ⟨a, C, dx, _, rfl, h2, c, n, ?_, ?_⟩
  · rw [List.length_zip, List.length_map]; omega
  · rw [e5]
    exact kk z hz _ ⟨G2, (g1.trans g2).put h0, o2.put hj ⟨ws, rfl, pv⟩⟩
/-- a, b, c = two new things and one that is known once it is there -/
theorem s_asgNNE {Γ' : Addr → Addr → γ → Cn} {Ω' : Addr → Addr → γ → Om} {k2 pt2} (hs : Sat G0 H0 Γ Ω σ H) (h1 : NG X Γ Ω e1 R1) (h2 : ∀ a, NG X Γ ((a, R1) :: Ω) e2 R2) (h3 : ∀ a b, EG X Γ ((b, R2) :: (a, R1) :: Ω) e3 (vEx χ F))
    (hg : ∀ a b z, TgM X tg (vT X.K [vR a, vR b, F z]) Γ ((b, R2) :: (a, R1) :: Ω) (Γ' a b z) (Ω' a b z)) (kk : ∀ a b z, χ z → ∀ σ' H', Sat G0 H0 (Γ' a b z) (Ω' a b z) σ' H' → wpS X rest D σ' H')
    (w1 : swapsWithSole [tg] (.Tuple [e1, e2, e3] k2 pt2) pos.line X.env = pure false := by rfl) (w2 : swappedStores [tg] (.Tuple [e1, e2, e3] k2 pt2) X.env = pure none := by rfl)
    (w3 : (assignEach [tg] X.env).map (·.2) = [assign tg X.env] := by rfl) (hs1 : starEach [e1, e2, e3] X.env = (false, eval e1 X.env) :: starEach [e2, e3] X.env := by rfl) (hs2 : starEach [e2, e3] X.env = (false, eval e2 X.env) :: starEach [e3] X.env := by rfl) (hs3 : starEach [e3] X.env = (false, eval e3 X.env) :: starEach [] X.env := by rfl) : wpS X (.Assign [tg] (.Tuple [e1, e2, e3] k2 pt2) pos :: rest) D σ H := by
  have h2' : PE X e2 (fun σ H Q => ∃ a G0 H0, Sat G0 H0 Γ ((a, R1) :: Ω) σ H ∧ ∀ b G H', Grow G0 H0 G H' → Ok H0 Γ ((b, R2) :: (a, R1) :: Ω) σ G H' → Q (.ref b) H') := ⟨fun pins s σ H Q I ⟨a, h⟩ => (h2 a).run pins s σ H Q I h⟩
  have h3' : PE X e3 (fun σ H Q => ∃ a b, tG Γ ((b, R2) :: (a, R1) :: Ω) (vEx χ F) σ H Q) := ⟨fun pins s σ H Q I ⟨a, b, h⟩ => (h3 a b).run pins s σ H Q I h⟩
  have hg' : PG X tg (fun v σ H Q => ∃ a b z, tGgM (vT X.K [vR a, vR b, F z]) Γ ((b, R2) :: (a, R1) :: Ω) (Γ' a b z) (Ω' a b z) v σ H Q) := ⟨fun pins s σ H v u Q I r ⟨a, b, z, h⟩ => (hg a b z).run pins s σ H v u Q I r h⟩
  refine wp_cons (ps_asg (pe_tup (pa_cons h1 (pa_cons h2' (pa_cons h3' pa_nil hs3) hs2) hs1)) hg' w1 w2 w3) ⟨G0, H0, hs, fun a G H' g o => ⟨a, G, H0, ⟨G, g.self, o⟩, fun b G2 H2 g2 o2 => ⟨a, b, G2, H0, ⟨G2, g2.self, o2⟩, fun v G3 H3 g3 o3 ⟨z, hz, q⟩ => ⟨Nat.le_trans (by show 3 ≤ 30; decide) small30, fun p hp => ?_⟩⟩⟩⟩
  have st := Step.new (o := .tup [.ref a, .ref b, v]) o3.gh hp
  have gg := ((g.trans g2).trans g3).step st
  exact ⟨a, b, z, _, H0, ⟨_, gg.self, o3.step st, p, _, rfl, SqT.of upd_same, .cons rfl (.cons rfl (.cons ((F z).mono st.g q) .nil))⟩, fun σ' G' H'' g' o' => kk a b z hz σ' H'' ⟨G', gg.trans g', o'⟩⟩
end
end Ow
namespace Ow
open PySem PySem.Spec PyProof.Rows L2 He
abbrev n_is_integer : List Str := ["value"]
abbrev p_is_integer : List Str := ["value"]
theorem sc_is_integer : FnScope n_is_integer p_is_integer (defScope s_is_integer) := ⟨rfl, rfl, rfl, by decide +kernel, rfl, by decide +kernel, by decide +kernel⟩
abbrev n_is_name : List Str := ["value", "sign"]
abbrev p_is_name : List Str := ["value"]
theorem sc_is_name : FnScope n_is_name p_is_name (defScope s_is_name) := ⟨rfl, rfl, rfl, by decide +kernel, rfl, by decide +kernel, by decide +kernel⟩
abbrev n_check_numbers : List Str := ["value", "index", "number"]
abbrev p_check_numbers : List Str := ["value"]
theorem sc_check_numbers : FnScope n_check_numbers p_check_numbers (defScope s_check_numbers) := ⟨rfl, rfl, rfl, by decide +kernel, rfl, by decide +kernel, by decide +kernel⟩
abbrev n_least_period : List Str := ["flags", "start", "period", "size", "ahead", "k"]
abbrev p_least_period : List Str := ["flags", "start", "period"]
theorem sc_least_period : FnScope n_least_period p_least_period (defScope s_least_period) := ⟨rfl, rfl, rfl, by decide +kernel, rfl, by decide +kernel, by decide +kernel⟩
abbrev n_least_form : List Str := ["flags", "start", "period", "size"]
abbrev p_least_form : List Str := ["flags", "start", "period"]
theorem sc_least_form : FnScope n_least_form p_least_form (defScope s_least_form) := ⟨rfl, rfl, rfl, by decide +kernel, rfl, by decide +kernel, by decide +kernel⟩
abbrev n_flags_of : List Str := ["single", "again", "start", "period", "flags", "number", "k"]
abbrev p_flags_of : List Str := ["single", "again", "start", "period"]
theorem sc_flags_of : FnScope n_flags_of p_flags_of (defScope s_flags_of) := ⟨rfl, rfl, rfl, by decide +kernel, rfl, by decide +kernel, by decide +kernel⟩
abbrev n_flag_at : List Str := ["form", "k", "start", "period", "flags"]
abbrev p_flag_at : List Str := ["form", "k"]
theorem sc_flag_at : FnScope n_flag_at p_flag_at (defScope s_flag_at) := ⟨rfl, rfl, rfl, by decide +kernel, rfl, by decide +kernel, by decide +kernel⟩
abbrev n_lags_with : List Str := ["form"]
abbrev p_lags_with : List Str := ["form"]
theorem sc_lags_with : FnScope n_lags_with p_lags_with (defScope s_lags_with) := ⟨rfl, rfl, rfl, by decide +kernel, rfl, by decide +kernel, by decide +kernel⟩
abbrev n_common_multiple : List Str := ["one", "other", "greater", "lesser"]
abbrev p_common_multiple : List Str := ["one", "other"]
theorem sc_common_multiple : FnScope n_common_multiple p_common_multiple (defScope s_common_multiple) := ⟨rfl, rfl, rfl, by decide +kernel, rfl, by decide +kernel, by decide +kernel⟩
abbrev n_both_ends : List Str := ["one", "other"]
abbrev p_both_ends : List Str := ["one", "other"]
theorem sc_both_ends : FnScope n_both_ends p_both_ends (defScope s_both_ends) := ⟨rfl, rfl, rfl, by decide +kernel, rfl, by decide +kernel, by decide +kernel⟩
abbrev n_form_left : List Str := ["one", "other", "start", "period", "flags", "k"]
abbrev p_form_left : List Str := ["one", "other"]
theorem sc_form_left : FnScope n_form_left p_form_left (defScope s_form_left) := ⟨rfl, rfl, rfl, by decide +kernel, rfl, by decide +kernel, by decide +kernel⟩
abbrev n_lags_of : List Str := ["members", "start", "period"]
abbrev p_lags_of : List Str := ["members", "start", "period"]
theorem sc_lags_of : FnScope n_lags_of p_lags_of (defScope s_lags_of) := ⟨rfl, rfl, rfl, by decide +kernel, rfl, by decide +kernel, by decide +kernel⟩
abbrev n_left_of : List Str := ["lags", "others"]
abbrev p_left_of : List Str := ["lags", "others"]
theorem sc_left_of : FnScope n_left_of p_left_of (defScope s_left_of) := ⟨rfl, rfl, rfl, by decide +kernel, rfl, by decide +kernel, by decide +kernel⟩
abbrev n_check_name : List Str := ["value"]
abbrev p_check_name : List Str := ["value"]
theorem sc_check_name : FnScope n_check_name p_check_name (defScope s_check_name) := ⟨rfl, rfl, rfl, by decide +kernel, rfl, by decide +kernel, by decide +kernel⟩
abbrev n_check_flag : List Str := ["value"]
abbrev p_check_flag : List Str := ["value"]
theorem sc_check_flag : FnScope n_check_flag p_check_flag (defScope s_check_flag) := ⟨rfl, rfl, rfl, by decide +kernel, rfl, by decide +kernel, by decide +kernel⟩
abbrev n_check_stations : List Str := ["stations", "names", "index", "station"]
abbrev p_check_stations : List Str := ["stations"]
theorem sc_check_stations : FnScope n_check_stations p_check_stations (defScope s_check_stations) := ⟨rfl, rfl, rfl, by decide +kernel, rfl, by decide +kernel, by decide +kernel⟩
abbrev n_check_links : List Str := ["links", "names", "index", "link"]
abbrev p_check_links : List Str := ["links", "names"]
theorem sc_check_links : FnScope n_check_links p_check_links (defScope s_check_links) := ⟨rfl, rfl, rfl, by decide +kernel, rfl, by decide +kernel, by decide +kernel⟩
abbrev n_check_line : List Str := ["value"]
abbrev p_check_line : List Str := ["value"]
theorem sc_check_line : FnScope n_check_line p_check_line (defScope s_check_line) := ⟨rfl, rfl, rfl, by decide +kernel, rfl, by decide +kernel, by decide +kernel⟩
abbrev n_ends_of : List Str := ["line", "places", "index", "name", "link"]
abbrev p_ends_of : List Str := ["line"]
theorem sc_ends_of : FnScope n_ends_of p_ends_of (defScope s_ends_of) := ⟨rfl, rfl, rfl, by decide +kernel, rfl, by decide +kernel, by decide +kernel⟩
abbrev n_rings_from : List Str := ["ends", "begin", "found", "waiting", "ring", "seen", "index", "source", "target"]
abbrev p_rings_from : List Str := ["ends", "begin"]
theorem sc_rings_from : FnScope n_rings_from p_rings_from (defScope s_rings_from) := ⟨rfl, rfl, rfl, by decide +kernel, rfl, by decide +kernel, by decide +kernel⟩
abbrev n_rings : List Str := ["line", "ends", "found", "begin"]
abbrev p_rings : List Str := ["line"]
theorem sc_rings : FnScope n_rings p_rings (defScope s_rings) := ⟨rfl, rfl, rfl, by decide +kernel, rfl, by decide +kernel, by decide +kernel⟩
abbrev n_stuck : List Str := ["line", "ring", "index"]
abbrev p_stuck : List Str := ["line"]
theorem sc_stuck : FnScope n_stuck p_stuck (defScope s_stuck) := ⟨rfl, rfl, rfl, by decide +kernel, rfl, by decide +kernel, by decide +kernel⟩
abbrev n_check_free : List Str := ["lines", "line", "ring"]
abbrev p_check_free : List Str := ["lines"]
theorem sc_check_free : FnScope n_check_free p_check_free (defScope s_check_free) := ⟨rfl, rfl, rfl, by decide +kernel, rfl, by decide +kernel, by decide +kernel⟩
abbrev n_width_of : List Str := ["line", "hands", "station", "link"]
abbrev p_width_of : List Str := ["line"]
theorem sc_width_of : FnScope n_width_of p_width_of (defScope s_width_of) := ⟨rfl, rfl, rfl, by decide +kernel, rfl, by decide +kernel, by decide +kernel⟩
abbrev n_entries_of : List Str := ["line", "found", "station", "link"]
abbrev p_entries_of : List Str := ["line"]
theorem sc_entries_of : FnScope n_entries_of p_entries_of (defScope s_entries_of) := ⟨rfl, rfl, rfl, by decide +kernel, rfl, by decide +kernel, by decide +kernel⟩
abbrev n_is_begun : List Str := ["entries", "rows", "told", "lag", "name", "place"]
abbrev p_is_begun : List Str := ["entries", "rows", "told"]
theorem sc_is_begun : FnScope n_is_begun p_is_begun (defScope s_is_begun) := ⟨rfl, rfl, rfl, by decide +kernel, rfl, by decide +kernel, by decide +kernel⟩
abbrev n_next_row : List Str := ["entries", "start", "rows", "ends", "begins", "left", "changed", "fresh", "name"]
abbrev p_next_row : List Str := ["entries", "start", "rows"]
theorem sc_next_row : FnScope n_next_row p_next_row (defScope s_next_row) := ⟨rfl, rfl, rfl, by decide +kernel, rfl, by decide +kernel, by decide +kernel⟩
abbrev n_walked : List Str := ["line", "name"]
abbrev p_walked : List Str := ["line", "name"]
theorem sc_walked : FnScope n_walked p_walked (defScope s_walked) := ⟨rfl, rfl, rfl, by decide +kernel, rfl, by decide +kernel, by decide +kernel⟩
abbrev n_check_pair : List Str := ["one", "other"]
abbrev p_check_pair : List Str := ["one", "other"]
theorem sc_check_pair : FnScope n_check_pair p_check_pair (defScope s_check_pair) := ⟨rfl, rfl, rfl, by decide +kernel, rfl, by decide +kernel, by decide +kernel⟩
abbrev n_check_whole : List Str := ["whole"]
abbrev p_check_whole : List Str := ["whole"]
theorem sc_check_whole : FnScope n_check_whole p_check_whole (defScope s_check_whole) := ⟨rfl, rfl, rfl, by decide +kernel, rfl, by decide +kernel, by decide +kernel⟩
abbrev n_ordered : List Str := ["task", "other"]
abbrev p_ordered : List Str := ["task", "other"]
theorem sc_ordered : FnScope n_ordered p_ordered (defScope s_ordered) := ⟨rfl, rfl, rfl, by decide +kernel, rfl, by decide +kernel, by decide +kernel⟩
abbrev n_rank_of : List Str := ["case", "number", "tasks", "task"]
abbrev p_rank_of : List Str := ["case"]
theorem sc_rank_of : FnScope n_rank_of p_rank_of (defScope s_rank_of) := ⟨rfl, rfl, rfl, by decide +kernel, rfl, by decide +kernel, by decide +kernel⟩
abbrev n_bad_lags : List Str := ["orders", "others", "name", "mate", "found"]
abbrev p_bad_lags : List Str := ["orders", "others", "name", "mate"]
theorem sc_bad_lags : FnScope n_bad_lags p_bad_lags (defScope s_bad_lags) := ⟨rfl, rfl, rfl, by decide +kernel, rfl, by decide +kernel, by decide +kernel⟩
abbrev n_single_cases : List Str := ["orders", "others", "whole", "found", "name", "lags"]
abbrev p_single_cases : List Str := ["orders", "others", "whole"]
theorem sc_single_cases : FnScope n_single_cases p_single_cases (defScope s_single_cases) := ⟨rfl, rfl, rfl, by decide +kernel, rfl, by decide +kernel, by decide +kernel⟩
abbrev n_pair_cases : List Str := ["orders", "others", "whole", "found", "name", "mate", "late", "lag"]
abbrev p_pair_cases : List Str := ["orders", "others", "whole"]
theorem sc_pair_cases : FnScope n_pair_cases p_pair_cases (defScope s_pair_cases) := ⟨rfl, rfl, rfl, by decide +kernel, rfl, by decide +kernel, by decide +kernel⟩
abbrev n_least_case : List Str := ["one", "other", "whole", "orders", "others", "found", "best", "case"]
abbrev p_least_case : List Str := ["one", "other", "whole"]
theorem sc_least_case : FnScope n_least_case p_least_case (defScope s_least_case) := ⟨rfl, rfl, rfl, by decide +kernel, rfl, by decide +kernel, by decide +kernel⟩
abbrev n_later_case : List Str := ["one", "other", "whole"]
abbrev p_later_case : List Str := ["one", "other", "whole"]
theorem sc_later_case : FnScope n_later_case p_later_case (defScope s_later_case) := ⟨rfl, rfl, rfl, by decide +kernel, rfl, by decide +kernel, by decide +kernel⟩
abbrev n_law_purl : List Str := ["_law_script", "_law_spot", "_law_mixed", "_law_cell", "_law_own"]
abbrev p_law_purl : List Str := ["_law_script", "_law_spot"]
theorem sc_law_purl : FnScope n_law_purl p_law_purl (defScope s_law_purl) := ⟨rfl, rfl, rfl, by decide +kernel, rfl, by decide +kernel, by decide +kernel⟩
abbrev n_law_dig : List Str := ["_law_purl_here", "_law_many", "_law_digit"]
abbrev p_law_dig : List Str := ["_law_purl_here", "_law_many"]
theorem sc_law_dig : FnScope n_law_dig p_law_dig (defScope s_law_dig) := ⟨rfl, rfl, rfl, by decide +kernel, rfl, by decide +kernel, by decide +kernel⟩
abbrev n_law_words : List Str := ["_law_purl_here", "_law_many", "_law_menu", "_law_begin", "_law_step", "_law_k"]
abbrev p_law_words : List Str := ["_law_purl_here", "_law_many"]
theorem sc_law_words : FnScope n_law_words p_law_words (defScope s_law_words) := ⟨rfl, rfl, rfl, by decide +kernel, rfl, by decide +kernel, by decide +kernel⟩
abbrev n_law_tie : List Str := ["_law_purl_here", "_law_words_here", "_law_at", "_law_to", "_law_held"]
abbrev p_law_tie : List Str := ["_law_purl_here", "_law_words_here"]
theorem sc_law_tie : FnScope n_law_tie p_law_tie (defScope s_law_tie) := ⟨rfl, rfl, rfl, by decide +kernel, rfl, by decide +kernel, by decide +kernel⟩
abbrev n_law_post : List Str := ["_law_purl_here", "_law_word", "_law_many"]
abbrev p_law_post : List Str := ["_law_purl_here", "_law_word"]
theorem sc_law_post : FnScope n_law_post p_law_post (defScope s_law_post) := ⟨rfl, rfl, rfl, by decide +kernel, rfl, by decide +kernel, by decide +kernel⟩
abbrev n_law_chained : List Str := ["_law_words_here", "_law_k"]
abbrev p_law_chained : List Str := ["_law_words_here"]
theorem sc_law_chained : FnScope n_law_chained p_law_chained (defScope s_law_chained) := ⟨rfl, rfl, rfl, by decide +kernel, rfl, by decide +kernel, by decide +kernel⟩
abbrev n_law_plan : List Str := ["_law_purl_here", "_law_most", "_law_ties", "_law_words_here", "_law_posts", "_law_found", "_law_turn", "_law_goal", "_law_word", "_law_k"]
abbrev p_law_plan : List Str := ["_law_purl_here", "_law_most", "_law_ties"]
theorem sc_law_plan : FnScope n_law_plan p_law_plan (defScope s_law_plan) := ⟨rfl, rfl, rfl, by decide +kernel, rfl, by decide +kernel, by decide +kernel⟩
abbrev n_law_swapped : List Str := ["_law_plan_here", "_law_one_word", "_law_two_word", "_law_names_here", "_law_ties", "_law_at", "_law_to", "_law_held", "_law_soon", "_law_word"]
abbrev p_law_swapped : List Str := ["_law_plan_here", "_law_one_word", "_law_two_word"]
theorem sc_law_swapped : FnScope n_law_swapped p_law_swapped (defScope s_law_swapped) := ⟨rfl, rfl, rfl, by decide +kernel, rfl, by decide +kernel, by decide +kernel⟩
abbrev n_law_kin : List Str := ["_law_purl_here", "_law_plan_here", "_law_posts", "_law_ties", "_law_goal", "_law_words_here", "_law_way", "_law_at", "_law_word", "_law_many", "_law_clock", "_law_spot", "_law_to", "_law_held", "_law_soon", "_law_later_here"]
abbrev p_law_kin : List Str := ["_law_purl_here", "_law_plan_here"]
theorem sc_law_kin : FnScope n_law_kin p_law_kin (defScope s_law_kin) := ⟨rfl, rfl, rfl, by decide +kernel, rfl, by decide +kernel, by decide +kernel⟩
abbrev n_law_line : List Str := ["_law_plan_here", "_law_rows", "_law_some", "_law_word", "_law_many", "_law_clock", "_law_at", "_law_to", "_law_held", "_law_soon"]
abbrev p_law_line : List Str := ["_law_plan_here"]
theorem sc_law_line : FnScope n_law_line p_law_line (defScope s_law_line) := ⟨rfl, rfl, rfl, by decide +kernel, rfl, by decide +kernel, by decide +kernel⟩
abbrev n_law_onset : List Str := ["_law_plan_here", "_law_known", "_law_word", "_law_k", "_law_found", "_law_at", "_law_to", "_law_held", "_law_soon", "_law_told", "_law_post_here", "_law_many", "_law_clock"]
abbrev p_law_onset : List Str := ["_law_plan_here", "_law_known", "_law_word", "_law_k"]
theorem sc_law_onset : FnScope n_law_onset p_law_onset (defScope s_law_onset) := ⟨rfl, rfl, rfl, by decide +kernel, rfl, by decide +kernel, by decide +kernel⟩
abbrev n_law_settled : List Str := ["_law_plan_here", "_law_taken", "_law_known", "_law_word", "_law_k", "_law_onset_here", "_law_clock", "_law_post_here"]
abbrev p_law_settled : List Str := ["_law_plan_here", "_law_taken", "_law_known", "_law_word", "_law_k"]
theorem sc_law_settled : FnScope n_law_settled p_law_settled (defScope s_law_settled) := ⟨rfl, rfl, rfl, by decide +kernel, rfl, by decide +kernel, by decide +kernel⟩
abbrev n_law_played : List Str := ["_law_plan_here", "_law_taken", "_law_most", "_law_known", "_law_k", "_law_left", "_law_post_here", "_law_word"]
abbrev p_law_played : List Str := ["_law_plan_here", "_law_taken", "_law_most"]
theorem sc_law_played : FnScope n_law_played p_law_played (defScope s_law_played) := ⟨rfl, rfl, rfl, by decide +kernel, rfl, by decide +kernel, by decide +kernel⟩
abbrev n_law_ended : List Str := ["_law_plan_here", "_law_taken", "_law_most", "_law_wide", "_law_known", "_law_spot"]
abbrev p_law_ended : List Str := ["_law_plan_here", "_law_taken", "_law_most", "_law_wide"]
theorem sc_law_ended : FnScope n_law_ended p_law_ended (defScope s_law_ended) := ⟨rfl, rfl, rfl, by decide +kernel, rfl, by decide +kernel, by decide +kernel⟩
abbrev n_law_ranked : List Str := ["_law_tasks", "_law_k", "_law_word"]
abbrev p_law_ranked : List Str := ["_law_tasks"]
theorem sc_law_ranked : FnScope n_law_ranked p_law_ranked (defScope s_law_ranked) := ⟨rfl, rfl, rfl, by decide +kernel, rfl, by decide +kernel, by decide +kernel⟩
abbrev n_law_later : List Str := ["_law_plan_here", "_law_mate", "_law_most", "_law_tasks", "_law_wide", "_law_taken", "_law_task"]
abbrev p_law_later : List Str := ["_law_plan_here", "_law_mate", "_law_most", "_law_tasks", "_law_wide"]
theorem sc_law_later : FnScope n_law_later p_law_later (defScope s_law_later) := ⟨rfl, rfl, rfl, by decide +kernel, rfl, by decide +kernel, by decide +kernel⟩
abbrev n_law_first : List Str := ["_law_plan_here", "_law_mate", "_law_wide", "_law_words_here", "_law_most", "_law_tasks", "_law_k", "_law_task", "_law_at", "_law_to", "_law_post_here", "_law_word"]
abbrev p_law_first : List Str := ["_law_plan_here", "_law_mate", "_law_wide"]
theorem sc_law_first : FnScope n_law_first p_law_first (defScope s_law_first) := ⟨rfl, rfl, rfl, by decide +kernel, rfl, by decide +kernel, by decide +kernel⟩
abbrev n_law_fits : List Str := ["_law_plan_here", "_law_mate", "_law_told", "_law_wide", "_law_due", "_law_most", "_law_tasks"]
abbrev p_law_fits : List Str := ["_law_plan_here", "_law_mate", "_law_told", "_law_wide"]
theorem sc_law_fits : FnScope n_law_fits p_law_fits (defScope s_law_fits) := ⟨rfl, rfl, rfl, by decide +kernel, rfl, by decide +kernel, by decide +kernel⟩
abbrev n_law_right : List Str := ["_law_purl_here", "_law_plan_here", "_law_mate", "_law_mine", "_law_matey", "_law_wide"]
abbrev p_law_right : List Str := ["_law_purl_here"]
theorem sc_law_right : FnScope n_law_right p_law_right (defScope s_law_right) := ⟨rfl, rfl, rfl, by decide +kernel, rfl, by decide +kernel, by decide +kernel⟩
abbrev n_law : List Str := ["_law_script", "_law_spot"]
abbrev p_law : List Str := ["_law_script"]
theorem sc_law : FnScope n_law p_law (defScope s_law) := ⟨rfl, rfl, rfl, by decide +kernel, rfl, by decide +kernel, by decide +kernel⟩
abbrev n_Lags_init : List Str := ["self", "single", "again", "period", "start"]
abbrev p_Lags_init : List Str := ["self", "single", "again", "period"]
theorem sc_Lags_init : FnScope n_Lags_init p_Lags_init (defScope s_Lags_init) := ⟨rfl, rfl, rfl, by decide +kernel, rfl, by decide +kernel, by decide +kernel⟩
abbrev n_Lags_contains : List Str := ["self", "value"]
abbrev p_Lags_contains : List Str := ["self", "value"]
theorem sc_Lags_contains : FnScope n_Lags_contains p_Lags_contains (defScope s_Lags_contains) := ⟨rfl, rfl, rfl, by decide +kernel, rfl, by decide +kernel, by decide +kernel⟩
abbrev n_FormedLags_init : List Str := ["self", "form"]
abbrev p_FormedLags_init : List Str := ["self", "form"]
theorem sc_FormedLags_init : FnScope n_FormedLags_init p_FormedLags_init (defScope s_FormedLags_init) := ⟨rfl, rfl, rfl, by decide +kernel, rfl, by decide +kernel, by decide +kernel⟩
abbrev n_Station_init : List Str := ["self", "name", "hands", "timed"]
abbrev p_Station_init : List Str := ["self", "name", "hands", "timed"]
theorem sc_Station_init : FnScope n_Station_init p_Station_init (defScope s_Station_init) := ⟨rfl, rfl, rfl, by decide +kernel, rfl, by decide +kernel, by decide +kernel⟩
abbrev n_Link_init : List Str := ["self", "source", "target", "stock", "early"]
abbrev p_Link_init : List Str := ["self", "source", "target", "stock", "early"]
theorem sc_Link_init : FnScope n_Link_init p_Link_init (defScope s_Link_init) := ⟨rfl, rfl, rfl, by decide +kernel, rfl, by decide +kernel, by decide +kernel⟩
abbrev n_Line_init : List Str := ["self", "stations", "links", "outlet", "names", "station"]
abbrev p_Line_init : List Str := ["self", "stations", "links", "outlet"]
theorem sc_Line_init : FnScope n_Line_init p_Line_init (defScope s_Line_init) := ⟨rfl, rfl, rfl, by decide +kernel, rfl, by decide +kernel, by decide +kernel⟩
abbrev n_Line_len : List Str := ["self"]
abbrev p_Line_len : List Str := ["self"]
theorem sc_Line_len : FnScope n_Line_len p_Line_len (defScope s_Line_len) := ⟨rfl, rfl, rfl, by decide +kernel, rfl, by decide +kernel, by decide +kernel⟩
abbrev n_Walk_init : List Str := ["self", "line", "start", "width", "entries", "windows", "begin", "window"]
abbrev p_Walk_init : List Str := ["self", "line", "start"]
theorem sc_Walk_init : FnScope n_Walk_init p_Walk_init (defScope s_Walk_init) := ⟨rfl, rfl, rfl, by decide +kernel, rfl, by decide +kernel, by decide +kernel⟩
abbrev n_Walk_lags_at : List Str := ["self", "name", "place", "members", "at", "row"]
abbrev p_Walk_lags_at : List Str := ["self", "name", "place"]
theorem sc_Walk_lags_at : FnScope n_Walk_lags_at p_Walk_lags_at (defScope s_Walk_lags_at) := ⟨rfl, rfl, rfl, by decide +kernel, rfl, by decide +kernel, by decide +kernel⟩
abbrev n_Walk_ends : List Str := ["self", "name"]
abbrev p_Walk_ends : List Str := ["self", "name"]
theorem sc_Walk_ends : FnScope n_Walk_ends p_Walk_ends (defScope s_Walk_ends) := ⟨rfl, rfl, rfl, by decide +kernel, rfl, by decide +kernel, by decide +kernel⟩
abbrev n_Walk_begins : List Str := ["self", "name"]
abbrev p_Walk_begins : List Str := ["self", "name"]
theorem sc_Walk_begins : FnScope n_Walk_begins p_Walk_begins (defScope s_Walk_begins) := ⟨rfl, rfl, rfl, by decide +kernel, rfl, by decide +kernel, by decide +kernel⟩
abbrev n_Orders_init : List Str := ["self", "line", "name", "walk", "other"]
abbrev p_Orders_init : List Str := ["self", "line"]
theorem sc_Orders_init : FnScope n_Orders_init p_Orders_init (defScope s_Orders_init) := ⟨rfl, rfl, rfl, by decide +kernel, rfl, by decide +kernel, by decide +kernel⟩
abbrev n_Orders_to_outlet : List Str := ["self", "name"]
abbrev p_Orders_to_outlet : List Str := ["self", "name"]
theorem sc_Orders_to_outlet : FnScope n_Orders_to_outlet p_Orders_to_outlet (defScope s_Orders_to_outlet) := ⟨rfl, rfl, rfl, by decide +kernel, rfl, by decide +kernel, by decide +kernel⟩
abbrev n_Orders_between : List Str := ["self", "name", "other"]
abbrev p_Orders_between : List Str := ["self", "name", "other"]
theorem sc_Orders_between : FnScope n_Orders_between p_Orders_between (defScope s_Orders_between) := ⟨rfl, rfl, rfl, by decide +kernel, rfl, by decide +kernel, by decide +kernel⟩
abbrev n_Lags_members : List Str := ["self", "k", "flag"]
abbrev p_Lags_members : List Str := ["self"]
theorem sc_Lags_members : FnScope n_Lags_members p_Lags_members (defScope s_Lags_members) := ⟨rfl, rfl, rfl, by decide +kernel, rfl, by decide +kernel, by decide +kernel⟩
abbrev n_Lags_first : List Str := ["self"]
abbrev p_Lags_first : List Str := ["self"]
theorem sc_Lags_first : FnScope n_Lags_first p_Lags_first (defScope s_Lags_first) := ⟨rfl, rfl, rfl, by decide +kernel, rfl, by decide +kernel, by decide +kernel⟩
abbrev n_Station_name : List Str := ["self"]
abbrev p_Station_name : List Str := ["self"]
theorem sc_Station_name : FnScope n_Station_name p_Station_name (defScope s_Station_name) := ⟨rfl, rfl, rfl, by decide +kernel, rfl, by decide +kernel, by decide +kernel⟩
abbrev n_Station_hands : List Str := ["self"]
abbrev p_Station_hands : List Str := ["self"]
theorem sc_Station_hands : FnScope n_Station_hands p_Station_hands (defScope s_Station_hands) := ⟨rfl, rfl, rfl, by decide +kernel, rfl, by decide +kernel, by decide +kernel⟩
abbrev n_Station_timed : List Str := ["self"]
abbrev p_Station_timed : List Str := ["self"]
theorem sc_Station_timed : FnScope n_Station_timed p_Station_timed (defScope s_Station_timed) := ⟨rfl, rfl, rfl, by decide +kernel, rfl, by decide +kernel, by decide +kernel⟩
abbrev n_Link_source : List Str := ["self"]
abbrev p_Link_source : List Str := ["self"]
theorem sc_Link_source : FnScope n_Link_source p_Link_source (defScope s_Link_source) := ⟨rfl, rfl, rfl, by decide +kernel, rfl, by decide +kernel, by decide +kernel⟩
abbrev n_Link_target : List Str := ["self"]
abbrev p_Link_target : List Str := ["self"]
theorem sc_Link_target : FnScope n_Link_target p_Link_target (defScope s_Link_target) := ⟨rfl, rfl, rfl, by decide +kernel, rfl, by decide +kernel, by decide +kernel⟩
abbrev n_Link_stock : List Str := ["self"]
abbrev p_Link_stock : List Str := ["self"]
theorem sc_Link_stock : FnScope n_Link_stock p_Link_stock (defScope s_Link_stock) := ⟨rfl, rfl, rfl, by decide +kernel, rfl, by decide +kernel, by decide +kernel⟩
abbrev n_Link_early : List Str := ["self"]
abbrev p_Link_early : List Str := ["self"]
theorem sc_Link_early : FnScope n_Link_early p_Link_early (defScope s_Link_early) := ⟨rfl, rfl, rfl, by decide +kernel, rfl, by decide +kernel, by decide +kernel⟩
abbrev n_Line_stations : List Str := ["self"]
abbrev p_Line_stations : List Str := ["self"]
theorem sc_Line_stations : FnScope n_Line_stations p_Line_stations (defScope s_Line_stations) := ⟨rfl, rfl, rfl, by decide +kernel, rfl, by decide +kernel, by decide +kernel⟩
abbrev n_Line_links : List Str := ["self"]
abbrev p_Line_links : List Str := ["self"]
theorem sc_Line_links : FnScope n_Line_links p_Line_links (defScope s_Line_links) := ⟨rfl, rfl, rfl, by decide +kernel, rfl, by decide +kernel, by decide +kernel⟩
abbrev n_Line_outlet : List Str := ["self"]
abbrev p_Line_outlet : List Str := ["self"]
theorem sc_Line_outlet : FnScope n_Line_outlet p_Line_outlet (defScope s_Line_outlet) := ⟨rfl, rfl, rfl, by decide +kernel, rfl, by decide +kernel, by decide +kernel⟩
abbrev n_Line_names : List Str := ["self", "station"]
abbrev p_Line_names : List Str := ["self"]
theorem sc_Line_names : FnScope n_Line_names p_Line_names (defScope s_Line_names) := ⟨rfl, rfl, rfl, by decide +kernel, rfl, by decide +kernel, by decide +kernel⟩
abbrev n_Line_timed : List Str := ["self", "station"]
abbrev p_Line_timed : List Str := ["self"]
theorem sc_Line_timed : FnScope n_Line_timed p_Line_timed (defScope s_Line_timed) := ⟨rfl, rfl, rfl, by decide +kernel, rfl, by decide +kernel, by decide +kernel⟩
end Ow
namespace Ow
open PySem PySem.Spec PyProof.Rows L2 He
/-! ### short words -/
section
variable {P : Program} {w : World} {K : PySem.W.Frag} {mg : Str → Option Value} {base : Heap}
theorem fg {x : Str} {st : Stmt} {N ps : List Str} {k : Nat} {α : Type} {φ : α → Prop} {A : α → List VP} {R : α → VP} (hd : ∃ fd, FunD K x x (defArgs st) (defBody st) (defScope st) [] [] (ga K x) fd) (hm : mg x = some (.ref (ga K x))) (S : FnScope N ps (defScope st)) (hl : ∀ y, φ y → (A y).length = ps.length)
    (hbd : ∀ (kV doc pm : Value) (an : Option Addr) (cdv ct : Value) (us : List Value), us.length = ps.length → bindArgs (PySem.W.fnOf x x (defArgs st) (defBody st) (defScope st) .none kV doc pm an cdv ct) ⟨us, []⟩ = pure (ps.zip us))
    (hb : ∀ (cdv : Value) (Ar : Around) (outer : List Env) (s : Shared) (H : Hp) (E : XK) (y : α) (G : Hp) (Q : VK) (σ : L2.St), Room k (Ar.deeper (envOfC x (defScope st) s.heap.objs.size (ga K x) cdv)) → φ y → Sat G H (stC N (A y)) [] σ H → (∀ v G' H', Step G H G' H' → (R y).p v G' → Q v H') →
      wpS (bodyX P w K mg base N x (defScope st) (ga K x) cdv Ar outer s H E) (defBody st) { nx := fun _ H' => Q .non H', rt := Q } σ H) : FG P w K mg base (k + 1) x φ A R := by
  obtain ⟨fd, F⟩ := hd
  exact ⟨ga K x, fd, ps, fn_pu F S hl hb, hm, F.kp, F.bindsN hbd⟩
theorem FG.mono {j k : Nat} {x : Str} {α : Type} {φ : α → Prop} {A : α → List VP} {R : α → VP} (F : FG P w K mg base j x φ A R) (h : j ≤ k) : FG P w K mg base k x φ A R := by
  obtain ⟨f, fd, ps, a, b⟩ := F.ex
  exact ⟨f, fd, ps, a.mono h, b⟩
end
section
variable {X : Cx} {Γ : Cn} {Ω : Om} {pos p q : Pos} {e : Expr} {P : VP} {Ps : List VP}
theorem tyI {K : PySem.W.Frag} {i : Int} {x : V} {G : Hp} (h : (vI i).p x G) : TyX K G x (.type "int") := by
  have e : x = V.int i := h
  subst e; exact .base (.int i)
theorem tyB {K : PySem.W.Frag} {i : Bool} {x : V} {G : Hp} (h : (vB i).p x G) : TyX K G x (.type "bool") := by
  have e : x = V.bl i := h
  subst e; exact .base (.bl i)
theorem tyS {K : PySem.W.Frag} {i : Str} {x : V} {G : Hp} (h : (vS i).p x G) : TyX K G x (.type "str") := by
  have e : x = V.str i := h
  subst e; exact .base (.str i)
/-- isinstance(e, T), T built in -/
theorem eg_isi {T S : String} {x : Str} {b : Bool} (hm : X.mg "isinstance" = none) (hx : X.mg x = none) (hv : bootBuiltins x = some (.type T)) (ht : ∀ v G, P.p v G → TyX X.K G v (.type S)) (hk : kitB S T = some b) (he : EG X Γ Ω e P) (hg : Gl X "isinstance" := by rfl) (hg2 : Gl X x := by rfl)
    (hn : x ≠ "__name__" := by decide) (hd : (x == ("__debug__" : Str)) = false := by decide) (h1 : starEach [e, .Name x q] X.env = (false, eval e X.env) :: starEach [.Name x q] X.env := by rfl) (h2 : starEach [.Name x q] X.env = (false, eval (.Name x q) X.env) :: starEach [] X.env := by rfl) (h3 : (backTo pos (starEach [.Name x q] X.env)).any (·.1) = false := by rfl) :
    EG X Γ Ω (.Call (.Name "isinstance" p) [e, .Name x q] [] pos) (vB b) :=
  eg_callB call_isi (ru_isi (ClsV.ty T) (fun v G h => ⟨_, ht v G h, kit_ty hk⟩) fun _ _ _ _ => TyX.same) hg hm boot_isinstance (ag_cons he (ag_cons (eg_bltn (v := .ty T) hg2 hx hv rfl hn hd) ag_nil h2) h1) (by decide) (by decide) h1 h3
theorem eg_len {n : Int} (hm : X.mg "len" = none) (hr : RU (fun xs H Q => ∃ x n, xs = [x] ∧ LenV X.K x H n ∧ Q (.int n) H) [P] (vI n)) (he : EG X Γ Ω e P) (hg : Gl X "len" := by rfl) (h1 : starEach [e] X.env = (false, eval e X.env) :: starEach [] X.env := by rfl) (h3 : (backTo pos (starEach [] X.env)).any (·.1) = false := by rfl) : EG X Γ Ω (.Call (.Name "len" p) [e] [] pos) (vI n) :=
  eg_callB call_len hr hg hm PySem.boot_len (ag_cons he ag_nil h1) (by decide) (by decide) h1 h3
theorem eg_lenL (hm : X.mg "len" = none) (he : EG X Γ Ω e (vL Ps)) (hg : Gl X "len" := by rfl) (h1 : starEach [e] X.env = (false, eval e X.env) :: starEach [] X.env := by rfl) (h3 : (backTo pos (starEach [] X.env)).any (·.1) = false := by rfl) : EG X Γ Ω (.Call (.Name "len" p) [e] [] pos) (vI Ps.length) := eg_len hm ru_lenL he hg h1 h3
theorem eg_lenT (hm : X.mg "len" = none) (he : EG X Γ Ω e (vT X.K Ps)) (hg : Gl X "len" := by rfl) (h1 : starEach [e] X.env = (false, eval e X.env) :: starEach [] X.env := by rfl) (h3 : (backTo pos (starEach [] X.env)).any (·.1) = false := by rfl) : EG X Γ Ω (.Call (.Name "len" p) [e] [] pos) (vI Ps.length) := eg_len hm ru_lenT he hg h1 h3
theorem eg_tuple (hm : X.mg "tuple" = none) (he : EG X Γ Ω e (vL Ps)) (hg : Gl X "tuple" := by rfl) (h1 : starEach [e] X.env = (false, eval e X.env) :: starEach [] X.env := by rfl) (h3 : (backTo pos (starEach [] X.env)).any (·.1) = false := by rfl) : EG X Γ Ω (.Call (.Name "tuple" p) [e] [] pos) (vT X.K Ps) :=
  eg_callTy call_tuple_of ru_tupL hg hm boot_tuple (ag_cons he ag_nil h1) (by decide) (by decide) h1 h3
theorem eg_listL (hm : X.mg "list" = none) (he : EG X Γ Ω e (vL Ps)) (hg : Gl X "list" := by rfl) (h1 : starEach [e] X.env = (false, eval e X.env) :: starEach [] X.env := by rfl) (h3 : (backTo pos (starEach [] X.env)).any (·.1) = false := by rfl) : EG X Γ Ω (.Call (.Name "list" p) [e] [] pos) (vL Ps) :=
  eg_callTy call_list_of ru_lstL hg hm boot_list (ag_cons he ag_nil h1) (by decide) (by decide) h1 h3
theorem eg_all {bs : List Bool} (hm : X.mg "all" = none) (he : EG X Γ Ω e (vL (bs.map vB))) (hg : Gl X "all" := by rfl) (hc : X.calm = true := by rfl) (h1 : starEach [e] X.env = (false, eval e X.env) :: starEach [] X.env := by rfl) (h3 : (backTo pos (starEach [] X.env)).any (·.1) = false := by rfl) : EG X Γ Ω (.Call (.Name "all" p) [e] [] pos) (vB (bs.all id)) :=
  eg_callB (cr_all hc) ru_all hg hm boot_all (ag_cons he ag_nil h1) (by decide) (by decide) h1 h3
theorem eg_anyT {bs : List Bool} (hm : X.mg "any" = none) (he : EG X Γ Ω e (vT X.K (bs.map vB))) (hg : Gl X "any" := by rfl) (hc : X.calm = true := by rfl) (h1 : starEach [e] X.env = (false, eval e X.env) :: starEach [] X.env := by rfl) (h3 : (backTo pos (starEach [] X.env)).any (·.1) = false := by rfl) : EG X Γ Ω (.Call (.Name "any" p) [e] [] pos) (vB (bs.any id)) :=
  eg_callB (cr_anyT hc) ru_anyT hg hm boot_any (ag_cons he ag_nil h1) (by decide) (by decide) h1 h3
theorem eg_sum {ns : List Int} (hm : X.mg "sum" = none) (he : EG X Γ Ω e (vL (ns.map vI))) (hg : Gl X "sum" := by rfl) (hc : X.calm = true := by rfl) (h1 : starEach [e] X.env = (false, eval e X.env) :: starEach [] X.env := by rfl) (h3 : (backTo pos (starEach [] X.env)).any (·.1) = false := by rfl) : EG X Γ Ω (.Call (.Name "sum" p) [e] [] pos) (vI ns.sum) :=
  eg_callB (cr_sum hc) ru_sum hg hm boot_sum (ag_cons he ag_nil h1) (by decide) (by decide) h1 h3
theorem eg_maxL {ns : List Int} {m : Int} (hm : X.mg "max" = none) (k1 : m ∈ ns) (k2 : ∀ y ∈ ns, y ≤ m) (he : EG X Γ Ω e (vL (ns.map vI))) (hg : Gl X "max" := by rfl) (hc : X.calm = true := by rfl) (h1 : starEach [e] X.env = (false, eval e X.env) :: starEach [] X.env := by rfl) (h3 : (backTo pos (starEach [] X.env)).any (·.1) = false := by rfl) : EG X Γ Ω (.Call (.Name "max" p) [e] [] pos) (vI m) :=
  eg_callB (cr_max hc) (ru_max k1 k2) hg hm boot_max (ag_cons he ag_nil h1) (by decide) (by decide) h1 h3
theorem eg_max2 {a b : Expr} {i j : Int} (hm : X.mg "max" = none) (ha : EG X Γ Ω a (vI i)) (hb : EG X Γ Ω b (vI j)) (hg : Gl X "max" := by rfl) (hc : X.calm = true := by rfl) (h1 : starEach [a, b] X.env = (false, eval a X.env) :: starEach [b] X.env := by rfl) (h2 : starEach [b] X.env = (false, eval b X.env) :: starEach [] X.env := by rfl) (h3 : (backTo pos (starEach [b] X.env)).any (·.1) = false := by rfl) : EG X Γ Ω (.Call (.Name "max" p) [a, b] [] pos) (vI (if j > i then j else i)) :=
  eg_callB (call_max2 hc) ru_max2 hg hm boot_max (ag_cons ha (ag_cons hb ag_nil h2) h1) (by decide) (by decide) h1 h3
end

/-- a def's promise, wherever it is reached from -/
structure FO (P : Program) (w : World) (K : PySem.W.Frag) (mg : Str → Option Value) (base : Heap) (k : Nat) (f : Addr) {α : Type} (φ : α → Prop) (A : α → List VP) (R : α → VP) : Prop where
  ex : ∃ fd ps, FnOk P w K mg base CX0 k f fd ps (Px φ A R) ∧ Binds K fd ps [] ∧ PySem.W.keepIn K (.ref f) = true
section
variable {P : Program} {w : World} {K : PySem.W.Frag} {mg : Str → Option Value} {base : Heap}
theorem fo {x q : Str} {st : Stmt} {N ps : List Str} {k : Nat} {f : Addr} {α : Type} {φ : α → Prop} {A : α → List VP} {R : α → VP} (hd : ∃ fd, FunD K x q (defArgs st) (defBody st) (defScope st) [] [] f fd) (S : FnScope N ps (defScope st)) (hl : ∀ y, φ y → (A y).length = ps.length)
    (hbd : ∀ (kV doc pm : Value) (an : Option Addr) (cdv ct : Value) (us : List Value), us.length = ps.length → bindArgs (PySem.W.fnOf x q (defArgs st) (defBody st) (defScope st) .none kV doc pm an cdv ct) ⟨us, []⟩ = pure (ps.zip us))
    (hb : ∀ (cdv : Value) (Ar : Around) (outer : List Env) (s : Shared) (H : Hp) (E : XK) (y : α) (G : Hp) (Q : VK) (σ : L2.St), Room k (Ar.deeper (envOfC q (defScope st) s.heap.objs.size f cdv)) → φ y → Sat G H (stC N (A y)) [] σ H → (∀ v G' H', Step G H G' H' → (R y).p v G' → Q v H') →
      wpS (bodyX P w K mg base N q (defScope st) f cdv Ar outer s H E) (defBody st) { nx := fun _ H' => Q .non H', rt := Q } σ H) : FO P w K mg base (k + 1) f φ A R := by
  obtain ⟨fd, F⟩ := hd
  exact ⟨fd, ps, fn_pu F S hl hb, F.bindsN hbd, F.kp⟩
section
variable {k : Nat} {f : Addr} {α : Type} {φ : α → Prop} {A : α → List VP} {R : α → VP}
theorem FO.fg {x : Str} (F : FO P w K mg base k f φ A R) (hm : mg x = some (.ref f)) : FG P w K mg base k x φ A R := let ⟨fd, ps, a, b, c⟩ := F.ex; ⟨f, fd, ps, a, hm, c, b⟩
theorem FO.fm {m : Str} {C : Addr} (F : FO P w K mg base k f φ A R) (c : Cls K C) (m' : Meth K C m f) : FM P w K mg base k C m φ A R := let ⟨fd, ps, a, b, _⟩ := F.ex; ⟨f, fd, ps, a, c, m', b⟩
theorem FO.fp {m : Str} {C p : Addr} (F : FO P w K mg base k f φ A R) (c : Cls K C) (m' : PropOf K C m p f) : FP P w K mg base k C m φ A R := let ⟨fd, ps, a, b, _⟩ := F.ex; ⟨f, fd, ps, p, a, c, m', b⟩
end
end
section
variable {X : Cx} {Γ : Cn} {Ω : Om} {pos : Pos} {a b : Expr} {i j : Int} {s t : Str}
theorem gAdd (ha : EG X Γ Ω a (vI i)) (hb : EG X Γ Ω b (vI j)) : EG X Γ Ω (.BinOp a .Add b pos) (vI (i + j)) := eg_op op_add rg_I0 ha hb
theorem gSub (ha : EG X Γ Ω a (vI i)) (hb : EG X Γ Ω b (vI j)) : EG X Γ Ω (.BinOp a .Sub b pos) (vI (i - j)) := eg_op op_sub rg_I0 ha hb
theorem gMod (h : 0 < j) (ha : EG X Γ Ω a (vI i)) (hb : EG X Γ Ω b (vI j)) : EG X Γ Ω (.BinOp a .Mod b pos) (vI (i % j)) := eg_op op_mod (rg_I h) ha hb
theorem gMul (h : CMul i j) (ha : EG X Γ Ω a (vI i)) (hb : EG X Γ Ω b (vI j)) : EG X Γ Ω (.BinOp a .Mult b pos) (vI (i * j)) := eg_op op_mul (rg_I h) ha hb
theorem gDiv (h : CDiv i j) (ha : EG X Γ Ω a (vI i)) (hb : EG X Γ Ω b (vI j)) : EG X Γ Ω (.BinOp a .FloorDiv b pos) (vI (i / j)) := eg_op op_fdiv (rg_I h) ha hb
theorem decI : decide (V.int i = V.int j) = decide (i = j) := by by_cases h : i = j <;> simp [h]
theorem decS : decide (V.str s = V.str t) = decide (s = t) := by by_cases h : s = t <;> simp [h]
theorem decB {x y : Bool} : decide (V.bl x = V.bl y) = decide (x = y) := by by_cases h : x = y <;> simp [h]
theorem tEqI (ha : EG X Γ Ω a (vI i)) (hb : EG X Γ Ω b (vI j)) : TG X Γ Ω (.Compare a [.Eq] [b] pos) (decide (i = j)) := (tg_cmp op_eq (rg_eq rfl) ha hb (nomark _)).cast decI
theorem tNeI (ha : EG X Γ Ω a (vI i)) (hb : EG X Γ Ω b (vI j)) : TG X Γ Ω (.Compare a [.NotEq] [b] pos) (!decide (i = j)) := (tg_cmp op_ne (rg_ne rfl) ha hb (nomark _)).cast (by rw [decI])
theorem tEqS (ha : EG X Γ Ω a (vS s)) (hb : EG X Γ Ω b (vS t)) : TG X Γ Ω (.Compare a [.Eq] [b] pos) (decide (s = t)) := (tg_cmp op_eq (rg_eq rfl) ha hb (nomark _)).cast decS
theorem tEqB {x y : Bool} (ha : EG X Γ Ω a (vB x)) (hb : EG X Γ Ω b (vB y)) : TG X Γ Ω (.Compare a [.Eq] [b] pos) (decide (x = y)) := (tg_cmp op_eq (rg_eq rfl) ha hb (nomark _)).cast decB
theorem tLt (ha : EG X Γ Ω a (vI i)) (hb : EG X Γ Ω b (vI j)) : TG X Γ Ω (.Compare a [.Lt] [b] pos) (decide (i < j)) := tg_cmp op_lt rg_I0 ha hb (nomark _)
theorem tLe (ha : EG X Γ Ω a (vI i)) (hb : EG X Γ Ω b (vI j)) : TG X Γ Ω (.Compare a [.LtE] [b] pos) (decide (i ≤ j)) := tg_cmp op_le rg_I0 ha hb (nomark _)
theorem tGt (ha : EG X Γ Ω a (vI i)) (hb : EG X Γ Ω b (vI j)) : TG X Γ Ω (.Compare a [.Gt] [b] pos) (decide (j < i)) := tg_cmp op_gt rg_I0 ha hb (nomark _)
theorem tGe (ha : EG X Γ Ω a (vI i)) (hb : EG X Γ Ω b (vI j)) : TG X Γ Ω (.Compare a [.GtE] [b] pos) (decide (j ≤ i)) := tg_cmp op_ge rg_I0 ha hb (nomark _)
theorem eEqI (ha : EG X Γ Ω a (vI i)) (hb : EG X Γ Ω b (vI j)) : EG X Γ Ω (.Compare a [.Eq] [b] pos) (vB (decide (i = j))) := (eg_cmp op_eq (rg_eq rfl) ha hb (nomark _)).cast (by rw [decI])
theorem eLt (ha : EG X Γ Ω a (vI i)) (hb : EG X Γ Ω b (vI j)) : EG X Γ Ω (.Compare a [.Lt] [b] pos) (vB (decide (i < j))) := eg_cmp op_lt rg_I0 ha hb (nomark _)
theorem eGt (ha : EG X Γ Ω a (vI i)) (hb : EG X Γ Ω b (vI j)) : EG X Γ Ω (.Compare a [.Gt] [b] pos) (vB (decide (j < i))) := eg_cmp op_gt rg_I0 ha hb (nomark _)
theorem eGe (ha : EG X Γ Ω a (vI i)) (hb : EG X Γ Ω b (vI j)) : EG X Γ Ω (.Compare a [.GtE] [b] pos) (vB (decide (j ≤ i))) := eg_cmp op_ge rg_I0 ha hb (nomark _)
theorem gIxT {Ps : List VP} {P : VP} (h : atI Ps i = some P) (ha : EG X Γ Ω a (vT X.K Ps)) (hb : EG X Γ Ω b (vI i)) (hs : PlainIx b := by exact fun _ _ => rfl) : EG X Γ Ω (.Subscript a b pos) P := eg_ix ix_tup (rg_ixT h) ha hb hs
theorem gIxL {Ps : List VP} {P : VP} (h : atI Ps i = some P) (ha : EG X Γ Ω a (vL Ps)) (hb : EG X Γ Ω b (vI i)) (hs : PlainIx b := by exact fun _ _ => rfl) : EG X Γ Ω (.Subscript a b pos) P := eg_ix ix_list (rg_ixL h) ha hb hs
end
/-! ### values -/
section
variable {P : Program} {w : World} {K : PySem.W.Frag} {mg : Str → Option Value} {base : Heap}
theorem g_is_integer (T : Txt K mg) : FG P w K mg base 1 "is_integer" (fun _ : Int => True) (fun i => [vI i]) (fun _ => vB true) := by
  refine fg T.d_is_integer T.g_is_integer sc_is_integer (fun _ _ => rfl) (fun _ _ _ _ _ _ us hl => match us, hl with | [_], _ => rfl) ?_
  intro cdv Ar outer s H E i G Q σ hr _ hs k
  refine s_ret hs (eg_and (eg_isi T.f_isinstance T.f_int boot_int (fun _ _ => tyI) (by decide +kernel : kitB "int" "int" = some true) (eg_var (i := 0) rfl rfl)) (fun _ => eg_one (eg_not (eg_isi T.f_isinstance T.f_bool boot_bool (fun _ _ => tyI) (by decide +kernel : kitB "int" "bool" = some false) (eg_var (i := 0) rfl rfl))))) (fun v G' H' st q => k v G' H' st q)
end
end Ow
namespace Ow
/-! ### lag sets: the plain side -/
/-- the flag at a place of a set with this start, this period -/
def flagAt (s p : Nat) (fl : List Bool) (k : Nat) : Bool := if k < s + p then fl.getD k false else fl.getD (s + (k - s) % p) false
/-- from the start on it comes again with n, round by round of p -/
def Cyc (fl : List Bool) (s p n : Nat) : Prop := ∀ k, k < p → fl.getD (s + (k + n) % p) false = fl.getD (s + k) false
structure Fm where
  s : Nat
  p : Nat
  fl : List Bool
def Fm.has (f : Fm) (k : Nat) : Bool := flagAt f.s f.p f.fl k
structure FmOk (f : Fm) (B : Nat) : Prop where
  len : f.fl.length = f.s + f.p
  pos : 1 ≤ f.p
  bd : f.s + f.p ≤ B
theorem flagAt_lo {s p : Nat} {fl : List Bool} {k : Nat} (h : k < s + p) : flagAt s p fl k = fl.getD k false := if_pos h
theorem flagAt_hi {s p : Nat} {fl : List Bool} {k : Nat} (h : ¬ k < s + p) : flagAt s p fl k = fl.getD (s + (k - s) % p) false := if_neg h
/-- from the start on: by the rest -/
theorem flagAt_rest {s p : Nat} {fl : List Bool} {k : Nat} (hs : s ≤ k) : flagAt s p fl k = fl.getD (s + (k - s) % p) false := by
  by_cases h : k < s + p
  · rw [flagAt_lo h, Nat.mod_eq_of_lt (by omega)]
    congr 1; omega
  · exact flagAt_hi h
theorem flagAt_per {s p : Nat} {fl : List Bool} {k j : Nat} (hk : s ≤ k) (hj : s ≤ j) (h : (k - s) % p = (j - s) % p) : flagAt s p fl k = flagAt s p fl j := by
  rw [flagAt_rest hk, flagAt_rest hj, h]
theorem cyc_mod {fl : List Bool} {s p n : Nat} (hn : 1 ≤ n) (c : Cyc fl s p n) : ∀ j, j < p → fl.getD (s + j) false = fl.getD (s + j % n) false := by
  intro j
  induction j using Nat.strongRecOn with
  | _ j ih =>
    intro hj
    by_cases h : j < n
    · rw [Nat.mod_eq_of_lt h]
    · have h1 := c (j - n) (by omega)
      have e : j - n + n = j := by omega
      rw [e, Nat.mod_eq_of_lt hj] at h1
      rw [h1, ih (j - n) (by omega) (by omega)]
      congr 2
      rw [Nat.mod_eq_sub_mod (a := j) (by omega)]
theorem cyc_flag {fl : List Bool} {s p n : Nat} (hn : 1 ≤ n) (hp : 1 ≤ p) (d : n ∣ p) (c : Cyc fl s p n) (k : Nat) : flagAt s n fl k = flagAt s p fl k := by
  by_cases h : k < s
  · rw [flagAt_lo (by omega), flagAt_lo (by omega)]
  · rw [flagAt_rest (by omega), flagAt_rest (by omega), cyc_mod hn c _ (Nat.mod_lt _ (by omega)), Nat.mod_mod_of_dvd _ d]
theorem back_flag {fl : List Bool} {s n : Nat} (hs : 0 < s) (hn : 1 ≤ n) (h : fl.getD (s - 1) false = fl.getD (s - 1 + n) false) (k : Nat) : flagAt (s - 1) n fl k = flagAt s n fl k := by
  by_cases h1 : k < s - 1 + n
  · rw [flagAt_lo h1, flagAt_lo (by omega)]
  · rw [flagAt_rest (by omega)]
    by_cases h2 : k = s - 1 + n
    · subst h2
      rw [flagAt_lo (by omega)]
      have e : s - 1 + n - (s - 1) = n := by omega
      rw [e, Nat.mod_self, Nat.add_zero, h]
    · rw [flagAt_rest (by omega)]
      have e : k - (s - 1) = (k - s) + 1 := by omega
      rw [e]
      have lt := Nat.mod_lt (k - s) (show n > 0 by omega)
      by_cases h3 : (k - s) % n + 1 = n
      · have e2 : (k - s + 1) % n = 0 := by
          rw [Nat.add_mod]
          by_cases h4 : n = 1
          · subst h4; exact Nat.mod_one _
          · rw [Nat.mod_eq_of_lt (show 1 < n by omega), h3, Nat.mod_self]
        rw [e2, Nat.add_zero, h]
        congr 1; omega
      · have e2 : (k - s + 1) % n = (k - s) % n + 1 := by
          rw [Nat.add_mod, Nat.mod_eq_of_lt (show 1 < n by omega), Nat.mod_eq_of_lt (by omega)]
        rw [e2]
        congr 1; omega
theorem take_flag {fl : List Bool} {s n : Nat} (hn : 1 ≤ n) (k : Nat) : flagAt s n (fl.take (s + n)) k = flagAt s n fl k := by
  have g : ∀ i, i < s + n → (fl.take (s + n)).getD i false = fl.getD i false := fun i hi => by
    rw [List.getD_eq_getElem?_getD, List.getD_eq_getElem?_getD, List.getElem?_take_of_lt hi]
  by_cases h : k < s + n
  · rw [flagAt_lo h, flagAt_lo h, g _ h]
  · rw [flagAt_hi h, flagAt_hi h, g]
    have := Nat.mod_lt (k - s) (show n > 0 by omega)
    omega
/-- a function that comes again, told by its flags -/
theorem tell_flag {s p : Nat} {g : Nat → Bool} (hp : 1 ≤ p) (per : ∀ k, s ≤ k → g (k + p) = g k) (k : Nat) : flagAt s p ((List.range (s + p)).map g) k = g k := by
  have gd : ∀ i, i < s + p → ((List.range (s + p)).map g).getD i false = g i := fun i hi => by
    rw [List.getD_eq_getElem?_getD, List.getElem?_map, List.getElem?_range hi]; rfl
  by_cases h : k < s
  · rw [flagAt_lo (by omega), gd _ (by omega)]
  · have lt := Nat.mod_lt (k - s) (show p > 0 by omega)
    rw [flagAt_rest (by omega), gd _ (by omega)]
    have all : ∀ q r, s ≤ r → g (r + p * q) = g r := fun q => by
      induction q with
      | zero => intro r _; rfl
      | succ q ih =>
        intro r hr
        have e : r + p * (q + 1) = (r + p * q) + p := by rw [Nat.mul_succ]; omega
        rw [e, per _ (by omega), ih r hr]
    have e := Nat.mod_add_div (k - s) p
    have e2 := all ((k - s) / p) (s + (k - s) % p) (by omega)
    rw [← e2]
    congr 1; omega
theorem has_per {f : Fm} {k : Nat} (hk : f.s ≤ k) (n : Nat) : f.has (k + n * f.p) = f.has k := by
  unfold Fm.has
  refine flagAt_per (by omega) hk ?_
  have e : k + n * f.p - f.s = (k - f.s) + n * f.p := by omega
  rw [e, Nat.add_mul_mod_self_right]
/-- the members below start + period -/
def Fm.mem (f : Fm) : List Nat := (List.range f.fl.length).filter fun k => f.fl.getD k false
def Fm.first (f : Fm) : Option Nat := f.mem.head?
theorem first_none {f : Fm} {B : Nat} (o : FmOk f B) (h : f.first = none) (k : Nat) : f.has k = false := by
  have e : f.mem = [] := List.head?_eq_none_iff.mp h
  have all : ∀ i, i < f.s + f.p → f.fl.getD i false = false := fun i hi => by
    have := List.filter_eq_nil_iff.mp e i (List.mem_range.mpr (by rw [o.len]; exact hi))
    simpa using this
  unfold Fm.has
  have hp := o.pos
  by_cases h : k < f.s + f.p
  · rw [flagAt_lo h, all _ h]
  · rw [flagAt_hi h, all]
    have := Nat.mod_lt (k - f.s) (show f.p > 0 by omega)
    omega
theorem head_filter_range {p : Nat → Bool} : ∀ {n m : Nat}, ((List.range n).filter p).head? = some m → m < n ∧ p m = true ∧ ∀ i, i < m → p i = false := by
  intro n
  induction n with
  | zero => intro m h; simp at h
  | succ n ih =>
    intro m h
    rw [List.range_succ, List.filter_append] at h
    cases e : ((List.range n).filter p).head? with
    | some x =>
      have : (List.filter p (List.range n) ++ List.filter p [n]).head? = some x := by
        rw [List.head?_append, e]; rfl
      rw [this] at h
      cases h
      obtain ⟨h1, h2, h3⟩ := ih e
      exact ⟨by omega, h2, h3⟩
    | none =>
      have e0 := List.head?_eq_none_iff.mp e
      rw [e0, List.nil_append] at h
      have all : ∀ i, i < n → p i = false := fun i hi => by
        have := List.filter_eq_nil_iff.mp e0 i (List.mem_range.mpr hi)
        simpa using this
      cases hp : p n with
      | true =>
        simp [hp] at h
        subst h
        exact ⟨by omega, hp, all⟩
      | false => simp [hp] at h
theorem first_some {f : Fm} {B : Nat} (o : FmOk f B) {m : Nat} (h : f.first = some m) : f.has m = true ∧ (∀ k, k < m → f.has k = false) ∧ m < f.s + f.p := by
  obtain ⟨h1, h2, h3⟩ := head_filter_range h
  rw [o.len] at h1
  refine ⟨by unfold Fm.has; rw [flagAt_lo h1]; exact h2, fun k hk => by unfold Fm.has; rw [flagAt_lo (by omega)]; exact h3 k hk, h1⟩
end Ow
namespace Ow
open PySem PyProof.Rows
/-! ### so many different things among so many -/
theorem nodup_len {α : Type} [BEq α] [LawfulBEq α] : ∀ {l m : List α}, l.Nodup → (∀ x ∈ l, x ∈ m) → l.length ≤ m.length
  | [], _, _, _ => Nat.zero_le _
  | x :: l, m, nd, h => by
    rw [List.nodup_cons] at nd
    have hx := h x List.mem_cons_self
    have ih := nodup_len (l := l) (m := m.erase x) nd.2 fun y hy => by
      have hne : y ≠ x := fun e => nd.1 (e ▸ hy)
      exact (List.mem_erase_of_ne hne).mpr (h y (List.mem_cons_of_mem _ hy))
    rw [List.length_erase_of_mem hx] at ih
    have := List.length_pos_of_mem hx
    show l.length + 1 ≤ m.length
    omega
def allBits : Nat → List (List Bool)
  | 0 => [[]]
  | n + 1 => (allBits n).map (true :: ·) ++ (allBits n).map (false :: ·)
theorem allBits_len : ∀ n, (allBits n).length = 2 ^ n
  | 0 => rfl
  | n + 1 => by
    show ((allBits n).map (true :: ·) ++ (allBits n).map (false :: ·)).length = _
    rw [List.length_append, List.length_map, List.length_map, allBits_len n, Nat.pow_succ]; omega
theorem mem_allBits : ∀ {n : Nat} {l : List Bool}, l.length = n → l ∈ allBits n
  | 0, l, h => by rw [List.length_eq_zero_iff.mp h]; exact List.mem_singleton.mpr rfl
  | n + 1, b :: l, h => by
    have ih := mem_allBits (n := n) (l := l) (by simpa using h)
    show b :: l ∈ (allBits n).map (true :: ·) ++ (allBits n).map (false :: ·)
    rw [List.mem_append]
    cases b
    · exact .inr (List.mem_map.mpr ⟨l, ih, rfl⟩)
    · exact .inl (List.mem_map.mpr ⟨l, ih, rfl⟩)
/-! ### sorted texts stand in one order -/
def sle (a b : Str) : Prop := a.cps.toList ≤ b.cps.toList
theorem sle_anti {a b : Str} (h1 : sle a b) (h2 : sle b a) : a = b := by
  have e : a.cps.toList = b.cps.toList := List.le_antisymm h1 h2
  cases a with
  | mk x => cases b with
    | mk y =>
      have e' : x.toList = y.toList := e
      rw [Array.toList_inj.mp e']
theorem sle_trans {a b c : Str} (h1 : sle a b) (h2 : sle b c) : sle a c := List.le_trans h1 h2
theorem sle_total (a b : Str) : sle a b ∨ sle b a := List.le_total _ _
theorem rising_pw : ∀ {l : List Str} {p : Str}, risingS p l = true → (p :: l).Pairwise sle
  | [], p, _ => by simp
  | x :: l, p, h => by
    have h' : (!Spec.ltCps x.cps.toList p.cps.toList && risingS x l) = true := h
    rw [Bool.and_eq_true] at h'
    have h1 : sle p x := by
      have := h'.1
      rw [ltCps_eq] at this
      have : ¬ x.cps.toList < p.cps.toList := by simpa using this
      exact List.not_lt.mp this
    have ih := rising_pw h'.2
    rw [List.pairwise_cons]
    refine ⟨fun y hy => ?_, ih⟩
    rcases List.mem_cons.mp hy with rfl | hy
    · exact h1
    · exact sle_trans h1 ((List.pairwise_cons.mp ih).1 y hy)
theorem sorted_pw {l : List Str} (h : sortedS l = true) : l.Pairwise sle := by
  cases l with
  | nil => exact .nil
  | cons x r => exact rising_pw h
theorem sorted_one : ∀ {a b : List Str}, a.Pairwise sle → b.Pairwise sle → a.Nodup → b.Nodup → (∀ s, s ∈ a ↔ s ∈ b) → a = b
  | [], [], _, _, _, _, _ => rfl
  | [], y :: b, _, _, _, _, h => by
    have := (h y).mpr List.mem_cons_self
    cases this
  | x :: a, [], _, _, _, _, h => by
    have := (h x).mp List.mem_cons_self
    cases this
  | x :: a, y :: b, pa, pb, na, nb, h => by
    rw [List.pairwise_cons] at pa pb
    rw [List.nodup_cons] at na nb
    have e : x = y := by
      have hx := (h x).mp List.mem_cons_self
      have hy := (h y).mpr List.mem_cons_self
      rcases List.mem_cons.mp hx with e | hx
      · exact e
      · rcases List.mem_cons.mp hy with e | hy
        · exact e.symm
        · exact sle_anti (pa.1 y hy) (pb.1 x hx)
    subst e
    congr 1
    refine sorted_one pa.2 pb.2 na.2 nb.2 fun s => ?_
    have hs := h s
    constructor
    · intro hm
      rcases List.mem_cons.mp (hs.mp (List.mem_cons_of_mem _ hm)) with rfl | hb
      · exact absurd hm na.1
      · exact hb
    · intro hm
      rcases List.mem_cons.mp (hs.mpr (List.mem_cons_of_mem _ hm)) with rfl | ha
      · exact absurd hm nb.1
      · exact ha
end Ow
namespace Ow
open PySem PySem.Spec PyProof.Rows L2 He
/-! ### lag sets: the plain side -/
theorem get_bools {fl : List Bool} {n : Nat} (h : n < fl.length) : (fl.map vB)[n]? = some (vB (fl.getD n false)) := by
  rw [List.getElem?_map, List.getElem?_eq_getElem h, List.getD_eq_getElem?_getD, List.getElem?_eq_getElem h]
  rfl
theorem at_bools {fl : List Bool} {n : Nat} {i : Int} (e : i = (n : Int)) (h : n < fl.length) : atI (fl.map vB) i = some (vB (fl.getD n false)) := by
  subst e
  exact atI_nat (get_bools h)
theorem upTo_mem {lo hi x : Int} (h : x ∈ upTo lo hi) : lo ≤ x ∧ x < hi := by
  obtain ⟨i, hi'⟩ := List.mem_iff_getElem?.mp h
  have hl := lt_of_some hi'
  rw [ints_length] at hl
  rw [ints_get hl] at hi'
  have := Option.some.inj hi'
  omega
theorem upTo_at {lo hi x : Int} {i : Nat} (h : (upTo lo hi)[i]? = some x) : x = lo + i ∧ (i : Int) < hi - lo := by
  have hl := lt_of_some h
  rw [ints_length] at hl
  rw [ints_get hl] at h
  have := Option.some.inj h
  omega
theorem upTo_nat (n : Nat) : upTo 0 (n : Int) = (List.range n).map (fun (k : Nat) => (k : Int)) := by
  unfold upTo
  rw [Int.sub_zero, Int.toNat_natCast]
  refine List.map_congr_left fun a _ => ?_
  omega
theorem filter_true {α : Type} (xs : List α) : xs.filter (fun _ => true) = xs := List.filter_eq_self.mpr fun _ _ => rfl
theorem vL_map {α β : Type} {f : α → VP} {g : β → VP} {xs : List α} {ys : List β} (h : xs.map f = ys.map g) : vL (xs.map f) = vL (ys.map g) := by rw [h]
section
variable {P : Program} {w : World} {K : PySem.W.Frag} {mg : Str → Option Value} {base : Heap}
/-- (flags, start, period) -/
abbrev Fsp := List Bool × Nat × Nat
def FspOk (y : Fsp) : Prop := y.1.length = y.2.1 + y.2.2 ∧ 1 ≤ y.2.2 ∧ y.2.1 + y.2.2 ≤ sizeLine
theorem line62 : (sizeLine : Nat) < 2 ^ 62 := by rw [sizeLine_eq]; decide
theorem g_least_period (T : Txt K mg) : FG P w K mg base 1 "least_period" FspOk (fun y => [vL (y.1.map vB), vI y.2.1, vI y.2.2]) (fun y => vEx (fun n : Nat => 1 ≤ n ∧ n ≤ y.2.2 ∧ n ∣ y.2.2 ∧ Cyc y.1 y.2.1 y.2.2 n) (fun n => vI n)) := by
  refine fg T.d_least_period T.g_least_period sc_least_period (fun _ _ => rfl) (fun _ _ _ _ _ _ us hl => match us, hl with | [_, _, _], _ => rfl) ?_
  rintro cdv Ar outer s0 H0 E ⟨fl, s, p⟩ G Q σ hr ⟨hl, hp, hz⟩ hs k
  have h62 := line62
  have hl' : fl.length = s + p := hl
  have hp' : 1 ≤ p := hp
  have hz' : s + p ≤ sizeLine := hz
  refine s_for (γ := Unit) hs (ig_range2 (ag_cons eg_int (ag_cons (eg_var (i := 2) rfl rfl) ag_nil)) (by show _ ∧ _ ∧ _ ∧ ((p : Nat) : Int) < _; omega) T.f_range) (fun _ _ => [some (vL (fl.map vB)), some (vI s), some (vI p), none, none, none]) (fun _ _ => []) (fun _ _ => True)
    (fun _ _ x => [some (vL (fl.map vB)), some (vI s), some (vI p), some (vI x), none, none]) [3] (fun G1 σ H h => ⟨(), trivial, h⟩) (fun i _ x _ _ => gt_name 3 sc_least_period.nd) ?_ ?_
  · intro G1 gg i _ x hx _ σ H hs
    obtain ⟨ex, hi⟩ := upTo_at hx
    dsimp only at hi
    obtain ⟨n, rfl⟩ : ∃ n : Nat, x = n := ⟨(1 + i : Nat), by omega⟩
    have hn1 : 1 ≤ n := by omega
    have hn2 : n < p := by omega
    refine s_if hs (tg_cmp op_eq (rg_eq rfl) (eg_op op_mod (rg_I (by show (0 : Int) < n; omega)) (eg_var (i := 2) rfl rfl) (eg_var (i := 3) rfl rfl)) eg_int (nomark _)) (fun hk H hs => ?_) (fun _ H hs => wp_nil (wp_nil ⟨(), trivial, hs.drop 3⟩))
    have hdvd : n ∣ p := by
      have e : ((p : Int) % (n : Int)) = 0 := by
        have := of_decide_eq_true hk
        exact V.int.inj this
      have : p % n = 0 := by exact_mod_cast e
      exact Nat.dvd_of_mod_eq_zero this
    let bs : List Bool := (List.range p).map fun k => fl.getD (s + (k + n) % p) false
    refine s_setLc (α := Int) n_least_period (defScope s_least_period) [("k", 5)] (t := fun _ => true) (R := fun k => vB (fl.getD (s + (k.toNat + n) % p) false)) (fun k => [some (vL (fl.map vB)), some (vI s), some (vI p), some (vI n), none, some (vI k)]) [5] hs 4 (ig_range1 (ag_cons (eg_var (i := 2) rfl rfl) ag_nil) (by show _ ∧ ((p : Nat) : Int) < _; omega) T.f_range) (by show (upTo 0 (p : Int)).length ≤ _; rw [ints_length]; omega)
      (fun _ _ _ _ _ k _ => gt_name 5 sc_least_period.nd) (fun _ _ _ _ _ k _ => pts_yes) (fun _ _ _ _ _ k hk _ => ?_) (fun σ H hs => ?_) sc_least_period.nd
    · obtain ⟨h1, h2⟩ := upTo_mem hk
      obtain ⟨m, rfl⟩ : ∃ m : Nat, k = m := ⟨k.toNat, by omega⟩
      have hmod : (m + n) % p < p := Nat.mod_lt _ hp'
      exact eg_ix ix_list (rg_ixL (at_bools (n := s + (m + n) % p) (by show ((s : Int) + ((m : Int) + (n : Int)) % (p : Int)) = _; push_cast; rfl) (by rw [hl']; omega)))
        (eg_var (i := 0) rfl rfl) (eg_op op_add rg_I0 (eg_var (i := 1) rfl rfl) (eg_op op_mod (rg_I (by show (0 : Int) < p; omega)) (eg_op op_add rg_I0 (eg_var (i := 5) rfl rfl) (eg_var (i := 3) rfl rfl)) (eg_var (i := 2) rfl rfl)))
    · have hs : Sat G1 H0 [some (vL (fl.map vB)), some (vI s), some (vI p), some (vI n), some (vL (bs.map vB)), none] [] σ H := by
        have e : (((upTo 0 (p : Int)).filter fun _ => true).map fun k => vB (fl.getD (s + (k.toNat + n) % p) false)) = bs.map vB := by
          rw [filter_true, upTo_nat, List.map_map, List.map_map]
          rfl
        have hs' := hs
        rw [e] at hs'
        exact hs'
      refine s_if hs (tg_cmp (op_eqD hr.units) (rg_eqBs (cs := (fl.drop s).take p)) (eg_var (i := 4) rfl rfl) (eg_listL T.f_list ((eg_slL (eg_var (i := 0) rfl rfl) (og_some (eg_var (i := 1) rfl rfl)) (og_some (eg_op op_add rg_I0 (eg_var (i := 1) rfl rfl) (eg_var (i := 2) rfl rfl)))).cast ?_)) (nomark _)) (fun hk H hs => ?_) (fun _ H hs => wp_nil (wp_nil (wp_nil ⟨(), trivial, (hs.drop 3).drop 4⟩)))
      · have e : ((s : Int) + (p : Int)) = ((s + p : Nat) : Int) := by push_cast; rfl
        show vL (cutG (fl.map vB) (some (s : Int)) (some ((s : Int) + (p : Int)))) = _
        rw [e, cutG_map, cutG_mid (by omega) (by omega)]
        congr 3
        omega
      · have hbs : bs = (fl.drop s).take p := of_decide_eq_true hk
        refine s_ret hs (eg_var (i := 3) rfl rfl) fun v G' H' st q => k v G' H' ?_ ⟨n, ⟨hn1, Nat.le_of_lt hn2, hdvd, fun m hm => ?_⟩, q⟩
        · exact ⟨gg.g.trans st.g, st.h, st.gh, fun b o e n => st.out b o e (gg.out b o e n)⟩
        · have e1 : bs[m]? = some (fl.getD (s + (m + n) % p) false) := by
            show ((List.range p).map _)[m]? = _
            rw [List.getElem?_map, List.getElem?_range hm]; rfl
          have e2 : ((fl.drop s).take p)[m]? = some (fl.getD (s + m) false) := by
            rw [List.getElem?_take_of_lt hm, List.getElem?_drop, List.getD_eq_getElem?_getD, List.getElem?_eq_getElem (by have hm2 : m < p := hm; show s + m < fl.length; omega)]; rfl
          rw [hbs, e2] at e1
          exact (Option.some.inj e1).symm
  · intro _ _ σ H hs
    refine s_ret hs (eg_var (i := 2) rfl rfl) fun v G' H' st q => k v G' H' st ⟨p, ⟨hp', Nat.le_refl _, Nat.dvd_refl _, fun m hm => ?_⟩, q⟩
    rw [Nat.add_mod_right, Nat.mod_eq_of_lt hm]
end
end Ow
namespace Ow
open PySem PySem.Spec PyProof.Rows L2 He
/-! ### lag sets -/
def vForm (K : PySem.W.Frag) (f : Fm) : VP := vT K [vI f.s, vI f.p, vT K (f.fl.map vB)]
def cL (K : PySem.W.Frag) (c : Bool) : Addr := if c then ga K "FormedLags" else ga K "Lags"
def vLg (K : PySem.W.Frag) (c : Bool) (f : Fm) : VP := vO (cL K c) [("form", vForm K f)]
abbrev BL : Nat := 4194304
theorem bl_line : BL ≤ sizeLine := by rw [sizeLine_eq]; decide
theorem sizeBig : (16777216 : Nat) ≤ sizeLine := by rw [sizeLine_eq]; decide
section
variable {P : Program} {w : World} {K : PySem.W.Frag} {mg : Str → Option Value} {base : Heap}
theorem clsL (T : Txt K mg) (c : Bool) : Cls K (cL K c) := by cases c; exact T.c_Lags; exact T.c_FormedLags
theorem naL (T : Txt K mg) (c : Bool) : NoAttr K (cL K c) "form" := by cases c; exact T.na_Lags_form; exact T.na_FormedLags_form
theorem g_flag_at (T : Txt K mg) : FG P w K mg base 1 "flag_at" (fun y : Fm × Nat => FmOk y.1 BL) (fun y => [vForm K y.1, vI y.2]) (fun y => vB (y.1.has y.2)) := by
  refine (fo T.d_flag_at sc_flag_at (fun _ _ => rfl) (fun _ _ _ _ _ _ us hl => match us, hl with | [_, _], _ => rfl) ?_).fg T.g_flag_at
  rintro cdv Ar outer s0 H0 E ⟨f, n⟩ G Q σ hr ok hs k
  replace ok : FmOk f BL := ok
  have hp := ok.pos
  have hl := ok.len
  refine s_asg hs (eg_var (i := 0) rfl rfl) (gt_tup (gts_cons (gt_name 2 sc_flag_at.nd) (gts_cons (gt_name 3 sc_flag_at.nd) (gts_cons (gt_name 4 sc_flag_at.nd) gts_nil)))) fun σ H hs => ?_
  refine s_ret hs (eg_ifExp (tLt (eg_var (i := 1) rfl rfl) (gAdd (eg_var (i := 2) rfl rfl) (eg_var (i := 3) rfl rfl))) (fun hk => (gIxT (at_bools (n := n) rfl ?_) (eg_var (i := 4) rfl rfl) (eg_var (i := 1) rfl rfl)).cast (P' := vB (f.has n)) ?_) (fun hk => (gIxT (at_bools (n := f.s + (n - f.s) % f.p) ?_ ?_) (eg_var (i := 4) rfl rfl) (gAdd (eg_var (i := 2) rfl rfl) (gMod ?_ (gSub (eg_var (i := 1) rfl rfl) (eg_var (i := 2) rfl rfl)) (eg_var (i := 3) rfl rfl)))).cast ?_)) k
  · have h : (n : Int) < (f.s : Int) + f.p := of_decide_eq_true hk
    show n < f.fl.length
    omega
  · have h : (n : Int) < (f.s : Int) + f.p := of_decide_eq_true hk
    unfold Fm.has
    rw [flagAt_lo (by omega)]
  · have h : ¬ (n : Int) < (f.s : Int) + f.p := of_decide_eq_false hk
    show (f.s : Int) + ((n : Int) - f.s) % f.p = ((f.s + (n - f.s) % f.p : Nat) : Int)
    rw [show ((n : Int) - f.s) = ((n - f.s : Nat) : Int) by omega]
    push_cast; rfl
  · have := Nat.mod_lt (n - f.s) (show f.p > 0 by omega)
    show f.s + (n - f.s) % f.p < f.fl.length
    omega
  · show (0 : Int) < f.p
    omega
  · have h : ¬ (n : Int) < (f.s : Int) + f.p := of_decide_eq_false hk
    unfold Fm.has
    rw [flagAt_hi (by omega)]
/-- what a form told anew is -/
def Told (s p : Nat) (fl : List Bool) (f : Fm) : Prop := FmOk f BL ∧ f.s ≤ s ∧ f.p ∣ p ∧ ∀ k, f.has k = flagAt s p fl k
structure FspB (y : Fsp) : Prop where
  len : y.1.length = y.2.1 + y.2.2
  pos : 1 ≤ y.2.2
  bd : y.2.1 + y.2.2 ≤ BL
theorem g_least_form (T : Txt K mg) : FG P w K mg base 2 "least_form" FspB (fun y => [vL (y.1.map vB), vI y.2.1, vI y.2.2]) (fun y => vEx (Told y.2.1 y.2.2 y.1) (vForm K)) := by
  refine (fo T.d_least_form sc_least_form (fun _ _ => rfl) (fun _ _ _ _ _ _ us hl => match us, hl with | [_, _, _], _ => rfl) ?_).fg T.g_least_form
  rintro cdv Ar outer s0 H0 E ⟨fl, s, p⟩ G Q σ hr ⟨hl, hp, hb⟩ hs k
  replace hl : fl.length = s + p := hl
  replace hp : 1 ≤ p := hp
  replace hb : s + p ≤ BL := hb
  have hz := bl_line
  refine s_set hs 3 (eg_call (g_least_period T) hr (Nat.le_refl _) (fl, s, p) ⟨hl, hp, Nat.le_trans hb hz⟩ (ag_cons (eg_var (i := 0) rfl rfl) (ag_cons (eg_var (i := 1) rfl rfl) (ag_cons (eg_var (i := 2) rfl rfl) ag_nil)))) (fun σ H hs => ?_) sc_least_form.nd
  obtain ⟨n, ⟨n1, n2, n3, n4⟩, hs⟩ := hs.ex 3 rfl
  replace n2 : n ≤ p := n2
  replace n3 : n ∣ p := n3
  replace n4 : Cyc fl s p n := n4
  refine s_while (γ := Nat) (fun c => [some (vL (fl.map vB)), some (vI c), some (vI p), some (vI n)]) (fun _ => []) (fun c => c ≤ s ∧ ∀ k, flagAt c n fl k = flagAt s p fl k) id (fun c => decide ((0 : Int) < c) && decide (fl.getD (c - 1) false = fl.getD (c - 1 + n) false)) ⟨s, ⟨Nat.le_refl _, cyc_flag n1 hp n3 n4⟩, hs⟩ ?_ ?_ ?_
  · rintro c ⟨hc, _⟩
    refine (wg_and (tGt (eg_var (i := 1) rfl rfl) eg_int) fun h => wg_and1 ?_).tg
    have h' : (0 : Int) < c := of_decide_eq_true h
    exact tEqB (gIxL (at_bools (n := c - 1) (by omega) (by omega)) (eg_var (i := 0) rfl rfl) (gSub (eg_var (i := 1) rfl rfl) eg_int)) (gIxL (at_bools (n := c - 1 + n) (by omega) (by omega)) (eg_var (i := 0) rfl rfl) (gAdd (gSub (eg_var (i := 1) rfl rfl) eg_int) (eg_var (i := 3) rfl rfl)))
  · rintro c ⟨hc, he⟩ hk σ H hs
    rw [Bool.and_eq_true] at hk
    have h1 : (0 : Int) < c := of_decide_eq_true hk.1
    have h2 := of_decide_eq_true hk.2
    refine s_set hs 1 ((gSub (eg_var (i := 1) rfl rfl) eg_int).cast (P' := vI ((c - 1 : Nat) : Int)) (by congr 1; congr 1; omega)) (fun σ H hs => wp_nil ⟨c - 1, ⟨by omega, fun j => ?_⟩, by show c - 1 < c; omega, hs⟩) sc_least_form.nd
    rw [back_flag (by omega) n1 h2, he]
  · rintro c ⟨hc, he⟩ hk σ H hs
    refine s_ret hs (eg_tup (ag_cons (eg_var (i := 1) rfl rfl) (ag_cons (eg_var (i := 3) rfl rfl) (ag_cons (eg_tuple T.f_tuple ((eg_slL (eg_var (i := 0) rfl rfl) og_none (og_some (gAdd (eg_var (i := 1) rfl rfl) (eg_var (i := 3) rfl rfl)))).cast ?_)) ag_nil)))) fun v G' H' st q => k v G' H' st ⟨⟨c, n, fl.take (c + n)⟩, ⟨⟨?_, n1, ?_⟩, hc, n3, fun j => ?_⟩, q⟩
    · show vL (cutG (fl.map vB) none (some ((c : Int) + (n : Int)))) = vL ((fl.take (c + n)).map vB)
      rw [show ((c : Int) + (n : Int)) = ((c + n : Nat) : Int) by push_cast; rfl, cutG_map, cutG_to (by omega)]
    · show (fl.take (c + n)).length = c + n
      rw [List.length_take]; omega
    · show c + n ≤ BL
      omega
    · show flagAt c n (fl.take (c + n)) j = _
      rw [take_flag n1, he]
end
end Ow
namespace Ow
open PySem PySem.Spec PyProof.Rows L2 He
/-! ### lag sets -/
def vNs (K : PySem.W.Frag) (c : Bool) (Ps : List VP) : VP := if c then vT K Ps else vL Ps
abbrev vIn (n : Nat) : VP := vI (n : Int)
theorem ig_q {α : Type} {X : Cx} {tg iter : Expr} {Γ : Cn} {Ω : Om} {xs : List α} {F : α → VP} {c : Bool} (h : EG X Γ Ω iter (vNs X.K c (xs.map F))) : IG X tg iter Γ Ω xs F := by
  cases c
  · exact ig_list h
  · exact ig_tup h
def flagsOf (ns : List Nat) (m : Nat) : List Bool := (List.range m).map fun k => decide (k ∈ ns)
theorem flagsOf_set {ns : List Nat} {i m n : Nat} (h : ns[i]? = some n) (hn : n < m) : (flagsOf (ns.take i) m).set n true = flagsOf (ns.take (i + 1)) m := by
  unfold flagsOf
  refine List.ext_getElem? fun j => ?_
  have e : ns.take (i + 1) = ns.take i ++ [n] := by rw [List.take_add_one, h]; rfl
  rw [e]
  by_cases hj : n = j
  · subst hj
    rw [List.getElem?_set_self (by simp; exact hn), List.getElem?_map, List.getElem?_range hn]
    simp
  · rw [List.getElem?_set_ne hj, List.getElem?_map, List.getElem?_map]
    by_cases hm : j < m
    · rw [List.getElem?_range hm]
      have : ¬ j = n := fun z => hj z.symm
      simp [this]
    · rw [List.getElem?_eq_none (by simp; omega)]; rfl
section
variable {P : Program} {w : World} {K : PySem.W.Frag} {mg : Str → Option Value} {base : Heap}
/-- kind, single, start, period -/
structure FlY where
  c : Bool
  ns : List Nat
  s : Nat
  p : Nat
structure FlOk (y : FlY) : Prop where
  lt : ∀ n ∈ y.ns, n < y.s + y.p
  bd : y.s + y.p ≤ BL
theorem g_flags_of (T : Txt K mg) : FG P w K mg base 1 "flags_of" FlOk (fun y => [vNs K y.c (y.ns.map vIn), vT K [], vI y.s, vI y.p]) (fun y => vL ((flagsOf y.ns (y.s + y.p)).map vB)) := by
  refine (fo T.d_flags_of sc_flags_of (fun _ _ => rfl) (fun _ _ _ _ _ _ us hl => match us, hl with | [_, _, _, _], _ => rfl) ?_).fg T.g_flags_of
  rintro cdv Ar outer s0 H0 E y G Q σ hr ⟨hlt, hb⟩ hs k
  have hz := bl_line
  have h62 := line62
  refine s_new hs 4 (ng_rep (P := vB false) (n := ((y.s + y.p : Nat) : Int)) (by omega) (by omega) (eg_lst (ag_cons eg_bl ag_nil)) ((gAdd (eg_var (i := 2) rfl rfl) (eg_var (i := 3) rfl rfl)).cast (by congr 1))) (fun a σ H hs => ?_) sc_flags_of.nd
  have e0 : List.replicate ((y.s + y.p : Nat) : Int).toNat (vB false) = (flagsOf (y.ns.take 0) (y.s + y.p)).map vB := by
    unfold flagsOf
    rw [List.map_map, Int.toNat_natCast]
    refine List.ext_getElem? fun j => ?_
    rw [List.getElem?_map]
    by_cases hj : j < y.s + y.p
    · rw [List.getElem?_replicate, if_pos hj, List.getElem?_range hj]; simp
    · rw [List.getElem?_replicate, if_neg hj, List.getElem?_eq_none (by simp; omega)]; rfl
  rw [e0] at hs
  refine s_for (γ := Unit) hs (ig_q (c := y.c) (F := vIn) (eg_var (i := 0) rfl rfl)) (fun _ _ => [some (vNs K y.c (y.ns.map vIn)), some (vT K []), some (vI y.s), some (vI y.p), some (vR a), none, none]) (fun i _ => [(a, oL ((flagsOf (y.ns.take i) (y.s + y.p)).map vB))]) (fun _ _ => True)
    (fun _ _ x => [some (vNs K y.c (y.ns.map vIn)), some (vT K []), some (vI y.s), some (vI y.p), some (vR a), some (vI x), none]) [5] (fun G1 σ H h => ⟨(), trivial, h⟩) (fun i _ x _ _ => gt_name 5 sc_flags_of.nd) ?_ ?_
  · intro G1 gg i _ x hx _ σ H hs
    have hx1 : x < y.s + y.p := hlt x (List.mem_of_getElem? hx)
    have hn : ixN ((flagsOf (y.ns.take i) (y.s + y.p)).map vB).length (x : Int) = some x := by
      unfold flagsOf
      rw [List.length_map, List.length_map, List.length_range]
      (unfold ixN; rw [if_pos (by omega), if_pos (by omega)]; rfl)
    refine s_item 0 hs rfl hn (P := vB true) eg_bl (eg_var (i := 4) rfl rfl) (eg_var (i := 5) rfl rfl) fun H hs => wp_nil ⟨(), trivial, ?_⟩
    have e : ((flagsOf (y.ns.take i) (y.s + y.p)).map vB).set x (vB true) = (flagsOf (y.ns.take (i + 1)) (y.s + y.p)).map vB := by
      rw [← flagsOf_set hx hx1, List.map_set]
    have hs2 := hs.drop 5
    rw [e] at hs2
    exact hs2
  · intro _ _ σ H hs
    refine s_for (α := Nat) (xs := []) (F := vIn) (γ := Unit) hs (ig_tup (eg_var (i := 1) rfl rfl)) (fun _ _ => [some (vNs K y.c (y.ns.map vIn)), some (vT K []), some (vI y.s), some (vI y.p), some (vR a), none, none]) (fun i _ => [(a, oL ((flagsOf (y.ns.take y.ns.length) (y.s + y.p)).map vB))]) (fun _ _ => True)
      (fun _ _ x => []) [] (fun G1 σ H h => ⟨(), trivial, h⟩) (fun i _ x hx _ => by simp at hx) (fun G1 gg i _ x hx => by simp at hx) ?_
    intro _ _ σ H hs
    rw [List.take_length] at hs
    refine s_ret (hs.pub 0 4 rfl rfl) (eg_var (i := 4) rfl rfl) k
theorem g_common_multiple (T : Txt K mg) : FG P w K mg base 1 "common_multiple" (fun (y : Nat × Nat) => 0 < y.1 ∧ 0 < y.2 ∧ y.1 ≤ BL ∧ y.2 ≤ BL) (fun y => [vI y.1, vI y.2]) (fun y => vI (Nat.lcm y.1 y.2)) := by
  refine (fo T.d_common_multiple sc_common_multiple (fun _ _ => rfl) (fun _ _ _ _ _ _ us hl => match us, hl with | [_, _], _ => rfl) ?_).fg T.g_common_multiple
  rintro cdv Ar outer s H E ⟨a, b⟩ G Q σ hr ⟨ha, hb, ha', hb'⟩ hs k
  replace ha : 0 < a := ha
  replace hb : 0 < b := hb
  replace ha' : a ≤ BL := ha'
  replace hb' : b ≤ BL := hb'
  have hBL : BL = 4194304 := rfl
  refine s_par (i := 2) (j := 3) hs (ag_cons (eg_var (i := 0) rfl rfl) (ag_cons (eg_var (i := 1) rfl rfl) ag_nil)) (fun σ H hs => ?_) sc_common_multiple.nd rfl rfl
  refine s_while (γ := Nat × Nat) (fun y => [some (vI a), some (vI b), some (vI y.1), some (vI y.2)]) (fun _ => []) (fun y => 0 < y.1 ∧ y.1 ≤ BL ∧ y.2 ≤ BL ∧ Nat.gcd y.1 y.2 = Nat.gcd a b) (fun y => y.2) (fun y => decide (0 < (y.2 : Int))) ⟨(a, b), ⟨ha, ha', hb', rfl⟩, hs⟩ ?_ ?_ ?_
  · intro y hy
    exact tg_cmp op_gt rg_I0 (eg_var (i := 3) rfl rfl) eg_int (nomark _)
  · rintro ⟨g, l⟩ ⟨h1, h2, h3, h4⟩ hl σ H hs
    have hl' : 0 < l := by simpa using hl
    replace h3 : l ≤ BL := h3
    have lt := Nat.mod_lt g hl'
    refine s_par (i := 2) (j := 3) hs (ag_cons (eg_var (i := 3) rfl rfl) (ag_cons (eg_op op_mod (rg_I (by show (0 : Int) < l; omega)) (eg_var (i := 2) rfl rfl) (eg_var (i := 3) rfl rfl)) ag_nil)) (fun σ H hs => ?_) sc_common_multiple.nd rfl rfl
    refine wp_nil ⟨(l, g % l), ⟨hl', h3, by show g % l ≤ BL; omega, ?_⟩, Nat.mod_lt _ hl', hs⟩
    show Nat.gcd l (g % l) = _
    rw [← h4, Nat.gcd_comm l, ← Nat.gcd_rec, Nat.gcd_comm]
  · rintro ⟨g, l⟩ ⟨h1, h2, h3, h4⟩ hl σ H hs
    replace h1 : 0 < g := h1
    replace h2 : g ≤ BL := h2
    have hl' : l = 0 := by
      have : ¬ (0 < (l : Int)) := of_decide_eq_false hl
      omega
    subst hl'
    have hg : g = Nat.gcd a b := by
      have h4' : Nat.gcd g 0 = Nat.gcd a b := h4
      rw [← h4']; simp
    refine s_ret hs (eg_op op_mul (rg_I ?_) (eg_op op_fdiv (rg_I ⟨?_, ?_⟩) (eg_var (i := 0) rfl rfl) (eg_var (i := 2) rfl rfl)) (eg_var (i := 1) rfl rfl)) (fun v G' H' st q => k v G' H' st ?_)
    · right; constructor <;> omega
    · show (0 : Int) < g
      omega
    · show (g : Int) < _
      omega
    · have q' : v = V.int ((a : Int) / (g : Int) * (b : Int)) := q
      show v = V.int ((Nat.lcm a b : Nat) : Int)
      rw [q', hg]
      congr 1
      unfold Nat.lcm
      rw [Nat.mul_comm a b, Nat.mul_div_assoc _ (Nat.gcd_dvd_left a b), Nat.mul_comm]
      simp
/-- a lag set: its class, its form -/
structure Lg where
  c : Bool
  f : Fm
def vLG (K : PySem.W.Frag) (l : Lg) : VP := vLg K l.c l.f
theorem eg_form {X : Cx} {Γ : Cn} {Ω : Om} {e : Expr} {pos : Pos} {l : Lg} (hK : X.K = K) (T : Txt K mg) (he : EG X Γ Ω e (vLG K l)) (hb : attributeBase e "form" X.env (eval e X.env) = eval e X.env := by rfl) : EG X Γ Ω (.Attribute e "form" pos) (vForm K l.f) := by
  subst hK
  exact eg_fld (C := cL X.K l.c) (fs := [("form", vForm X.K l.f)]) he (clsL T l.c) (naL T l.c) rfl hb
structure LgOk (y : Lg × Lg) : Prop where
  a : FmOk y.1.f BL
  b : FmOk y.2.f BL
  bd : max y.1.f.s y.2.f.s + Nat.lcm y.1.f.p y.2.f.p ≤ BL
theorem g_both_ends (T : Txt K mg) : FG P w K mg base 2 "both_ends" (fun y : Lg × Lg => FmOk y.1.f BL ∧ FmOk y.2.f BL) (fun y => [vLG K y.1, vLG K y.2]) (fun y => vT K [vI ((max y.1.f.s y.2.f.s : Nat) : Int), vI ((Nat.lcm y.1.f.p y.2.f.p : Nat) : Int)]) := by
  refine (fo T.d_both_ends sc_both_ends (fun _ _ => rfl) (fun _ _ _ _ _ _ us hl => match us, hl with | [_, _], _ => rfl) ?_).fg T.g_both_ends
  rintro cdv Ar outer s H E ⟨a, b⟩ G Q σ hr ⟨ha, hb⟩ hs k
  replace ha : FmOk a.f BL := ha
  replace hb : FmOk b.f BL := hb
  obtain ⟨a1, a2, a3⟩ := ha
  obtain ⟨b1, b2, b3⟩ := hb
  refine s_ret hs (eg_tup (ag_cons ((eg_max2 T.f_max (gIxT (i := 0) rfl (eg_form (l := a) rfl T (eg_var (i := 0) rfl rfl)) eg_int) (gIxT (i := 0) rfl (eg_form (l := b) rfl T (eg_var (i := 1) rfl rfl)) eg_int)).cast ?_) (ag_cons (eg_call (g_common_multiple T) hr (Nat.le_refl _) (a.f.p, b.f.p) ⟨a2, b2, ?_, ?_⟩ (ag_cons (gIxT (i := 1) rfl (eg_form (l := a) rfl T (eg_var (i := 0) rfl rfl)) eg_int) (ag_cons (gIxT (i := 1) rfl (eg_form (l := b) rfl T (eg_var (i := 1) rfl rfl)) eg_int) ag_nil))) ag_nil))) k
  · show vI (if ((b.f.s : Int)) > a.f.s then (b.f.s : Int) else a.f.s) = vI ((max a.f.s b.f.s : Nat) : Int)
    congr 2
    split <;> omega
  · show a.f.p ≤ BL
    omega
  · show b.f.p ≤ BL
    omega
end
end Ow
namespace Ow
open PySem PySem.Spec PyProof.Rows L2 He
/-! ### lag sets made -/
section
variable {X : Cx} {Γ : Cn} {Ω : Om} {pos p : Pos} {e : Expr} {es : List Expr} {As : List VP} {P' : VP} {x : Str} {k j : Nat} {α : Type} {φ : α → Prop} {A : α → List VP} {R : α → VP}
/-- a call whose case is known once its arguments are -/
theorem eg_callE (F : FG X.prog X.w X.K X.mg X.base j x φ A R) (hr : Room k X.A) (hk : j ≤ k) (ha : AG X Γ Ω (e :: es) As) (sel : ∀ vs G, PV As vs G → ∃ y, φ y ∧ PV (A y) vs G ∧ ∀ v G', (R y).p v G' → P'.p v G') (hg : Gl X x := by rfl)
    (hdb : (x == ("__debug__" : Str)) = false := by decide) (he : starEach (e :: es) X.env = (false, eval e X.env) :: starEach es X.env := by rfl) (hpl : (backTo pos (starEach es X.env)).any (·.1) = false := by rfl) : EG X Γ Ω (.Call (.Name x p) (e :: es) [] pos) P' := by
  obtain ⟨f, fd, ps, ok, hm, hkp, hb⟩ := F.ex
  refine weak (pe_call (E := E0) ok (hr.mono hk) hg hm hkp hb .nil pass0 ha hdb he hpl) fun σ H Q ⟨G0, H0, s, k⟩ => ⟨G0, H0, s, fun vs G1 H1 g1 o1 q1 => ?_⟩
  obtain ⟨y, hy, q2, w⟩ := sel vs G1 q1
  refine ⟨y, hy, G1, o1.gh, ?_, fun v G' H' st q => k v G' H' (g1.step st) (o1.step st) (w v G' q)⟩
  rw [List.append_nil]
  exact q2
end
section
variable {P : Program} {w : World} {K : PySem.W.Frag} {mg : Str → Option Value} {base : Heap}
theorem fi {x q : Str} {st : Stmt} {N ps : List Str} {k : Nat} {f C : Addr} {α : Type} {φ : α → Prop} {A : α → List VP} {fs : α → List (Str × VP)} {dvs dvs' : List V} {kws : List (Str × V)} (hd : ∃ fd, FunD K "__init__" q (defArgs st) (defBody st) (defScope st) dvs kws f fd) (S : FnScope N ps (defScope st)) (hl : ∀ y, φ y → (A y).length + 1 = ps.length)
    (mk : Mk K C f) (hm : mg x = some (.ref C)) (hbd : ∀ fd, FunD K "__init__" q (defArgs st) (defBody st) (defScope st) dvs kws f fd → ∃ ds, Vals dvs' ds ∧ Binds K fd ps ds)
    (hb : ∀ (cdv : Value) (Ar : Around) (outer : List Env) (s : Shared) (H0 H : Hp) (E : XK) (y : α) (G : Hp) (D : L2.St → Hp → Prop) (σ : L2.St) (a dx : Addr), Room k (Ar.deeper (envOfC q (defScope st) s.heap.objs.size f cdv)) → φ y → Sat G H0 (stC N (vR a :: A y)) [(a, oI C dx [])] σ H →
      (∀ Γ' σ' H', Sat G H0 Γ' [(a, oI C dx (fs y))] σ' H' → D σ' H') → ∀ rt, wpS (bodyX P w K mg base N q (defScope st) f cdv Ar outer s H E) (defBody st) { nx := D, rt := rt } σ H) : FI P w K mg base (k + 1) C x dvs' φ A fs := by
  obtain ⟨fd, F⟩ := hd
  obtain ⟨ds, h1, h2⟩ := hbd fd F
  exact ⟨f, fd, ps, ds, fn_pi F S hl hb, hm, mk, h2, h1⟩
theorem i_FormedLags (T : Txt K mg) : FI P w K mg base 1 (ga K "FormedLags") "FormedLags" [] (fun _ : Fm => True) (fun f => [vForm K f]) (fun f => [("form", vForm K f)]) := by
  refine fi T.d_FormedLags_init sc_FormedLags_init (fun _ _ => rfl) T.mk_FormedLags T.g_FormedLags (fun fd F => ⟨[], .nil, F.bindsN fun _ _ _ _ _ _ us hl => match us, hl with | [_, _], _ => rfl⟩) ?_
  intro cdv Ar outer s0 H0 H E f G D σ a dx hr _ hs k rt
  exact s_fld hs 0 rfl (eg_var (i := 1) rfl rfl) (eg_var (i := 0) rfl rfl) T.c_FormedLags T.na_FormedLags_form (by show 0 < 1000; decide) fun H hs => wp_nil (k _ _ _ hs)
theorem g_lags_with (T : Txt K mg) : FG P w K mg base 3 "lags_with" (fun _ : Fm => True) (fun f => [vForm K f]) (fun f => vLG K ⟨true, f⟩) := by
  refine (fo T.d_lags_with sc_lags_with (fun _ _ => rfl) (fun _ _ _ _ _ _ us hl => match us, hl with | [_], _ => rfl) ?_).fg T.g_lags_with
  rintro cdv Ar outer s0 H E f G Q σ hr _ hs k
  exact s_ret hs (eg_make (i_FormedLags T) hr (Nat.le_refl _) f trivial (ds := []) rfl (fun _ => .nil) (ag_cons (eg_var (i := 0) rfl rfl) ag_nil)) k
/-- what is left of the one without the other -/
def Left (a b : Fm) (f : Fm) : Prop := FmOk f BL ∧ f.s ≤ max a.s b.s ∧ f.p ∣ Nat.lcm a.p b.p ∧ ∀ k, f.has k = (a.has k && !b.has k)
theorem g_form_left (T : Txt K mg) : FG P w K mg base 3 "form_left" LgOk (fun y => [vLG K y.1, vLG K y.2]) (fun y => vEx (Left y.1.f y.2.f) (vForm K)) := by
  refine (fo T.d_form_left sc_form_left (fun _ _ => rfl) (fun _ _ _ _ _ _ us hl => match us, hl with | [_, _], _ => rfl) ?_).fg T.g_form_left
  rintro cdv Ar outer s0 H0 E ⟨a, b⟩ G Q σ hr ⟨ha, hb, hbd⟩ hs k
  replace ha : FmOk a.f BL := ha
  replace hb : FmOk b.f BL := hb
  let S := max a.f.s b.f.s
  let L := Nat.lcm a.f.p b.f.p
  replace hbd : S + L ≤ BL := hbd
  have hz := bl_line
  have h62 := line62
  have hL : 1 ≤ L := Nat.pos_of_ne_zero (Nat.lcm_ne_zero (by have := ha.pos; omega) (by have := hb.pos; omega))
  let g : Nat → Bool := fun k => a.f.has k && !b.f.has k
  let fl : List Bool := (List.range (S + L)).map g
  refine s_asg hs (eg_call (g_both_ends T) hr (Nat.le_refl _) (a, b) ⟨ha, hb⟩ (ag_cons (eg_var (i := 0) rfl rfl) (ag_cons (eg_var (i := 1) rfl rfl) ag_nil))) (gt_tup (gts_cons (gt_name 2 sc_form_left.nd) (gts_cons (gt_name 3 sc_form_left.nd) gts_nil))) fun σ H hs => ?_
  refine s_setLc (α := Int) n_form_left (defScope s_form_left) [("k", 5)] (t := fun _ => true) (R := fun k => vB (g k.toNat)) (fun k => [some (vLG K a), some (vLG K b), some (vI (S : Int)), some (vI (L : Int)), none, some (vI k)]) [5] hs 4 (ig_range1 (n := ((S + L : Nat) : Int)) (ag_cons ((gAdd (eg_var (i := 2) rfl rfl) (eg_var (i := 3) rfl rfl)).cast (by congr 1)) ag_nil) (by omega) T.f_range) (by rw [ints_length]; omega)
    (fun _ _ _ _ _ k _ => gt_name 5 sc_form_left.nd) (fun _ _ _ _ _ k _ => pts_yes) (fun _ _ _ _ _ k hk _ => ?_) (fun σ H hs => ?_) sc_form_left.nd
  · obtain ⟨h1, h2⟩ := upTo_mem hk
    obtain ⟨m, rfl⟩ : ∃ m : Nat, k = m := ⟨k.toNat, by omega⟩
    exact eg_and (eg_call (g_flag_at T) hr (by omega) (a.f, m) ha (ag_cons (eg_form (l := a) rfl T (eg_var (i := 0) rfl rfl)) (ag_cons (eg_var (i := 5) rfl rfl) ag_nil))) fun _ => eg_one (eg_not (eg_call (g_flag_at T) hr (by omega) (b.f, m) hb (ag_cons (eg_form (l := b) rfl T (eg_var (i := 1) rfl rfl)) (ag_cons (eg_var (i := 5) rfl rfl) ag_nil))))
  · have e : (((upTo 0 ((S + L : Nat) : Int)).filter fun _ => true).map fun k => vB (g k.toNat)) = fl.map vB := by
      rw [filter_true, upTo_nat, List.map_map, List.map_map]
      rfl
    rw [e] at hs
    refine s_ret hs ((eg_call (g_least_form T) hr (Nat.le_refl _) (fl, S, L) ⟨by simp [fl], hL, hbd⟩ (ag_cons (eg_var (i := 4) rfl rfl) (ag_cons (eg_var (i := 2) rfl rfl) (ag_cons (eg_var (i := 3) rfl rfl) ag_nil)))).to (P' := vEx (Left a.f b.f) (vForm K)) fun v G ⟨f, ⟨h1, h2, h3, h4⟩, q⟩ => ⟨f, ⟨h1, h2, h3, fun k => ?_⟩, q⟩) k
    rw [h4]
    refine tell_flag hL (fun k hk => ?_) k
    replace hk : S ≤ k := hk
    have d1 : a.f.p ∣ L := Nat.dvd_lcm_left _ _
    have d2 : b.f.p ∣ L := Nat.dvd_lcm_right _ _
    obtain ⟨m1, e1⟩ := d1
    obtain ⟨m2, e2⟩ := d2
    show (a.f.has (k + L) && !b.f.has (k + L)) = (a.f.has k && !b.f.has k)
    have z1 : a.f.has (k + L) = a.f.has k := by rw [e1, Nat.mul_comm]; exact has_per (by have : a.f.s ≤ S := Nat.le_max_left _ _; omega) _
    have z2 : b.f.has (k + L) = b.f.has k := by rw [e2, Nat.mul_comm]; exact has_per (by have : b.f.s ≤ S := Nat.le_max_right _ _; omega) _
    rw [z1, z2]
/-- a lag set of such members -/
def Mem (s p : Nat) (ns : List Nat) (f : Fm) : Prop := Told s p (flagsOf ns (s + p)) f
theorem g_lags_of (T : Txt K mg) : FG P w K mg base 4 "lags_of" (fun y : FlY => FlOk y ∧ 1 ≤ y.p) (fun y => [vNs K y.c (y.ns.map vIn), vI y.s, vI y.p]) (fun y => vEx (Mem y.s y.p y.ns) (fun f => vLG K ⟨true, f⟩)) := by
  refine (fo T.d_lags_of sc_lags_of (fun _ _ => rfl) (fun _ _ _ _ _ _ us hl => match us, hl with | [_, _, _], _ => rfl) ?_).fg T.g_lags_of
  rintro cdv Ar outer s0 H E y G Q σ hr ⟨⟨h1, h2⟩, h3⟩ hs k
  refine s_ret hs (eg_callE (g_lags_with T) hr (Nat.le_refl _) (ag_cons (eg_call (g_least_form T) hr (by omega) (flagsOf y.ns (y.s + y.p), y.s, y.p) ⟨by simp [flagsOf], h3, h2⟩ (ag_cons (eg_call (g_flags_of T) hr (by omega) y ⟨h1, h2⟩ (ag_cons (eg_var (i := 0) rfl rfl) (ag_cons (eg_tup ag_nil) (ag_cons (eg_var (i := 1) rfl rfl) (ag_cons (eg_var (i := 2) rfl rfl) ag_nil))))) (ag_cons (eg_var (i := 1) rfl rfl) (ag_cons (eg_var (i := 2) rfl rfl) ag_nil)))) ag_nil) fun vs G q => ?_) k
  cases q with
  | cons q t =>
    cases t
    obtain ⟨f, h, q⟩ := q
    exact ⟨f, trivial, .cons q .nil, fun v G' z => ⟨f, h, z⟩⟩
theorem g_left_of (T : Txt K mg) : FG P w K mg base 4 "left_of" LgOk (fun y => [vLG K y.1, vLG K y.2]) (fun y => vEx (Left y.1.f y.2.f) (fun f => vLG K ⟨true, f⟩)) := by
  refine (fo T.d_left_of sc_left_of (fun _ _ => rfl) (fun _ _ _ _ _ _ us hl => match us, hl with | [_, _], _ => rfl) ?_).fg T.g_left_of
  rintro cdv Ar outer s0 H E y G Q σ hr ok hs k
  refine s_ret hs (eg_callE (g_lags_with T) hr (Nat.le_refl _) (ag_cons (eg_call (g_form_left T) hr (by omega) y ok (ag_cons (eg_var (i := 0) rfl rfl) (ag_cons (eg_var (i := 1) rfl rfl) ag_nil))) ag_nil) fun vs G q => ?_) k
  cases q with
  | cons q t =>
    cases t
    obtain ⟨f, h, q⟩ := q
    exact ⟨f, trivial, .cons q .nil, fun v G' z => ⟨f, h, z⟩⟩
/-! members, first, in -/
theorem pairs_eq {fl : List Bool} : pairs fl = (List.range fl.length).map fun i => (i, fl.getD i false) := by
  refine List.ext_getElem? fun i => ?_
  by_cases h : i < fl.length
  · rw [List.getElem?_map, List.getElem?_range h]
    unfold pairs
    have e : ((List.range fl.length).zip fl)[i]? = some (i, fl[i]) := List.getElem?_zip_eq_some.mpr ⟨List.getElem?_range h, List.getElem?_eq_getElem h⟩
    rw [e]
    simp [h]
  · rw [List.getElem?_eq_none (by rw [pairs_length]; omega), List.getElem?_eq_none (by simp; omega)]
theorem mem_pairs {f : Fm} : ((pairs f.fl).filter fun q => q.2).map (fun q => q.1) = f.mem := by
  rw [pairs_eq, List.filter_map, List.map_map]
  unfold Fm.mem
  have : ((fun q : Nat × Bool => q.1) ∘ fun i => (i, f.fl.getD i false)) = id := rfl
  rw [this, List.map_id]
  rfl
theorem first_any {f : Fm} : f.first.isSome = f.fl.any id := by
  unfold Fm.first
  rw [Bool.eq_iff_iff, List.any_eq_true]
  have hh : f.mem.head?.isSome = true ↔ f.mem ≠ [] := by cases f.mem <;> simp
  rw [hh]
  constructor
  · intro h
    obtain ⟨k, hk⟩ := List.exists_mem_of_ne_nil _ h
    unfold Fm.mem at hk
    rw [List.mem_filter, List.mem_range] at hk
    refine ⟨true, ?_, rfl⟩
    have := hk.2
    rw [List.getD_eq_getElem?_getD, List.getElem?_eq_getElem hk.1] at this
    have e : f.fl[k] = true := this
    rw [← e]; exact List.getElem_mem hk.1
  · rintro ⟨b, hb, rfl⟩ h
    obtain ⟨i, hi, e⟩ := List.mem_iff_getElem.mp hb
    have : i ∈ f.mem := by
      unfold Fm.mem
      rw [List.mem_filter, List.mem_range]
      refine ⟨hi, ?_⟩
      rw [List.getD_eq_getElem?_getD, List.getElem?_eq_getElem hi, e]; rfl
    rw [h] at this; cases this
theorem o_members (T : Txt K mg) : FO P w K mg base 1 (prG K "Lags" "members") (fun l : Lg => l.f.fl.length ≤ BL) (fun l => [vLG K l]) (fun l => vT K (l.f.mem.map vIn)) := by
  refine fo T.d_Lags_members sc_Lags_members (fun _ _ => rfl) (fun _ _ _ _ _ _ us hl => match us, hl with | [_], _ => rfl) ?_
  rintro cdv Ar outer s0 H E l G Q σ hr hlen hs k
  replace hlen : l.f.fl.length ≤ BL := hlen
  have hz := bl_line
  refine s_ret hs ((eg_tuple T.f_tuple (eg_lc n_Lags_members (defScope s_Lags_members) [("k", 1), ("flag", 2)] (t := fun q : Nat × Bool => q.2) (R := fun q => vIn q.1) (fun q => [some (vLG K l), some (vI q.1), some (vB q.2)]) [1, 2] (ig_enumT (xs := l.f.fl) (F := vB) (ag_cons (gIxT (i := 2) rfl (eg_form (l := l) rfl T (eg_var (i := 0) rfl rfl)) eg_int) ag_nil) T.f_enumerate) (by rw [pairs_length]; omega)
    (fun _ _ _ _ _ q _ => gt_tup (gts_cons (gt_name 1 sc_Lags_members.nd) (gts_cons (gt_name 2 sc_Lags_members.nd) gts_nil))) (fun _ _ _ _ _ q _ => pts_if (tg_val (eg_var (i := 2) rfl rfl))) (fun _ _ _ _ _ q _ _ => eg_var (i := 1) rfl rfl) sc_Lags_members.nd)).cast ?_) k
  rw [← mem_pairs, List.map_map]
  rfl
def vOpt : Option Nat → VP
  | some m => vIn m
  | none => vN
theorem p_members (T : Txt K mg) (c : Bool) : FP P w K mg base 1 (cL K c) "members" (fun l : Lg => l.f.fl.length ≤ BL) (fun l => [vLG K l]) (fun l => vT K (l.f.mem.map vIn)) := by
  cases c
  · exact (o_members T).fp T.c_Lags T.p_Lags_members
  · refine (o_members T).fp (p := ma K (ga K "FormedLags") "members") T.c_FormedLags ?_
    rw [← T.sp_members]
    exact T.p_FormedLags_members
theorem eg_members {X : Cx} {Γ : Cn} {Ω : Om} {e : Expr} {pos : Pos} {l : Lg} {k : Nat} (T : Txt X.K X.mg) (hr : Room k X.A) (hk : 2 ≤ k) (ok : l.f.fl.length ≤ BL) (he : EG X Γ Ω e (vLG X.K l)) (hb : attributeBase e "members" X.env (eval e X.env) = eval e X.env := by rfl) : EG X Γ Ω (.Attribute e "members" pos) (vT X.K (l.f.mem.map vIn)) :=
  eg_prop (C := cL X.K l.c) (fs := [("form", vForm X.K l.f)]) (p_members T l.c) hr hk l ok rfl he hb
theorem o_first (T : Txt K mg) : FO P w K mg base 3 (prG K "Lags" "first") (fun l : Lg => FmOk l.f BL) (fun l => [vLG K l]) (fun l => vOpt l.f.first) := by
  refine fo T.d_Lags_first sc_Lags_first (fun _ _ => rfl) (fun _ _ _ _ _ _ us hl => match us, hl with | [_], _ => rfl) ?_
  rintro cdv Ar outer s0 H E l G Q σ hr ok hs k
  replace ok : FmOk l.f BL := ok
  have hlen : l.f.fl.length ≤ BL := by rw [ok.len]; exact ok.bd
  refine s_ret hs (eg_ifExp (k := l.f.fl.any id) (P := vOpt l.f.first) (tg_val (eg_anyT (bs := l.f.fl) T.f_any (gIxT (i := 2) (P := vT K (l.f.fl.map vB)) rfl (eg_form (l := l) rfl T (eg_var (i := 0) rfl rfl)) eg_int))) (fun h => ?_) (fun h => ?_)) k
  · have h' : l.f.first.isSome = true := by rw [first_any]; exact h
    cases e : l.f.first with
    | none => rw [e] at h'; cases h'
    | some m =>
      refine gIxT (i := 0) ?_ (eg_members (l := l) T hr (Nat.le_refl _) hlen (eg_var (i := 0) rfl rfl)) eg_int
      have : (l.f.mem.map vIn)[0]? = some (vIn m) := by
        rw [List.getElem?_map, ← List.head?_eq_getElem?]
        have : l.f.mem.head? = some m := e
        rw [this]; rfl
      exact atI_nat this
  · have h' : l.f.first.isSome = false := by rw [first_any]; exact h
    cases e : l.f.first with
    | none => exact eg_non
    | some m => rw [e] at h'; cases h'
theorem p_first (T : Txt K mg) (c : Bool) : FP P w K mg base 3 (cL K c) "first" (fun l : Lg => FmOk l.f BL) (fun l => [vLG K l]) (fun l => vOpt l.f.first) := by
  cases c
  · exact (o_first T).fp T.c_Lags T.p_Lags_first
  · refine (o_first T).fp (p := ma K (ga K "FormedLags") "first") T.c_FormedLags ?_
    rw [← T.sp_first]
    exact T.p_FormedLags_first
theorem eg_first {X : Cx} {Γ : Cn} {Ω : Om} {e : Expr} {pos : Pos} {l : Lg} {k : Nat} (T : Txt X.K X.mg) (hr : Room k X.A) (hk : 4 ≤ k) (ok : FmOk l.f BL) (he : EG X Γ Ω e (vLG X.K l)) (hb : attributeBase e "first" X.env (eval e X.env) = eval e X.env := by rfl) : EG X Γ Ω (.Attribute e "first" pos) (vOpt l.f.first) :=
  eg_prop (C := cL X.K l.c) (fs := [("form", vForm X.K l.f)]) (p_first T l.c) hr hk l ok rfl he hb
/-! in -/
theorem o_contains (T : Txt K mg) : FO P w K mg base 2 (ma K (ga K "Lags") "__contains__") (fun y : Lg × Nat => FmOk y.1.f BL) (fun y => [vLG K y.1, vIn y.2]) (fun y => vB (y.1.f.has y.2)) := by
  refine fo T.d_Lags_contains sc_Lags_contains (fun _ _ => rfl) (fun _ _ _ _ _ _ us hl => match us, hl with | [_, _], _ => rfl) ?_
  rintro cdv Ar outer s0 H E ⟨l, n⟩ G Q σ hr ok hs k
  replace ok : FmOk l.f BL := ok
  refine s_ret hs ((eg_and (eg_call (g_is_integer T) hr (by omega) (n : Int) trivial (ag_cons (eg_var (i := 1) rfl rfl) ag_nil)) fun _ => eg_and (eGe (eg_var (i := 1) rfl rfl) eg_int) fun _ => eg_one (eg_call (g_flag_at T) hr (by omega) (l.f, n) ok (ag_cons (eg_form (l := l) rfl T (eg_var (i := 0) rfl rfl)) (ag_cons (eg_var (i := 1) rfl rfl) ag_nil)))).cast ?_) k
  simp
end
end Ow
namespace Ow
open PySem PySem.Spec PyProof.Rows L2 He
/-! ### more words -/
section
variable {X : Cx} {Γ : Cn} {Ω : Om} {pos : Pos} {a b : Expr} {G0 H0 H : Hp} {σ : L2.St} {D : Ends} {rest : List Stmt} {P : VP}
/-- a test that does not hold -/
theorem s_skip {c : Expr} {body : List Stmt} {k0 : Bool} (hs : Sat G0 H0 Γ Ω σ H) (hc : TG X Γ Ω c k0) (hk : k0 = false) (k : ∀ H', Sat G0 H0 Γ Ω σ H' → wpS X rest D σ H') : wpS X (.If c body [] pos :: rest) D σ H :=
  s_if hs hc (fun h => by rw [hk] at h; cases h) fun _ H' hs => wp_nil (k H' hs)
theorem ig_str {tg e : Expr} {x : Str} (he : EG X Γ Ω e (vS x)) : IG X tg e Γ Ω x.cps.toList (fun c => vS ⟨#[c]⟩) := weakI (pi_str he) fun σ H R ⟨G0, H0, s, k⟩ => ⟨G0, H0, s, fun v G H' g o q => by
  refine ⟨x, q, k _ G H' g o ⟨fun i H1 hi s1 => ?_, fun H1 s1 => ?_, fun i H1 v H2 c G1 hx s0 s1 y => ?_⟩⟩
  · exact hi
  · exact Nat.le_refl _
  · obtain ⟨e1, c', hc, e2⟩ := y
    subst e1 e2
    have e3 : x.cps.toList[i]? = some c' := by rw [Array.getElem?_toList]; exact hc
    rw [hx] at e3
    cases e3
    exact ⟨G1, Step.refl s1, rfl⟩⟩
theorem gIxS {x : Str} {i : Int} {c : Nat} (hl : x.length ≤ sizeLine) (h : atI x.cps.toList i = some c) (ha : EG X Γ Ω a (vS x)) (hb : EG X Γ Ω b (vI i)) (hs : PlainIx b := by exact fun _ _ => rfl) : EG X Γ Ω (.Subscript a b pos) (vS ⟨#[c]⟩) :=
  eg_ix ix_str (rg_val fun H Q q => ⟨x, i, c, rfl, rfl, hl, h, q⟩) ha hb hs
theorem gInSign {c : Nat} {z : Str} (ha : EG X Γ Ω a (vS ⟨#[c]⟩)) (hb : EG X Γ Ω b (vS z)) (hm : behindInMarks .In b = false := by rfl) : EG X Γ Ω (.Compare a [.In] [b] pos) (vB (decide (c ∈ z.cps.toList))) :=
  eg_cmp op_in_sign (rg_val fun H Q q => ⟨c, z, rfl, rfl, q⟩) ha hb hm
theorem tNotInSign {c : Nat} {z : Str} (ha : EG X Γ Ω a (vS ⟨#[c]⟩)) (hb : EG X Γ Ω b (vS z)) (hm : behindInMarks .NotIn b = false := by rfl) : TG X Γ Ω (.Compare a [.NotIn] [b] pos) (!decide (c ∈ z.cps.toList)) :=
  tg_cmp op_notIn_sign (rg_val fun H Q q => ⟨c, z, rfl, rfl, q⟩) ha hb hm
theorem gCatS {x y : Str} (hl : x.length + y.length ≤ sizeLine) (ha : EG X Γ Ω a (vS x)) (hb : EG X Γ Ω b (vS y)) : EG X Γ Ω (.BinOp a .Add b pos) (vS (x ++ y)) :=
  eg_op op_add_str (rg_val fun H Q q => ⟨x, y, rfl, rfl, hl, q⟩) ha hb
theorem gGI {x : Str} {i : Int} (h : ∃ t, X.mg x = some (.int i t)) (hg : Gl X x := by rfl) (hd : (x == ("__debug__" : Str)) = false := by decide) : EG X Γ Ω (.Name x pos) (vI i) := let ⟨t, e⟩ := h; eg_glob hg e ⟨t, rfl⟩ hd
theorem gGS {x : Str} {i : Str} (h : ∃ t, X.mg x = some (.str i t)) (hg : Gl X x := by rfl) (hd : (x == ("__debug__" : Str)) = false := by decide) : EG X Γ Ω (.Name x pos) (vS i) := let ⟨t, e⟩ := h; eg_glob hg e ⟨t, rfl⟩ hd
theorem eg_lenS {p : Pos} {x : Str} (hl : x.length ≤ sizeLine) (hm : X.mg "len" = none) (he : EG X Γ Ω a (vS x)) (hg : Gl X "len" := by rfl) (h1 : starEach [a] X.env = (false, eval a X.env) :: starEach [] X.env := by rfl) (h3 : (backTo pos (starEach [] X.env)).any (·.1) = false := by rfl) : EG X Γ Ω (.Call (.Name "len" p) [a] [] pos) (vI (x.length : Nat)) :=
  eg_len hm (fun vs G H Q sm q k => by
    cases q with
    | cons q t =>
      cases t
      have e : _ = V.str x := q
      subst e
      exact ⟨_, _, rfl, ⟨hl, rfl⟩, k _ _ _ (Step.refl sm) rfl⟩) he hg h1 h3
theorem tg_chain {op op' : CmpOp} {r r' : R2} {Pa Pb Pc : VP} {c : Expr} {k m : Bool} (ho : OpR X (compareOp op) r) (ho' : OpR X (compareOp op') r') (hr : RG r Pa Pb (vB k)) (hr' : RG r' Pb Pc (vB m))
    (ha : EG X Γ Ω a Pa) (hb : EG X Γ Ω b Pb) (hc : EG X Γ Ω c Pc) (hm : lastMarks [op, op'] [b, c] = false := by rfl) : TG X Γ Ω (.Compare a [op, op'] [b, c] pos) (k && m) := by
  refine weakT (pt_chain ho ho' ha hb hc hm) ?_
  rintro σ H Q ⟨G0, H0, s, w⟩
  refine ⟨G0, H0, s, fun x G1 H1 g1 o1 q1 => ⟨G1, H0, ⟨G1, g1.self, o1⟩, fun y G2 H2 g2 o2 q2 => ?_⟩⟩
  refine hr x y G2 H2 _ o2.gh (Pa.mono g2.g q1) q2 fun z G3 H3 st3 q3 => ⟨k, q3, ?_⟩
  have g3 := (g1.trans g2).step st3
  have o3 := o2.step st3
  cases k with
  | true =>
    rw [if_pos rfl]
    refine ⟨G3, H0, ⟨G3, g3.self, o3⟩, fun u G4 H4 g4 o4 q4 => ?_⟩
    refine hr' y u G4 H4 _ o4.gh (Pb.mono (st3.g.trans g4.g) q2) q4 fun z G5 H5 st5 q5 => ⟨m, q5, ?_⟩
    exact w G5 H5 ((g3.trans g4).step st5) (o4.step st5)
  | false =>
    rw [if_neg Bool.false_ne_true]
    exact ⟨false, rfl, w G3 H3 g3 o3⟩
/-- lo <= x <= hi -/
theorem tLeLe {c : Expr} {i j l : Int} (ha : EG X Γ Ω a (vI i)) (hb : EG X Γ Ω b (vI j)) (hc : EG X Γ Ω c (vI l)) (hm : lastMarks [.LtE, .LtE] [b, c] = false := by rfl) : TG X Γ Ω (.Compare a [.LtE, .LtE] [b, c] pos) (decide (i ≤ j) && decide (j ≤ l)) := tg_chain op_le op_le rg_I0 rg_I0 ha hb hc hm
end
/-! ### names -/
def menu : List Str := ["a", "b", "cut", "weld", "z9", "link", "no", "k1", "x", "station", "any", "aa"]
def letters : Str := "abcdefghijklmnopqrstuvwxyz"
def signs : Str := letters ++ "0123456789"
theorem menu_ok : ∀ s ∈ menu, 1 ≤ s.length ∧ s.length ≤ 8 ∧ (∃ c, atI s.cps.toList 0 = some c ∧ c ∈ letters.cps.toList) ∧ ∀ c ∈ s.cps.toList, c ∈ signs.cps.toList := by
  have h : (menu.all fun s => decide (1 ≤ s.length ∧ s.length ≤ 8) && (match atI s.cps.toList 0 with
    | some c => decide (c ∈ letters.cps.toList)
    | none => false) && s.cps.toList.all fun c => decide (c ∈ signs.cps.toList)) = true := by decide +kernel
  intro s hs
  have h1 := List.all_eq_true.mp h s hs
  rw [Bool.and_eq_true, Bool.and_eq_true] at h1
  obtain ⟨⟨h2, h3⟩, h4⟩ := h1
  have h2 := of_decide_eq_true h2
  refine ⟨h2.1, h2.2, ?_, fun c hc => of_decide_eq_true (List.all_eq_true.mp h4 c hc)⟩
  cases e : atI s.cps.toList 0 with
  | none => rw [e] at h3; cases h3
  | some c => rw [e] at h3; exact ⟨c, rfl, of_decide_eq_true h3⟩
section
variable {P : Program} {w : World} {K : PySem.W.Frag} {mg : Str → Option Value} {base : Heap}
theorem g_is_name (T : Txt K mg) : FG P w K mg base 1 "is_name" (fun s : Str => s ∈ menu) (fun s => [vS s]) (fun _ => vB true) := by
  refine (fo T.d_is_name sc_is_name (fun _ _ => rfl) (fun _ _ _ _ _ _ us hl => match us, hl with | [_], _ => rfl) ?_).fg T.g_is_name
  rintro cdv Ar outer s0 H0 E s G Q σ hr hmen hs k
  obtain ⟨l1, l2, ⟨c, hc, hcl⟩, hall⟩ := menu_ok s hmen
  have h30 := small30
  have hsz : s.cps.toList.length = s.length := rfl
  refine s_skip hs (wg_or (tg_not (tg_val (eg_isi T.f_isinstance T.f_str boot_str (fun _ _ => tyS) (by decide +kernel : kitB "str" "str" = some true) (eg_var (i := 0) rfl rfl)))) fun _ => wg_or (tg_not (tLeLe eg_int (eg_lenS (by omega) T.f_len (eg_var (i := 0) rfl rfl)) (gGI T.i_MOST_SIGNS))) fun _ => wg_or1 (tNotInSign (gIxS (by omega) hc (eg_var (i := 0) rfl rfl) eg_int) (gGS T.t_LETTERS))).tg ?_ fun H hs => ?_
  · have e1 : decide ((1 : Int) ≤ (s.length : Nat)) = true := decide_eq_true (by omega)
    have e2 : decide (((s.length : Nat) : Int) ≤ 8) = true := decide_eq_true (by omega)
    have e3 : decide (c ∈ ("abcdefghijklmnopqrstuvwxyz" : Str).cps.toList) = true := decide_eq_true hcl
    rw [e1, e2, e3]
    rfl
  · refine s_ret hs ((eg_all (bs := s.cps.toList.map fun c => decide (c ∈ signs.cps.toList)) T.f_all ((eg_lc n_is_name (defScope s_is_name) [("sign", 1)] (t := fun _ : Nat => true) (R := fun c => vB (decide (c ∈ signs.cps.toList))) (fun c => [some (vS s), some (vS ⟨#[c]⟩)]) [1] (ig_str (eg_var (i := 0) rfl rfl)) (by omega)
      (fun _ _ _ _ _ c _ => gt_name 1 sc_is_name.nd) (fun _ _ _ _ _ c _ => pts_yes) (fun _ _ _ _ _ c _ _ => gInSign (z := signs) (eg_var (i := 1) rfl rfl) (gCatS (by decide +kernel) (gGS T.t_LETTERS) (gGS T.t_DIGITS))) sc_is_name.nd).cast ?_)).cast ?_) k
    · rw [filter_true, List.map_map]; rfl
    · congr 1
      rw [List.all_map, List.all_eq_true]
      intro c hc
      exact decide_eq_true (hall c hc)
theorem g_check_name (T : Txt K mg) : FG P w K mg base 2 "check_name" (fun s : Str => s ∈ menu) (fun s => [vS s]) (fun _ => vN) := by
  refine (fo T.d_check_name sc_check_name (fun _ _ => rfl) (fun _ _ _ _ _ _ us hl => match us, hl with | [_], _ => rfl) ?_).fg T.g_check_name
  rintro cdv Ar outer s0 H0 E s G Q σ hr hmen hs k
  exact s_skip hs (tg_not (tg_val (eg_call (g_is_name T) hr (Nat.le_refl _) s hmen (ag_cons (eg_var (i := 0) rfl rfl) ag_nil)))) rfl fun H hs => s_end hs fun G' H' st => k _ G' H' st rfl
theorem g_check_flag (T : Txt K mg) : FG P w K mg base 1 "check_flag" (fun _ : Bool => True) (fun s => [vB s]) (fun _ => vN) := by
  refine (fo T.d_check_flag sc_check_flag (fun _ _ => rfl) (fun _ _ _ _ _ _ us hl => match us, hl with | [_], _ => rfl) ?_).fg T.g_check_flag
  rintro cdv Ar outer s0 H0 E s G Q σ hr _ hs k
  exact s_skip hs (tg_not (tg_val (eg_isi T.f_isinstance T.f_bool boot_bool (fun _ _ => tyB) (by decide +kernel : kitB "bool" "bool" = some true) (eg_var (i := 0) rfl rfl)))) rfl fun H hs => s_end hs fun G' H' st => k _ G' H' st rfl
theorem g_check_whole (T : Txt K mg) : FG P w K mg base 1 "check_whole" (fun _ : Bool => True) (fun s => [vB s]) (fun _ => vN) := by
  refine (fo T.d_check_whole sc_check_whole (fun _ _ => rfl) (fun _ _ _ _ _ _ us hl => match us, hl with | [_], _ => rfl) ?_).fg T.g_check_whole
  rintro cdv Ar outer s0 H0 E s G Q σ hr _ hs k
  exact s_skip hs (tg_not (tg_val (eg_isi T.f_isinstance T.f_bool boot_bool (fun _ _ => tyB) (by decide +kernel : kitB "bool" "bool" = some true) (eg_var (i := 0) rfl rfl)))) rfl fun H hs => s_end hs fun G' H' st => k _ G' H' st rfl
/-- single = the one 0, or nothing -/
def sg (b : Bool) : List Nat := if b then [0] else []
theorem g_check_numbers (T : Txt K mg) : FG P w K mg base 2 "check_numbers" (fun _ : Bool => True) (fun b => [vT K ((sg b).map vIn)]) (fun _ => vN) := by
  refine (fo T.d_check_numbers sc_check_numbers (fun _ _ => rfl) (fun _ _ _ _ _ _ us hl => match us, hl with | [_], _ => rfl) ?_).fg T.g_check_numbers
  rintro cdv Ar outer s0 H0 E b G Q σ hr _ hs k
  refine s_skip hs (tg_not (tg_val (eg_isi T.f_isinstance T.f_tuple boot_tuple (fun _ _ => tyT) (by decide +kernel : kitB "tuple" "tuple" = some true) (eg_var (i := 0) rfl rfl)))) rfl fun H hs => ?_
  refine s_for (γ := Unit) hs (ig_enumT (xs := sg b) (F := vIn) (ag_cons (eg_var (i := 0) rfl rfl) ag_nil) T.f_enumerate) (fun _ _ => [some (vT K ((sg b).map vIn)), none, none]) (fun _ _ => []) (fun _ _ => True)
    (fun _ _ x => [some (vT K ((sg b).map vIn)), some (vI x.1), some (vIn x.2)]) [1, 2] (fun G1 σ H h => ⟨(), trivial, h⟩) (fun i _ x _ _ => gt_tup (gts_cons (gt_name 1 sc_check_numbers.nd) (gts_cons (gt_name 2 sc_check_numbers.nd) gts_nil))) ?_ ?_
  · intro G1 gg i _ x hx _ σ H hs
    have hx2 : x.2 = 0 := by
      have := (pairs_get hx).2
      have := List.mem_of_getElem? this
      unfold sg at this
      cases b <;> simp at this
      exact this
    refine s_skip hs (wg_or (tg_not (tg_val (eg_call (g_is_integer T) hr (Nat.le_refl _) (x.2 : Int) trivial (ag_cons (eg_var (i := 2) rfl rfl) ag_nil)))) fun _ => wg_or1 (tg_not (tLeLe eg_int (eg_var (i := 2) rfl rfl) (gGI T.i_MOST_MEMBER)))).tg ?_ fun H hs => wp_nil ⟨(), trivial, (hs.drop 1).drop 2⟩
    rw [hx2]; rfl
  · intro _ _ σ H hs
    exact s_end hs fun G' H' st => k _ G' H' st rfl
end
end Ow
namespace Ow
open PySem PySem.Spec PyProof.Rows L2 He
/-! ### calls with keywords -/
def tGK (Γ : Cn) (Ω : Om) (Ps : List VP) : TA := tGA Γ Ω Ps
abbrev KG (X : Cx) (Γ : Cn) (Ω : Om) (ks : List Keyword) (Ps : List VP) : Prop := PK X ks (tGA Γ Ω Ps)
section
variable {X : Cx} {Γ : Cn} {Ω : Om} {pos p kpos : Pos} {e : Expr} {es : List Expr} {kws : List Keyword} {P : VP} {Ps Zs As : List VP} {x : Str} {k j : Nat} {α : Type} {φ : α → Prop} {A : α → List VP} {fs : α → List (Str × VP)} {C : Addr} {nm : Option Str}
theorem weakK {X : Cx} {ks : List Keyword} {t t' : TA} (h : PK X ks t) (w : ∀ σ H Q, t' σ H Q → t σ H Q) : PK X ks t' := ⟨fun pos pins s σ H Q I q => h.run pos pins s σ H Q I (w σ H Q q)⟩
theorem kg_nil : KG X Γ Ω [] [] := weakK pk_nil fun σ H Q ⟨G0, H0, ⟨G, g, o⟩, k⟩ => k [] G H g o .nil
theorem kg_cons (ha : EG X Γ Ω e P) (hr : KG X Γ Ω kws Ps) : KG X Γ Ω (⟨nm, e, kpos⟩ :: kws) (P :: Ps) :=
  weakK (pk_cons ha hr) fun σ H Q ⟨G0, H0, s, k⟩ => ⟨G0, H0, s, fun x G1 H1 g1 o1 q1 => ⟨G1, H0, ⟨G1, g1.self, o1⟩, fun xs G2 H2 g2 o2 q2 => k (x :: xs) G2 H2 (g1.trans g2) o2 (.cons (P.mono g2.g q1) q2)⟩⟩
/-- C(.., k = v): n values besides self, keywords ks -/
structure FIK (P : Program) (w : World) (K : PySem.W.Frag) (mg : Str → Option Value) (base : Heap) (k : Nat) (C : Addr) (x : Str) (n : Nat) (ks : List Str) {α : Type} (φ : α → Prop) (A : α → List VP) (fs : α → List (Str × VP)) : Prop where
  ex : ∃ f fd ps g, FnOk P w K mg base CX0 k f fd ps (PiS C φ A fs) ∧ mg x = some (.ref C) ∧ Mk K C f ∧ KBn K fd ps (n + 1) ks g (fun vs zs => vs ++ zs)
theorem eg_makeK {n : Nat} {ks : List Str} (F : FIK X.prog X.w X.K X.mg X.base j C x n ks φ A fs) (hr : Room k X.A) (hk : j + 1 ≤ k) (ha : AG X Γ Ω (e :: es) As) (hz : KG X Γ Ω kws Zs) (hn : As.length = n) (hz2 : Zs.length = ks.length) (y : α) (hy : φ y) (hA : A y = As ++ Zs) (hg : Gl X x := by rfl)
    (hall : (backToKw pos (keywordEach kws X.env)).all (·.1.isSome) = true := by rfl) (hks : (backToKw pos (keywordEach kws X.env)).filterMap (·.1) = ks := by rfl) (hdb : (x == ("__debug__" : Str)) = false := by decide)
    (he : starEach (e :: es) X.env = (false, eval e X.env) :: starEach es X.env := by rfl) (hpl : ((backTo pos (starEach (e :: es) X.env)).any (·.1) || (backToKw pos (keywordEach kws X.env)).any (·.1.isNone)) = false := by rfl) : EG X Γ Ω (.Call (.Name x p) (e :: es) kws pos) (vO C (fs y)) := by
  obtain ⟨f, fd, ps, g, ok, hm, mk, hb⟩ := F.ex
  refine weak (pe_makeK (E := E0) mk ok (hr.mono hk) hg hm hb pass0 ha hz hall hks hdb he hpl) fun σ H Q ⟨G0, H0, s, k⟩ => ⟨G0, H0, s, fun vs G1 H1 g1 o1 q1 => ⟨G1, H0, ⟨G1, g1.self, o1⟩, fun zs G2 H2 g2 o2 q2 => ⟨by rw [← Paired.length q1]; exact hn, by rw [← Paired.length q2]; exact hz2, fun a dx h1 h2 h3 => ?_⟩⟩⟩
  exact make_out (vs := vs ++ zs) (g1.trans g2) o2 hy (by rw [hA]; exact (PV.mono g2.g q1).append q2) k h1 h2 h3
/-- the arguments' case is known only once they are -/
theorem eg_makeKE {n : Nat} {ks : List Str} {P' : VP} (F : FIK X.prog X.w X.K X.mg X.base j C x n ks φ A fs) (hr : Room k X.A) (hk : j + 1 ≤ k) (ha : AG X Γ Ω (e :: es) As) (hz : KG X Γ Ω kws Zs) (hn : As.length = n) (hz2 : Zs.length = ks.length) (sel : ∀ vs G, PV (As ++ Zs) vs G → ∃ y, φ y ∧ PV (A y) vs G ∧ ∀ v G', (vO C (fs y)).p v G' → P'.p v G') (hg : Gl X x := by rfl)
    (hall : (backToKw pos (keywordEach kws X.env)).all (·.1.isSome) = true := by rfl) (hks : (backToKw pos (keywordEach kws X.env)).filterMap (·.1) = ks := by rfl) (hdb : (x == ("__debug__" : Str)) = false := by decide)
    (he : starEach (e :: es) X.env = (false, eval e X.env) :: starEach es X.env := by rfl) (hpl : ((backTo pos (starEach (e :: es) X.env)).any (·.1) || (backToKw pos (keywordEach kws X.env)).any (·.1.isNone)) = false := by rfl) : EG X Γ Ω (.Call (.Name x p) (e :: es) kws pos) P' := by
  obtain ⟨f, fd, ps, g, ok, hm, mk, hb⟩ := F.ex
  refine weak (pe_makeK (E := E0) mk ok (hr.mono hk) hg hm hb pass0 ha hz hall hks hdb he hpl) fun σ H Q ⟨G0, H0, s, k⟩ => ⟨G0, H0, s, fun vs G1 H1 g1 o1 q1 => ⟨G1, H0, ⟨G1, g1.self, o1⟩, fun zs G2 H2 g2 o2 q2 => ⟨by rw [← Paired.length q1]; exact hn, by rw [← Paired.length q2]; exact hz2, fun a dx h1 h2 h3 => ?_⟩⟩⟩
  obtain ⟨y, hy, q, w⟩ := sel (vs ++ zs) G2 ((PV.mono g2.g q1).append q2)
  exact make_out (vs := vs ++ zs) (g1.trans g2) o2 hy q (fun v G H g o p => k v G H g o (w v G p)) h1 h2 h3
end
/-! ### stations and links -/
structure Stn where
  name : Str
  hands : Option Nat
  timed : Bool
structure Lnk where
  src : Str
  dst : Str
  stock : Nat
  early : Bool
structure Ln where
  sts : List Stn
  lks : List Lnk
  out : Str
section
variable {P : Program} {w : World} {K : PySem.W.Frag} {mg : Str → Option Value} {base : Heap}
def vStn (K : PySem.W.Frag) (s : Stn) : VP := vO (ga K "Station") [("sides", vT K [vS s.name, vOpt s.hands, vB s.timed])]
def vLnk (K : PySem.W.Frag) (l : Lnk) : VP := vO (ga K "Link") [("sides", vT K [vS l.src, vS l.dst, vIn l.stock, vB l.early])]
def vLn (K : PySem.W.Frag) (l : Ln) : VP := vO (ga K "Line") [("sides", vT K [vT K (l.sts.map (vStn K)), vT K (l.lks.map (vLnk K)), vS l.out])]
structure StnOk (s : Stn) : Prop where
  name : s.name ∈ menu
  hands : ∀ h, s.hands = some h → 1 ≤ h ∧ h ≤ 4
structure LnkOk (l : Lnk) : Prop where
  src : l.src ∈ menu
  dst : l.dst ∈ menu
  stock : l.stock ≤ 5
theorem i_Lags (T : Txt K mg) {dvs : List V} (hb0 : ∀ fd, FunD K "__init__" "Lags.__init__" (defArgs s_Lags_init) (defBody s_Lags_init) (defScope s_Lags_init) [.ref (lags_t0 K), .ref (lags_t1 K), .int 1] [] (ma K (ga K "Lags") "__init__") fd → ∃ ds, Vals dvs ds ∧ Binds K fd p_Lags_init ds) :
    FI P w K mg base 3 (ga K "Lags") "Lags" dvs (fun _ : Bool => True) (fun b => [vT K ((sg b).map vIn), vT K [], vI 1]) (fun b => [("form", vEx (Mem (if b then 1 else 0) 1 (sg b)) (vForm K))]) := by
  refine fi T.d_Lags_init sc_Lags_init (fun _ _ => rfl) T.mk_Lags T.g_Lags hb0 ?_
  intro cdv Ar outer s0 H0 H E b G D σ a dx hr _ hs k rt
  refine s_expr hs (eg_call (g_check_numbers T) hr (Nat.le_refl _) b trivial (ag_cons (eg_var (i := 1) rfl rfl) ag_nil)) fun H hs => ?_
  refine s_expr hs (eg_call (g_check_numbers T) hr (Nat.le_refl _) false trivial (ag_cons (eg_var (i := 2) rfl rfl) ag_nil)) fun H hs => ?_
  refine s_skip hs (wg_or (tg_not (tg_val (eg_call (g_is_integer T) hr (by omega) (1 : Int) trivial (ag_cons (eg_var (i := 3) rfl rfl) ag_nil)))) fun _ => wg_or1 (tg_not (tLeLe eg_int (eg_var (i := 3) rfl rfl) (gGI T.i_MOST_PERIOD)))).tg rfl fun H hs => ?_
  refine s_set hs 4 ((gAdd (eg_maxL (ns := -1 :: ((sg b).map fun (n : Nat) => (n : Int))) (m := if b then 0 else -1) T.f_max ?_ ?_ ((eg_lst (Ps := vI (-1) :: ((sg b).map vIn ++ ([] ++ []))) (ag_cons (eg_un un_neg (P := vI (-1)) (fun x G H Q sm e k => ⟨1, e, k _ _ _ (Step.refl sm) rfl⟩) eg_int) (ag_star ((eg_var (i := 1) rfl rfl).to fun v G q => .inr q) (ag_star ((eg_var (i := 2) rfl rfl).to fun v G q => .inr q) ag_nil))) ?_).cast ?_)) eg_int).cast (P' := vIn (if b then 1 else 0)) ?_) (fun σ H hs => ?_) sc_Lags_init.nd
  · cases b <;> simp [sg]
  · cases b <;> simp [sg]
  · cases b <;> exact Nat.le_trans (by decide) small30
  · congr 1
    cases b <;> rfl
  · cases b <;> rfl
  refine s_fld hs 0 rfl (eg_call (g_least_form T) hr (Nat.le_refl _) (flagsOf (sg b) ((if b then 1 else 0) + 1), if b then 1 else 0, 1) ⟨by simp [flagsOf], Nat.le_refl _, by cases b <;> decide⟩ (ag_cons (eg_call (g_flags_of T) hr (by omega) ⟨true, sg b, if b then 1 else 0, 1⟩ ⟨?_, by cases b <;> decide⟩ (ag_cons (eg_var (i := 1) rfl rfl) (ag_cons (eg_var (i := 2) rfl rfl) (ag_cons (eg_var (i := 4) rfl rfl) (ag_cons (eg_var (i := 3) rfl rfl) ag_nil))))) (ag_cons (eg_var (i := 4) rfl rfl) (ag_cons (eg_var (i := 3) rfl rfl) ag_nil)))) (eg_var (i := 0) rfl rfl) T.c_Lags T.na_Lags_form (by show 0 < 1000; decide) fun H hs => wp_nil (k _ _ _ hs)
  intro n hn
  cases b
  · simp [sg] at hn
  · simp [sg] at hn
    subst hn
    show 0 < 1 + 1
    decide
theorem i_Lags0 (T : Txt K mg) : FI P w K mg base 3 (ga K "Lags") "Lags" [.ref (lags_t0 K), .ref (lags_t1 K), .int 1] (fun _ : Bool => True) (fun b => [vT K ((sg b).map vIn), vT K [], vI 1]) (fun b => [("form", vEx (Mem (if b then 1 else 0) 1 (sg b)) (vForm K))]) :=
  i_Lags T fun fd F => F.binds1 1 0 (by simp) rfl fun T kV doc pm an cdv ct us its hu hi => match us, hu, its, hi with | [_], _, [_, _, _], _ => ⟨_, rfl, rfl⟩
theorem i_Lags1 (T : Txt K mg) : FI P w K mg base 3 (ga K "Lags") "Lags" [.ref (lags_t1 K), .int 1] (fun _ : Bool => True) (fun b => [vT K ((sg b).map vIn), vT K [], vI 1]) (fun b => [("form", vEx (Mem (if b then 1 else 0) 1 (sg b)) (vForm K))]) :=
  i_Lags T fun fd F => F.binds1 2 1 (by simp) rfl fun T kV doc pm an cdv ct us its hu hi => match us, hu, its, hi with | [_, _], _, [_, _, _], _ => ⟨_, rfl, rfl⟩
theorem vO_ex {α : Type} {C : Addr} {f : Str} {φ : α → Prop} {F : α → VP} {v : V} {G : Hp} (h : (vO C [(f, vEx φ F)]).p v G) : ∃ x, φ x ∧ (vO C [(f, F x)]).p v G := by
  obtain ⟨a, dx, vs, e, ha, q⟩ := h
  cases q with
  | cons q t =>
    cases t
    obtain ⟨x, hx, q⟩ := q
    exact ⟨x, hx, a, dx, _, e, ha, .cons q .nil⟩
/-- Lags() -/
theorem eg_Lags0 {X : Cx} {Γ : Cn} {Ω : Om} {p pos : Pos} {k : Nat} (T : Txt X.K X.mg) (hr : Room k X.A) (hk : 4 ≤ k) (hg : Gl X "Lags" := by rfl) : EG X Γ Ω (.Call (.Name "Lags" p) [] [] pos) (vEx (Mem 0 1 []) (fun f => vLG X.K ⟨false, f⟩)) :=
  (eg_make0 (i_Lags0 T) hr hk false trivial (fun G => .cons ⟨_, [], rfl, T.t0 G, .nil⟩ (.cons ⟨_, [], rfl, T.t1 G, .nil⟩ (.cons rfl .nil))) hg).to fun v G q => vO_ex q
/-- Lags((0,)) -/
theorem eg_Lags1 {X : Cx} {Γ : Cn} {Ω : Om} {p pos : Pos} {e : Expr} {k : Nat} (T : Txt X.K X.mg) (hr : Room k X.A) (hk : 4 ≤ k) (he : EG X Γ Ω e (vT X.K [vI 0])) (hg : Gl X "Lags" := by rfl) (hs : starEach (e :: []) X.env = (false, eval e X.env) :: starEach [] X.env := by rfl) (hpl : (backTo pos (starEach [] X.env)).any (·.1) = false := by rfl) : EG X Γ Ω (.Call (.Name "Lags" p) [e] [] pos) (vEx (Mem 1 1 [0]) (fun f => vLG X.K ⟨false, f⟩)) :=
  (eg_make (i_Lags1 T) hr hk true trivial (As := [vT X.K [vI 0]]) (ds := [vT X.K [], vI 1]) rfl (fun G => .cons ⟨_, [], rfl, T.t1 G, .nil⟩ (.cons rfl .nil)) (ag_cons he ag_nil hs) hg (by decide) hs hpl).to fun v G q => vO_ex q
theorem i_Station (T : Txt K mg) : FIK P w K mg base 3 (ga K "Station") "Station" 2 ["timed"] StnOk (fun s => [vS s.name, vOpt s.hands, vB s.timed]) (fun s => [("sides", vT K [vS s.name, vOpt s.hands, vB s.timed])]) := by
  obtain ⟨fd, F⟩ := T.d_Station_init
  obtain ⟨its, mv, hb⟩ := F.kbinds (ps := p_Station_init) 3 ["timed"] [] (fun us _ _ ws => us ++ ws) (by simp) (by simp) (by simp) (fun r1 _ _ r2 => r1.append r2) fun T D doc pm an cdv ct us its mv ws h1 h2 h3 h4 => match us, h1, its, h2, mv, h3, ws, h4 with | [_, _, _], _, [_], _, [], _, [_], _ => ⟨_, rfl, rfl⟩
  refine ⟨_, fd, _, _, fn_pi F sc_Station_init (fun _ _ => rfl) ?_, T.g_Station, T.mk_Station, hb⟩
  rintro cdv Ar outer s0 H0 H E ⟨nm, hd, tm⟩ G D σ a dx hr ⟨h1, h2⟩ hs k rt
  refine s_expr hs (eg_call (g_check_name T) hr (Nat.le_refl _) nm h1 (ag_cons (eg_var (i := 1) rfl rfl) ag_nil)) fun H hs => ?_
  refine s_skip hs (k0 := false) ?_ rfl fun H hs => ?_
  · cases hd with
    | none => exact (wg_and (k := false) (m := false) (tg_notN (x := .non) (eg_var (i := 2) rfl rfl)) (fun h => by cases h)).tg
    | some h =>
      obtain ⟨h3, h4⟩ := h2 h rfl
      refine (wg_and (k := true) (m := false) (tg_notN (x := .int (h : Nat)) (eg_var (i := 2) rfl rfl)) (fun _ => wg_and1 ((wg_or (k := false) (m := false) (tg_not (tg_val (eg_call (g_is_integer T) hr (by omega) (h : Int) trivial (ag_cons (eg_var (i := 2) rfl rfl) ag_nil)))) fun _ => wg_or1 ((tg_not (tLeLe eg_int (eg_var (P := vI (h : Nat)) (i := 2) rfl rfl) (gGI T.i_MOST_HANDS))).cast ?_)).tg))).tg
      have e1 : decide ((1 : Int) ≤ (h : Nat)) = true := decide_eq_true (by omega)
      have e2 : decide (((h : Nat) : Int) ≤ 4) = true := decide_eq_true (by omega)
      rw [e1, e2]; rfl
  refine s_expr hs (eg_call (g_check_flag T) hr (by omega) tm trivial (ag_cons (eg_var (i := 3) rfl rfl) ag_nil)) fun H hs => ?_
  exact s_fld hs 0 rfl (eg_tup (ag_cons (eg_var (i := 1) rfl rfl) (ag_cons (eg_var (i := 2) rfl rfl) (ag_cons (eg_var (i := 3) rfl rfl) ag_nil)))) (eg_var (i := 0) rfl rfl) T.c_Station T.na_Station_sides (by show 0 < 1000; decide) fun H hs => wp_nil (k _ _ _ hs)
theorem i_Link (T : Txt K mg) : FIK P w K mg base 3 (ga K "Link") "Link" 3 ["early"] LnkOk (fun l => [vS l.src, vS l.dst, vIn l.stock, vB l.early]) (fun l => [("sides", vT K [vS l.src, vS l.dst, vIn l.stock, vB l.early])]) := by
  obtain ⟨fd, F⟩ := T.d_Link_init
  obtain ⟨its, mv, hb⟩ := F.kbinds (ps := p_Link_init) 4 ["early"] [] (fun us _ _ ws => us ++ ws) (by simp) (by simp) (by simp) (fun r1 _ _ r2 => r1.append r2) fun T D doc pm an cdv ct us its mv ws h1 h2 h3 h4 => match us, h1, its, h2, mv, h3, ws, h4 with | [_, _, _, _], _, [_], _, [], _, [_], _ => ⟨_, rfl, rfl⟩
  refine ⟨_, fd, _, _, fn_pi F sc_Link_init (fun _ _ => rfl) ?_, T.g_Link, T.mk_Link, hb⟩
  rintro cdv Ar outer s0 H0 H E ⟨src, dst, st, ea⟩ G D σ a dx hr ⟨h1, h2, h3⟩ hs k rt
  replace h3 : st ≤ 5 := h3
  refine s_expr hs (eg_call (g_check_name T) hr (Nat.le_refl _) src h1 (ag_cons (eg_var (i := 1) rfl rfl) ag_nil)) fun H hs => ?_
  refine s_expr hs (eg_call (g_check_name T) hr (Nat.le_refl _) dst h2 (ag_cons (eg_var (i := 2) rfl rfl) ag_nil)) fun H hs => ?_
  refine s_skip hs (wg_or (tg_not (tg_val (eg_call (g_is_integer T) hr (by omega) (st : Int) trivial (ag_cons (eg_var (i := 3) rfl rfl) ag_nil)))) fun _ => wg_or1 (tg_not (tLeLe eg_int (eg_var (P := vIn st) (i := 3) rfl rfl) (gGI T.i_MOST_STOCK)))).tg ?_ fun H hs => ?_
  · have e1 : decide ((0 : Int) ≤ (st : Nat)) = true := decide_eq_true (by omega)
    have e2 : decide (((st : Nat) : Int) ≤ 5) = true := decide_eq_true (by omega)
    rw [e1, e2]; rfl
  refine s_expr hs (eg_call (g_check_flag T) hr (by omega) ea trivial (ag_cons (eg_var (i := 4) rfl rfl) ag_nil)) fun H hs => ?_
  exact s_fld hs 0 rfl (eg_tup (ag_cons (eg_var (i := 1) rfl rfl) (ag_cons (eg_var (i := 2) rfl rfl) (ag_cons (eg_var (i := 3) rfl rfl) (ag_cons (eg_var (i := 4) rfl rfl) ag_nil))))) (eg_var (i := 0) rfl rfl) T.c_Link T.na_Link_sides (by show 0 < 1000; decide) fun H hs => wp_nil (k _ _ _ hs)
theorem q_Station_name (T : Txt K mg) : FP P w K mg base 1 (ga K "Station") "name" (fun _ : Stn => True) (fun y => [vStn K y]) (fun y => vS y.name) := by
  refine (fo T.d_Station_name sc_Station_name (fun _ _ => rfl) (fun _ _ _ _ _ _ us hl => match us, hl with | [_], _ => rfl) ?_).fp T.c_Station T.p_Station_name
  rintro cdv Ar outer s0 H0 E y G Q σ hr _ hs k
  exact s_ret hs (gIxT (i := 0) rfl (eg_fld (C := ga K "Station") (eg_var (P := vStn K y) (i := 0) rfl rfl) T.c_Station T.na_Station_sides rfl) eg_int) k
theorem e_Station_name {X : Cx} {Γ : Cn} {Ω : Om} {e : Expr} {pos : Pos} {y : Stn} {k : Nat} (T : Txt X.K X.mg) (hr : Room k X.A) (hk : 2 ≤ k) (he : EG X Γ Ω e (vStn X.K y)) (hb : attributeBase e "name" X.env (eval e X.env) = eval e X.env := by rfl) : EG X Γ Ω (.Attribute e "name" pos) (vS y.name) :=
  eg_prop (C := ga X.K "Station") (q_Station_name T) hr hk y trivial rfl he hb
theorem q_Station_hands (T : Txt K mg) : FP P w K mg base 1 (ga K "Station") "hands" (fun _ : Stn => True) (fun y => [vStn K y]) (fun y => vOpt y.hands) := by
  refine (fo T.d_Station_hands sc_Station_hands (fun _ _ => rfl) (fun _ _ _ _ _ _ us hl => match us, hl with | [_], _ => rfl) ?_).fp T.c_Station T.p_Station_hands
  rintro cdv Ar outer s0 H0 E y G Q σ hr _ hs k
  exact s_ret hs (gIxT (i := 1) rfl (eg_fld (C := ga K "Station") (eg_var (P := vStn K y) (i := 0) rfl rfl) T.c_Station T.na_Station_sides rfl) eg_int) k
theorem e_Station_hands {X : Cx} {Γ : Cn} {Ω : Om} {e : Expr} {pos : Pos} {y : Stn} {k : Nat} (T : Txt X.K X.mg) (hr : Room k X.A) (hk : 2 ≤ k) (he : EG X Γ Ω e (vStn X.K y)) (hb : attributeBase e "hands" X.env (eval e X.env) = eval e X.env := by rfl) : EG X Γ Ω (.Attribute e "hands" pos) (vOpt y.hands) :=
  eg_prop (C := ga X.K "Station") (q_Station_hands T) hr hk y trivial rfl he hb
theorem q_Station_timed (T : Txt K mg) : FP P w K mg base 1 (ga K "Station") "timed" (fun _ : Stn => True) (fun y => [vStn K y]) (fun y => vB y.timed) := by
  refine (fo T.d_Station_timed sc_Station_timed (fun _ _ => rfl) (fun _ _ _ _ _ _ us hl => match us, hl with | [_], _ => rfl) ?_).fp T.c_Station T.p_Station_timed
  rintro cdv Ar outer s0 H0 E y G Q σ hr _ hs k
  exact s_ret hs (gIxT (i := 2) rfl (eg_fld (C := ga K "Station") (eg_var (P := vStn K y) (i := 0) rfl rfl) T.c_Station T.na_Station_sides rfl) eg_int) k
theorem e_Station_timed {X : Cx} {Γ : Cn} {Ω : Om} {e : Expr} {pos : Pos} {y : Stn} {k : Nat} (T : Txt X.K X.mg) (hr : Room k X.A) (hk : 2 ≤ k) (he : EG X Γ Ω e (vStn X.K y)) (hb : attributeBase e "timed" X.env (eval e X.env) = eval e X.env := by rfl) : EG X Γ Ω (.Attribute e "timed" pos) (vB y.timed) :=
  eg_prop (C := ga X.K "Station") (q_Station_timed T) hr hk y trivial rfl he hb
theorem q_Link_source (T : Txt K mg) : FP P w K mg base 1 (ga K "Link") "source" (fun _ : Lnk => True) (fun y => [vLnk K y]) (fun y => vS y.src) := by
  refine (fo T.d_Link_source sc_Link_source (fun _ _ => rfl) (fun _ _ _ _ _ _ us hl => match us, hl with | [_], _ => rfl) ?_).fp T.c_Link T.p_Link_source
  rintro cdv Ar outer s0 H0 E y G Q σ hr _ hs k
  exact s_ret hs (gIxT (i := 0) rfl (eg_fld (C := ga K "Link") (eg_var (P := vLnk K y) (i := 0) rfl rfl) T.c_Link T.na_Link_sides rfl) eg_int) k
theorem e_Link_source {X : Cx} {Γ : Cn} {Ω : Om} {e : Expr} {pos : Pos} {y : Lnk} {k : Nat} (T : Txt X.K X.mg) (hr : Room k X.A) (hk : 2 ≤ k) (he : EG X Γ Ω e (vLnk X.K y)) (hb : attributeBase e "source" X.env (eval e X.env) = eval e X.env := by rfl) : EG X Γ Ω (.Attribute e "source" pos) (vS y.src) :=
  eg_prop (C := ga X.K "Link") (q_Link_source T) hr hk y trivial rfl he hb
theorem q_Link_target (T : Txt K mg) : FP P w K mg base 1 (ga K "Link") "target" (fun _ : Lnk => True) (fun y => [vLnk K y]) (fun y => vS y.dst) := by
  refine (fo T.d_Link_target sc_Link_target (fun _ _ => rfl) (fun _ _ _ _ _ _ us hl => match us, hl with | [_], _ => rfl) ?_).fp T.c_Link T.p_Link_target
  rintro cdv Ar outer s0 H0 E y G Q σ hr _ hs k
  exact s_ret hs (gIxT (i := 1) rfl (eg_fld (C := ga K "Link") (eg_var (P := vLnk K y) (i := 0) rfl rfl) T.c_Link T.na_Link_sides rfl) eg_int) k
theorem e_Link_target {X : Cx} {Γ : Cn} {Ω : Om} {e : Expr} {pos : Pos} {y : Lnk} {k : Nat} (T : Txt X.K X.mg) (hr : Room k X.A) (hk : 2 ≤ k) (he : EG X Γ Ω e (vLnk X.K y)) (hb : attributeBase e "target" X.env (eval e X.env) = eval e X.env := by rfl) : EG X Γ Ω (.Attribute e "target" pos) (vS y.dst) :=
  eg_prop (C := ga X.K "Link") (q_Link_target T) hr hk y trivial rfl he hb
theorem q_Link_stock (T : Txt K mg) : FP P w K mg base 1 (ga K "Link") "stock" (fun _ : Lnk => True) (fun y => [vLnk K y]) (fun y => vIn y.stock) := by
  refine (fo T.d_Link_stock sc_Link_stock (fun _ _ => rfl) (fun _ _ _ _ _ _ us hl => match us, hl with | [_], _ => rfl) ?_).fp T.c_Link T.p_Link_stock
  rintro cdv Ar outer s0 H0 E y G Q σ hr _ hs k
  exact s_ret hs (gIxT (i := 2) rfl (eg_fld (C := ga K "Link") (eg_var (P := vLnk K y) (i := 0) rfl rfl) T.c_Link T.na_Link_sides rfl) eg_int) k
theorem e_Link_stock {X : Cx} {Γ : Cn} {Ω : Om} {e : Expr} {pos : Pos} {y : Lnk} {k : Nat} (T : Txt X.K X.mg) (hr : Room k X.A) (hk : 2 ≤ k) (he : EG X Γ Ω e (vLnk X.K y)) (hb : attributeBase e "stock" X.env (eval e X.env) = eval e X.env := by rfl) : EG X Γ Ω (.Attribute e "stock" pos) (vIn y.stock) :=
  eg_prop (C := ga X.K "Link") (q_Link_stock T) hr hk y trivial rfl he hb
theorem q_Link_early (T : Txt K mg) : FP P w K mg base 1 (ga K "Link") "early" (fun _ : Lnk => True) (fun y => [vLnk K y]) (fun y => vB y.early) := by
  refine (fo T.d_Link_early sc_Link_early (fun _ _ => rfl) (fun _ _ _ _ _ _ us hl => match us, hl with | [_], _ => rfl) ?_).fp T.c_Link T.p_Link_early
  rintro cdv Ar outer s0 H0 E y G Q σ hr _ hs k
  exact s_ret hs (gIxT (i := 3) rfl (eg_fld (C := ga K "Link") (eg_var (P := vLnk K y) (i := 0) rfl rfl) T.c_Link T.na_Link_sides rfl) eg_int) k
theorem e_Link_early {X : Cx} {Γ : Cn} {Ω : Om} {e : Expr} {pos : Pos} {y : Lnk} {k : Nat} (T : Txt X.K X.mg) (hr : Room k X.A) (hk : 2 ≤ k) (he : EG X Γ Ω e (vLnk X.K y)) (hb : attributeBase e "early" X.env (eval e X.env) = eval e X.env := by rfl) : EG X Γ Ω (.Attribute e "early" pos) (vB y.early) :=
  eg_prop (C := ga X.K "Link") (q_Link_early T) hr hk y trivial rfl he hb
theorem q_Line_stations (T : Txt K mg) : FP P w K mg base 1 (ga K "Line") "stations" (fun _ : Ln => True) (fun y => [vLn K y]) (fun y => vT K (y.sts.map (vStn K))) := by
  refine (fo T.d_Line_stations sc_Line_stations (fun _ _ => rfl) (fun _ _ _ _ _ _ us hl => match us, hl with | [_], _ => rfl) ?_).fp T.c_Line T.p_Line_stations
  rintro cdv Ar outer s0 H0 E y G Q σ hr _ hs k
  exact s_ret hs (gIxT (i := 0) rfl (eg_fld (C := ga K "Line") (eg_var (P := vLn K y) (i := 0) rfl rfl) T.c_Line T.na_Line_sides rfl) eg_int) k
theorem e_Line_stations {X : Cx} {Γ : Cn} {Ω : Om} {e : Expr} {pos : Pos} {y : Ln} {k : Nat} (T : Txt X.K X.mg) (hr : Room k X.A) (hk : 2 ≤ k) (he : EG X Γ Ω e (vLn X.K y)) (hb : attributeBase e "stations" X.env (eval e X.env) = eval e X.env := by rfl) : EG X Γ Ω (.Attribute e "stations" pos) (vT X.K (y.sts.map (vStn X.K))) :=
  eg_prop (C := ga X.K "Line") (q_Line_stations T) hr hk y trivial rfl he hb
theorem q_Line_links (T : Txt K mg) : FP P w K mg base 1 (ga K "Line") "links" (fun _ : Ln => True) (fun y => [vLn K y]) (fun y => vT K (y.lks.map (vLnk K))) := by
  refine (fo T.d_Line_links sc_Line_links (fun _ _ => rfl) (fun _ _ _ _ _ _ us hl => match us, hl with | [_], _ => rfl) ?_).fp T.c_Line T.p_Line_links
  rintro cdv Ar outer s0 H0 E y G Q σ hr _ hs k
  exact s_ret hs (gIxT (i := 1) rfl (eg_fld (C := ga K "Line") (eg_var (P := vLn K y) (i := 0) rfl rfl) T.c_Line T.na_Line_sides rfl) eg_int) k
theorem e_Line_links {X : Cx} {Γ : Cn} {Ω : Om} {e : Expr} {pos : Pos} {y : Ln} {k : Nat} (T : Txt X.K X.mg) (hr : Room k X.A) (hk : 2 ≤ k) (he : EG X Γ Ω e (vLn X.K y)) (hb : attributeBase e "links" X.env (eval e X.env) = eval e X.env := by rfl) : EG X Γ Ω (.Attribute e "links" pos) (vT X.K (y.lks.map (vLnk X.K))) :=
  eg_prop (C := ga X.K "Line") (q_Line_links T) hr hk y trivial rfl he hb
theorem q_Line_outlet (T : Txt K mg) : FP P w K mg base 1 (ga K "Line") "outlet" (fun _ : Ln => True) (fun y => [vLn K y]) (fun y => vS y.out) := by
  refine (fo T.d_Line_outlet sc_Line_outlet (fun _ _ => rfl) (fun _ _ _ _ _ _ us hl => match us, hl with | [_], _ => rfl) ?_).fp T.c_Line T.p_Line_outlet
  rintro cdv Ar outer s0 H0 E y G Q σ hr _ hs k
  exact s_ret hs (gIxT (i := 2) rfl (eg_fld (C := ga K "Line") (eg_var (P := vLn K y) (i := 0) rfl rfl) T.c_Line T.na_Line_sides rfl) eg_int) k
theorem e_Line_outlet {X : Cx} {Γ : Cn} {Ω : Om} {e : Expr} {pos : Pos} {y : Ln} {k : Nat} (T : Txt X.K X.mg) (hr : Room k X.A) (hk : 2 ≤ k) (he : EG X Γ Ω e (vLn X.K y)) (hb : attributeBase e "outlet" X.env (eval e X.env) = eval e X.env := by rfl) : EG X Γ Ω (.Attribute e "outlet" pos) (vS y.out) :=
  eg_prop (C := ga X.K "Line") (q_Line_outlet T) hr hk y trivial rfl he hb
end
end Ow
namespace Ow
open PySem PySem.Spec PyProof.Rows L2 He
/-! ### own classes: isinstance, len, in -/
section
variable {X : Cx} {Γ : Cn} {Ω : Om} {pos p q : Pos} {e a b : Expr} {P : VP} {Ps : List VP} {k j : Nat} {α : Type} {φ : α → Prop} {A : α → List VP} {R : α → VP} {C : Addr} {fs : List (Str × VP)}
theorem kit_self {K : PySem.W.Frag} {C : Addr} : PySem.W.kitOne K (.ref C) (.ref C) = some true := by
  unfold PySem.W.kitOne
  have : (Value.ref C == Value.ref C) = true := by simp
  rw [if_pos this]
theorem icB_ok {K : PySem.W.Frag} {C : Str} (h : icB C K = true) {H : Hp} {a dx : Addr} {fs : List (Str × V)} (cl : Cls K (ga K C)) (e : H a = some (.ins (ga K C) dx fs)) : TyX K H (.ref a) (.ref (ga K C)) := by
  obtain ⟨h1, h⟩ := ba h
  obtain ⟨h2, h⟩ := ba h
  obtain ⟨h3, h4⟩ := ba h
  exact .base (.ins e cl (eqO_ok h1) (eqO_ok h2) (of_decide_eq_true h3) (of_decide_eq_true h4))
/-- isinstance(e, C), e of this very class -/
theorem eg_isiC {x : Str} (hm : X.mg "isinstance" = none) (hx : X.mg x = some (.ref (ga X.K x))) (ic : icB x X.K = true) (cl : Cls X.K (ga X.K x)) (he : EG X Γ Ω e (vO (ga X.K x) fs)) (hg : Gl X "isinstance" := by rfl) (hg2 : Gl X x := by rfl)
    (hd : (x == ("__debug__" : Str)) = false := by decide) (h1 : starEach [e, .Name x q] X.env = (false, eval e X.env) :: starEach [.Name x q] X.env := by rfl) (h2 : starEach [.Name x q] X.env = (false, eval (.Name x q) X.env) :: starEach [] X.env := by rfl) (h3 : (backTo pos (starEach [.Name x q] X.env)).any (·.1) = false := by rfl) :
    EG X Γ Ω (.Call (.Name "isinstance" p) [e, .Name x q] [] pos) (vB true) :=
  eg_callB call_isi (ru_isi (ClsV.own _) (fun v G h => by
    obtain ⟨a, dx, vs, e1, ha, _⟩ := h
    rw [e1]
    exact ⟨_, icB_ok ic cl ha, kit_self⟩) fun _ _ _ _ => TyX.same) hg hm boot_isinstance (ag_cons he (ag_cons (eg_glob (v := .ref _) hg2 hx rfl hd) ag_nil h2) h1) (by decide) (by decide) h1 h3
/-- a promise run one step inside -/
theorem run_in1 {pins : List (Addr × Obj)} {σ : L2.St} {H : Hp} {s : Shared} {f : Addr} {fd : FuncData} {ps : List Str} {sp : Sp} {us : List Value} {vs : List V} {Q : VK} (F : FnOk X.prog X.w X.K X.mg X.base CX0 k f fd ps sp) (hr : Room (k + 1) X.A) (hb : L2.Binds X.K fd ps [])
    (I : Inv X pins σ H s) (r : Vals vs us) (h : sp vs H Q E0) : wpAny (model X.prog X.w) X.A.in1 (call (.ref f) us) (EP X pins σ Q) X.xe s := by
  have hl : (us ++ []).length = ps.length := by rw [List.append_nil, ← r.length]; exact F.len _ _ _ _ h
  have hb' := hb s us I.kIn hl
  rw [List.append_nil] at hb'
  refine wpAny_call (codeAny_mono (F.run X.A.in1 X.stack s H ⟨us, []⟩ us vs Q E0 hr.in1 I.env0.in1 hb' r h) fun r s' hq => ?_)
  cases r with
  | error e => exact hq.elim
  | ok fl =>
    cases fl with
    | ret u => exact I.after hq
    | next => exact False.elim hq
    | brk => exact False.elim hq
    | cont => exact False.elim hq
def rLenO (C : Addr) (sp : Sp) : List V → Hp → VK → Prop := fun xs H Q => ∃ a dx fs, xs = [V.ref a] ∧ H a = some (.ins C dx fs) ∧ sp [V.ref a] H (fun v H2 => ∃ n : Nat, v = .int n ∧ n < 2 ^ 63 ∧ Q (.int n) H2) E0
theorem cr_lenO {f : Addr} {fd : FuncData} {ps : List Str} {sp : Sp} (hm : Meth X.K C "__len__" f) (F : FnOk X.prog X.w X.K X.mg X.base CX0 k f fd ps sp) (hr : Room (k + 2) X.A) (hb : L2.Binds X.K fd ps []) : CallR X (.builtin "len") (rLenO C sp) := by
  intro pins s σ H vs us Q I r h
  obtain ⟨a, dx, fs, rfl, ha, h⟩ := h
  rw [Vals.ref1 r]
  obtain ⟨mA, O, _, _, _, _⟩ := ins_get I.hok ha
  obtain ⟨od, J, _⟩ := O.look
  obtain ⟨m, fr⟩ := I.fr
  have rv : Vals [V.ref a] [Value.ref a] := .cons rfl .nil
  refine PySem.W.len_K fr I.ok.mod.kin J hm.at_ hm.fn (wpAny_mono (run_in1 (us := [.ref a]) F (hr.mono (by omega)) hb I rv h) (fun v s' z => ?_) fun _ _ z => z)
  obtain ⟨x, H', I', rx, n, e, hn, q⟩ := z
  subst e
  obtain ⟨t, rfl⟩ := rx
  exact ⟨⟨by omega, by exact_mod_cast hn⟩, .int n, H', I'.tok _, ⟨_, rfl⟩, q⟩
theorem eg_lenO {n : Nat} (F : FM X.prog X.w X.K X.mg X.base j C "__len__" φ A R) (hr : Room k X.A) (hk : j + 2 ≤ k) (y : α) (hy : φ y) (hA : A y = [vO C fs]) (hR : R y = vI n) (hn : n < 2 ^ 63) (hm : X.mg "len" = none) (he : EG X Γ Ω e (vO C fs)) (hg : Gl X "len" := by rfl) (h1 : starEach [e] X.env = (false, eval e X.env) :: starEach [] X.env := by rfl) (h3 : (backTo pos (starEach [] X.env)).any (·.1) = false := by rfl) : EG X Γ Ω (.Call (.Name "len" p) [e] [] pos) (vI n) := by
  obtain ⟨f, fd, ps, ok, c, hme, hb⟩ := F.ex
  refine eg_callB (cr_lenO (k := j) hme ok (hr.mono hk) hb) (fun vs G H Q sm q kk => ?_) hg hm PySem.boot_len (ag_cons he ag_nil h1) (by decide) (by decide) h1 h3
  cases q with
  | cons q t =>
    cases t
    obtain ⟨a, dx, us, rfl, ha, q⟩ := q
    refine ⟨a, dx, _, rfl, sm _ _ ha, y, hy, G, sm, by rw [hA]; exact .cons ⟨a, dx, us, rfl, ha, q⟩ .nil, fun v G' H' st z => ?_⟩
    rw [hR] at z
    exact ⟨n, z, hn, kk _ G' H' st rfl⟩
def rInO (C : Addr) (sp : Sp) : R2 := fun y x H Q => ∃ a dx fs, x = V.ref a ∧ H a = some (.ins C dx fs) ∧ sp [V.ref a, y] H (fun v H2 => ∃ b : Bool, v = .bl b ∧ Q (.bl b) H2) E0
theorem op_inO {f : Addr} {fd : FuncData} {ps : List Str} {sp : Sp} (hm : Meth X.K C "__contains__" f) (F : FnOk X.prog X.w X.K X.mg X.base CX0 k f fd ps sp) (hr : Room k X.A) (hb : L2.Binds X.K fd ps []) : OpR X (compareOp .In) (rInO C sp) := by
  intro pins s σ H y x v u Q I ry rx h
  obtain ⟨a, dx, fs, rfl, ha, h⟩ := h
  obtain rfl : u = Value.ref a := rx
  obtain ⟨mA, O, _, _, _, _⟩ := ins_get I.hok ha
  obtain ⟨od, J, _⟩ := O.look
  obtain ⟨m, fr⟩ := I.fr
  have rv : Vals [V.ref a, y] [Value.ref a, v] := .cons rfl (.cons ry .nil)
  refine PySem.W.in_K fr I.ok.mod.kin J hm.at_ hm.fn (wpAny_mono (run_fn (dvs := []) F hr hb .nil pass0 I rv (by rw [List.append_nil]; exact h)) (fun r s' z => ?_) fun _ _ z => z)
  obtain ⟨z1, H', I', rz, b, e, q⟩ := z
  subst e
  cases rz
  exact wpAny_truthy_bool ⟨.bl b, H', I', rfl, q⟩
theorem tg_inO {bb : Bool} (F : FM X.prog X.w X.K X.mg X.base j C "__contains__" φ A R) (hr : Room k X.A) (hk : j ≤ k) (y : α) (hy : φ y) (hA : A y = [vO C fs, P]) (hR : R y = vB bb) (ha : EG X Γ Ω a P) (hb : EG X Γ Ω b (vO C fs)) (hm : behindInMarks .In b = false := by rfl) : TG X Γ Ω (.Compare a [.In] [b] pos) bb := by
  obtain ⟨f, fd, ps, ok, c, hme, hbd⟩ := F.ex
  refine tg_cmp (op_inO hme ok (hr.mono hk) hbd) (fun x z G H Q sm px pz kk => ?_) ha hb hm
  obtain ⟨ad, dx, us, rfl, ha, q⟩ := pz
  refine ⟨ad, dx, _, rfl, sm _ _ ha, y, hy, G, sm, by rw [hA]; exact .cons ⟨ad, dx, us, rfl, ha, q⟩ (.cons px .nil), fun v G' H' st z => ?_⟩
  rw [hR] at z
  exact ⟨bb, z, kk _ G' H' st rfl⟩
/-- in, of texts -/
def inS (x : Str) (xs : List Str) : Bool := inV (.str x) (xs.map V.str)
theorem flatS (xs : List Str) : (xs.map V.str).all flatV = true := by
  rw [List.all_eq_true]; intro v hv
  obtain ⟨s, _, rfl⟩ := List.mem_map.mp hv
  rfl
theorem vS_map (xs : List Str) : xs.map vS = (xs.map V.str).map vIs := by rw [List.map_map]; rfl
theorem tInS {x : Str} {xs : List Str} (ha : EG X Γ Ω a (vS x)) (hb : EG X Γ Ω b (vL (xs.map vS))) (hm : behindInMarks .In b = false := by rfl) : TG X Γ Ω (.Compare a [.In] [b] pos) (inS x xs) :=
  tg_cmp op_in_seq (rg_in rfl (flatS xs) (vS_map xs) (.inl rfl)) ha hb hm
theorem tNotInS {x : Str} {xs : List Str} (ha : EG X Γ Ω a (vS x)) (hb : EG X Γ Ω b (vL (xs.map vS))) (hm : behindInMarks .NotIn b = false := by rfl) : TG X Γ Ω (.Compare a [.NotIn] [b] pos) (!inS x xs) :=
  tg_cmp op_notIn_seq (rg_in rfl (flatS xs) (vS_map xs) (.inl rfl)) ha hb hm
theorem tInST {x : Str} {xs : List Str} (ha : EG X Γ Ω a (vS x)) (hb : EG X Γ Ω b (vT X.K (xs.map vS))) (hm : behindInMarks .In b = false := by rfl) : TG X Γ Ω (.Compare a [.In] [b] pos) (inS x xs) :=
  tg_cmp op_in_seq (rg_in rfl (flatS xs) (vS_map xs) (.inr rfl)) ha hb hm
theorem tNotInST {x : Str} {xs : List Str} (ha : EG X Γ Ω a (vS x)) (hb : EG X Γ Ω b (vT X.K (xs.map vS))) (hm : behindInMarks .NotIn b = false := by rfl) : TG X Γ Ω (.Compare a [.NotIn] [b] pos) (!inS x xs) :=
  tg_cmp op_notIn_seq (rg_in rfl (flatS xs) (vS_map xs) (.inr rfl)) ha hb hm
theorem inS_iff {x : Str} {xs : List Str} : inS x xs = decide (x ∈ xs) := by
  induction xs with
  | nil => rfl
  | cons y ys ih =>
    have e : inS x (y :: ys) = ((y == x) || inS x ys) := rfl
    rw [e, ih]
    by_cases h : x = y
    · subst h; simp
    · have : (y == x) = false := beq_eq_false_iff_ne.mpr (fun z => h z.symm)
      simp [h, this]
/-- sorted texts -/
def Srt (xs ys : List Str) : Prop := ys.Perm xs ∧ sortedS ys = true
theorem ru_sortS {K : PySem.W.Frag} {xs : List Str} (h64 : xs.length < 64) : RU (rSortedS K) [vL (xs.map vS)] (vEx (Srt xs) (fun ys => vL (ys.map vS))) := fun vs G H Q sm q k => by
  cases q with
  | cons q t =>
    cases t
    obtain ⟨a, us, rfl, ha, q⟩ := q
    rw [PV.strs q] at ha
    refine ⟨a, xs, rfl, SqL.of (sm _ _ ha), h64, fun ys p h1 h2 hp => ?_⟩
    have st := Step.new (o := .lst (ys.map V.str)) sm hp
    refine k _ _ _ st ⟨ys, ⟨h1, h2⟩, p, _, rfl, upd_same, ?_⟩
    rw [vS_map]
    exact PV.of_is _
theorem eg_sortS {xs : List Str} (h64 : xs.length < 64) (hm : X.mg "sorted" = none) (he : EG X Γ Ω e (vL (xs.map vS))) (hg : Gl X "sorted" := by rfl) (h1 : starEach [e] X.env = (false, eval e X.env) :: starEach [] X.env := by rfl) (h3 : (backTo pos (starEach [] X.env)).any (·.1) = false := by rfl) : EG X Γ Ω (.Call (.Name "sorted" p) [e] [] pos) (vEx (Srt xs) (fun ys => vL (ys.map vS))) :=
  eg_callB cr_sortedS (ru_sortS h64) hg hm boot_sorted (ag_cons he ag_nil h1) (by decide) (by decide) h1 h3
theorem eg_tupleE {β : Type} {ψ : β → Prop} {F : β → List VP} (hm : X.mg "tuple" = none) (he : EG X Γ Ω e (vEx ψ (fun y => vL (F y)))) (hg : Gl X "tuple" := by rfl) (h1 : starEach [e] X.env = (false, eval e X.env) :: starEach [] X.env := by rfl) (h3 : (backTo pos (starEach [] X.env)).any (·.1) = false := by rfl) : EG X Γ Ω (.Call (.Name "tuple" p) [e] [] pos) (vEx ψ (fun y => vT X.K (F y))) :=
  eg_callTy call_tuple_of (fun vs G H Q sm q k => by
    cases q with
    | cons q t =>
      cases t
      obtain ⟨y, hy, q⟩ := q
      exact ru_tupL (K := X.K) (Ps := F y) _ G H Q sm (.cons q .nil) fun z G' H' st p => k z G' H' st ⟨y, hy, p⟩) hg hm boot_tuple (ag_cons he ag_nil h1) (by decide) (by decide) h1 h3
end
end Ow
namespace Ow
open PySem PySem.Spec PyProof.Rows L2 He
/-! ### lines -/
def Ln.names (l : Ln) : List Str := l.sts.map Stn.name
structure LnOk (l : Ln) : Prop where
  ne : l.sts ≠ []
  few : l.sts.length ≤ 3
  nd : l.names.Nodup
  sts : ∀ s ∈ l.sts, StnOk s
  fewL : l.lks.length ≤ 12
  lks : ∀ k ∈ l.lks, LnkOk k ∧ k.src ∈ l.names ∧ k.dst ∈ l.names
  out : l.out ∈ l.names
section
variable {P : Program} {w : World} {K : PySem.W.Frag} {mg : Str → Option Value} {base : Heap}
theorem sz_of {n : Nat} (h : n ≤ 30) : n ≤ sizeLine := Nat.le_trans h small30
theorem take_names {sts : List Stn} {i : Nat} {x : Stn} (h : sts[i]? = some x) : ((sts.take i).map Stn.name) ++ [x.name] = (sts.take (i + 1)).map Stn.name := by
  rw [List.take_add_one, h, List.map_append]; rfl
theorem nodup_at {sts : List Stn} {i : Nat} {x : Stn} (nd : (sts.map Stn.name).Nodup) (h : sts[i]? = some x) : x.name ∉ (sts.take i).map Stn.name := by
  intro hx
  rw [List.map_take] at hx
  obtain ⟨j, hj⟩ := List.mem_iff_getElem?.mp hx
  have hji : j < i := by
    have := lt_of_some hj
    rw [List.length_take] at this; omega
  rw [List.getElem?_take_of_lt hji] at hj
  have hi : (sts.map Stn.name)[i]? = some x.name := by rw [List.getElem?_map, h]; rfl
  have := (List.getElem?_inj (lt_of_some hj) nd).mp (hj.trans hi.symm)
  omega
theorem g_check_stations (T : Txt K mg) : FG P w K mg base 3 "check_stations" LnOk (fun l => [vT K (l.sts.map (vStn K))]) (fun _ => vN) := by
  refine (fo T.d_check_stations sc_check_stations (fun _ _ => rfl) (fun _ _ _ _ _ _ us hl => match us, hl with | [_], _ => rfl) ?_).fg T.g_check_stations
  rintro cdv Ar outer s0 H0 E l G Q σ hr ok hs k
  refine s_skip hs (wg_or (tg_not (tg_val (eg_isi T.f_isinstance T.f_tuple boot_tuple (fun _ _ => tyT) (by decide +kernel : kitB "tuple" "tuple" = some true) (eg_var (i := 0) rfl rfl)))) fun _ => wg_or1 (tEqI (eg_lenT T.f_len (eg_var (i := 0) rfl rfl)) eg_int)).tg ?_ fun H hs => ?_
  · have : ¬ ((l.sts.map (vStn K)).length : Int) = 0 := by
      rw [List.length_map]
      have := List.length_pos_iff.mpr ok.ne
      omega
    rw [decide_eq_false this]; rfl
  refine s_new hs 1 (ng_lst ag_nil) (fun a σ H hs => ?_) sc_check_stations.nd
  refine s_for (γ := Unit) hs (ig_enumT (xs := l.sts) (F := vStn K) (ag_cons (eg_var (i := 0) rfl rfl) ag_nil) T.f_enumerate) (fun _ _ => [some (vT K (l.sts.map (vStn K))), some (vR a), none, none]) (fun i _ => [(a, oL (((l.sts.take i).map Stn.name).map vS))]) (fun _ _ => True)
    (fun _ _ x => [some (vT K (l.sts.map (vStn K))), some (vR a), some (vI x.1), some (vStn K x.2)]) [2, 3] (fun G1 σ H h => ⟨(), trivial, h⟩) (fun i _ x _ _ => gt_tup (gts_cons (gt_name 2 sc_check_stations.nd) (gts_cons (gt_name 3 sc_check_stations.nd) gts_nil))) ?_ ?_
  · intro G1 gg i _ x hx _ σ H hs
    obtain ⟨hi, hx⟩ := pairs_get hx
    have hl := lt_of_some hx
    have few := ok.few
    refine s_skip hs (tg_borrow [some (vT K (l.sts.map (vStn K))), some (vL (((l.sts.take i).map Stn.name).map vS)), some (vI x.1), some (vStn K x.2)] (BC.ok (.same (bc_list List.mem_cons_self (.same (.same .nil))))) (mut_L mut_nil) (wg_or (tGe (eg_var (i := 2) rfl rfl) (gGI T.i_MOST_STATIONS)) fun _ => wg_or (tg_not (tg_val (eg_isiC T.f_isinstance T.g_Station T.ic_Station T.c_Station (eg_var (P := vStn K x.2) (i := 3) rfl rfl)))) fun _ => wg_or1 (tInS (e_Station_name (y := x.2) T hr (Nat.le_refl _) (eg_var (i := 3) rfl rfl)) (eg_var (i := 1) rfl rfl))).tg) ?_ fun H hs => ?_
    · rw [inS_iff, decide_eq_false (nodup_at ok.nd hx)]
      have : ¬ (6 : Int) ≤ ((x.1 : Nat) : Int) := by omega
      rw [decide_eq_false this]; rfl
    · refine s_app 0 hs rfl (by rw [List.length_map, List.length_map, List.length_take]; have := sz_of (n := 30) (by omega); omega) (eg_var (i := 1) rfl rfl) (P := vS x.2.name) (e_Station_name (y := x.2) T hr (Nat.le_refl _) (eg_var (i := 3) rfl rfl)) fun H hs => wp_nil ⟨(), trivial, ?_⟩
      have hs2 := (hs.drop 2).drop 3
      have e : ((l.sts.take i).map Stn.name).map vS ++ [vS x.2.name] = ((l.sts.take (i + 1)).map Stn.name).map vS := by
        rw [← take_names hx, List.map_append]; rfl
      rw [e] at hs2
      exact hs2
  · intro _ _ σ H hs
    exact s_end hs fun G' H' st => k _ G' H' st rfl
theorem g_check_links (T : Txt K mg) : FG P w K mg base 3 "check_links" LnOk (fun l => [vT K (l.lks.map (vLnk K)), vL (l.names.map vS)]) (fun _ => vN) := by
  refine (fo T.d_check_links sc_check_links (fun _ _ => rfl) (fun _ _ _ _ _ _ us hl => match us, hl with | [_, _], _ => rfl) ?_).fg T.g_check_links
  rintro cdv Ar outer s0 H0 E l G Q σ hr ok hs k
  refine s_skip hs (tg_not (tg_val (eg_isi T.f_isinstance T.f_tuple boot_tuple (fun _ _ => tyT) (by decide +kernel : kitB "tuple" "tuple" = some true) (eg_var (i := 0) rfl rfl)))) rfl fun H hs => ?_
  refine s_for (γ := Unit) hs (ig_enumT (xs := l.lks) (F := vLnk K) (ag_cons (eg_var (i := 0) rfl rfl) ag_nil) T.f_enumerate) (fun _ _ => [some (vT K (l.lks.map (vLnk K))), some (vL (l.names.map vS)), none, none]) (fun i _ => []) (fun _ _ => True)
    (fun _ _ x => [some (vT K (l.lks.map (vLnk K))), some (vL (l.names.map vS)), some (vI x.1), some (vLnk K x.2)]) [2, 3] (fun G1 σ H h => ⟨(), trivial, h⟩) (fun i _ x _ _ => gt_tup (gts_cons (gt_name 2 sc_check_links.nd) (gts_cons (gt_name 3 sc_check_links.nd) gts_nil))) ?_ ?_
  · intro G1 gg i _ x hx _ σ H hs
    obtain ⟨hi, hx⟩ := pairs_get hx
    have hl := lt_of_some hx
    have few := ok.fewL
    obtain ⟨lo, l1, l2⟩ := ok.lks x.2 (List.mem_of_getElem? hx)
    refine s_skip hs (wg_or (tGe (eg_var (i := 2) rfl rfl) (gGI T.i_MOST_LINKS)) fun _ => wg_or1 (tg_not (tg_val (eg_isiC T.f_isinstance T.g_Link T.ic_Link T.c_Link (eg_var (P := vLnk K x.2) (i := 3) rfl rfl))))).tg ?_ fun H hs => ?_
    · have : ¬ (12 : Int) ≤ ((x.1 : Nat) : Int) := by omega
      rw [decide_eq_false this]; rfl
    · refine s_skip hs (wg_or (tNotInS (e_Link_source (y := x.2) T hr (Nat.le_refl _) (eg_var (i := 3) rfl rfl)) (eg_var (i := 1) rfl rfl)) fun _ => wg_or1 (tNotInS (e_Link_target (y := x.2) T hr (Nat.le_refl _) (eg_var (i := 3) rfl rfl)) (eg_var (i := 1) rfl rfl))).tg ?_ fun H hs => wp_nil ⟨(), trivial, (hs.drop 2).drop 3⟩
      rw [inS_iff, inS_iff, decide_eq_true l1, decide_eq_true l2]; rfl
  · intro _ _ σ H hs
    exact s_end hs fun G' H' st => k _ G' H' st rfl
theorem i_Line (T : Txt K mg) : FI P w K mg base 4 (ga K "Line") "Line" [] LnOk (fun l => [vT K (l.sts.map (vStn K)), vT K (l.lks.map (vLnk K)), vS l.out]) (fun l => [("sides", vT K [vT K (l.sts.map (vStn K)), vT K (l.lks.map (vLnk K)), vS l.out])]) := by
  refine fi T.d_Line_init sc_Line_init (fun _ _ => rfl) T.mk_Line T.g_Line (fun fd F => ⟨[], .nil, F.bindsN fun _ _ _ _ _ _ us hl => match us, hl with | [_, _, _, _], _ => rfl⟩) ?_
  intro cdv Ar outer s0 H0 H E l G D σ a dx hr ok hs k rt
  have few := ok.few
  refine s_expr hs (eg_call (g_check_stations T) hr (Nat.le_refl _) l ok (ag_cons (eg_var (i := 1) rfl rfl) ag_nil)) fun H hs => ?_
  refine s_setLc (α := Stn) n_Line_init (defScope s_Line_init) [("station", 5)] (t := fun _ => true) (R := fun s => vS s.name) (fun s => [some (vR a), some (vT K (l.sts.map (vStn K))), some (vT K (l.lks.map (vLnk K))), some (vS l.out), none, some (vStn K s)]) [5] hs 4 (ig_tup (xs := l.sts) (F := vStn K) (eg_var (i := 1) rfl rfl)) (sz_of (by omega))
    (fun _ _ _ _ _ s _ => gt_name 5 sc_Line_init.nd) (fun _ _ _ _ _ s _ => pts_yes) (fun _ _ _ _ _ s _ _ => e_Station_name (y := s) T hr (by omega) (eg_var (i := 5) rfl rfl)) (fun σ H hs => ?_) sc_Line_init.nd
  have e : ((l.sts.filter fun _ => true).map fun s => vS s.name) = l.names.map vS := by
    rw [filter_true]; unfold Ln.names; rw [List.map_map]; rfl
  rw [e] at hs
  refine s_expr hs (eg_call (g_check_links T) hr (Nat.le_refl _) l ok (ag_cons (eg_var (i := 2) rfl rfl) (ag_cons (eg_var (i := 4) rfl rfl) ag_nil))) fun H hs => ?_
  refine s_skip hs (wg_or (tg_not (tg_val (eg_isi T.f_isinstance T.f_str boot_str (fun _ _ => tyS) (by decide +kernel : kitB "str" "str" = some true) (eg_var (i := 3) rfl rfl)))) fun _ => wg_or1 (tNotInS (eg_var (i := 3) rfl rfl) (eg_var (i := 4) rfl rfl))).tg ?_ fun H hs => ?_
  · rw [inS_iff, decide_eq_true ok.out]; rfl
  · exact s_fld hs 0 rfl (eg_tup (ag_cons (eg_var (i := 1) rfl rfl) (ag_cons (eg_var (i := 2) rfl rfl) (ag_cons (eg_var (i := 3) rfl rfl) ag_nil)))) (eg_var (i := 0) rfl rfl) T.c_Line T.na_Line_sides (by show 0 < 1000; decide) fun H hs => wp_nil (k _ _ _ hs)
theorem q_Line_names (T : Txt K mg) : FP P w K mg base 3 (ga K "Line") "names" LnOk (fun l => [vLn K l]) (fun l => vT K (l.names.map vS)) := by
  refine (fo T.d_Line_names sc_Line_names (fun _ _ => rfl) (fun _ _ _ _ _ _ us hl => match us, hl with | [_], _ => rfl) ?_).fp T.c_Line T.p_Line_names
  rintro cdv Ar outer s0 H0 E l G Q σ hr ok hs k
  have few := ok.few
  refine s_ret hs ((eg_tuple T.f_tuple (eg_lc n_Line_names (defScope s_Line_names) [("station", 1)] (t := fun _ : Stn => true) (R := fun s => vS s.name) (fun s => [some (vLn K l), some (vStn K s)]) [1] (ig_tup (xs := l.sts) (F := vStn K) (gIxT (i := 0) rfl (eg_fld (C := ga K "Line") (eg_var (P := vLn K l) (i := 0) rfl rfl) T.c_Line T.na_Line_sides rfl) eg_int)) (sz_of (by omega))
    (fun _ _ _ _ _ s _ => gt_name 1 sc_Line_names.nd) (fun _ _ _ _ _ s _ => pts_yes) (fun _ _ _ _ _ s _ _ => e_Station_name (y := s) T hr (by omega) (eg_var (i := 1) rfl rfl)) sc_Line_names.nd)).cast ?_) k
  rw [filter_true]; unfold Ln.names; rw [List.map_map]; rfl
theorem e_Line_names {X : Cx} {Γ : Cn} {Ω : Om} {e : Expr} {pos : Pos} {y : Ln} {k : Nat} (T : Txt X.K X.mg) (hr : Room k X.A) (hk : 4 ≤ k) (ok : LnOk y) (he : EG X Γ Ω e (vLn X.K y)) (hb : attributeBase e "names" X.env (eval e X.env) = eval e X.env := by rfl) : EG X Γ Ω (.Attribute e "names" pos) (vT X.K (y.names.map vS)) :=
  eg_prop (C := ga X.K "Line") (q_Line_names T) hr hk y ok rfl he hb
def Ln.clocked (l : Ln) : List Str := (l.sts.filter Stn.timed).map Stn.name
theorem q_Line_timed (T : Txt K mg) : FP P w K mg base 3 (ga K "Line") "timed" LnOk (fun l => [vLn K l]) (fun l => vEx (Srt l.clocked) (fun ys => vT K (ys.map vS))) := by
  refine (fo T.d_Line_timed sc_Line_timed (fun _ _ => rfl) (fun _ _ _ _ _ _ us hl => match us, hl with | [_], _ => rfl) ?_).fp T.c_Line T.p_Line_timed
  rintro cdv Ar outer s0 H0 E l G Q σ hr ok hs k
  have few := ok.few
  refine s_ret hs (eg_tupleE T.f_tuple (eg_sortS (xs := l.clocked) ?_ T.f_sorted ((eg_lc n_Line_timed (defScope s_Line_timed) [("station", 1)] (t := Stn.timed) (R := fun s => vS s.name) (fun s => [some (vLn K l), some (vStn K s)]) [1] (ig_tup (xs := l.sts) (F := vStn K) (gIxT (i := 0) rfl (eg_fld (C := ga K "Line") (eg_var (P := vLn K l) (i := 0) rfl rfl) T.c_Line T.na_Line_sides rfl) eg_int)) (sz_of (by omega))
    (fun _ _ _ _ _ s _ => gt_name 1 sc_Line_timed.nd) (fun _ _ _ _ _ s _ => pts_if (tg_val (e_Station_timed (y := s) T hr (by omega) (eg_var (i := 1) rfl rfl)))) (fun _ _ _ _ _ s _ _ => e_Station_name (y := s) T hr (by omega) (eg_var (i := 1) rfl rfl)) sc_Line_timed.nd).cast ?_))) k
  · unfold Ln.clocked
    rw [List.length_map]
    have := List.length_filter_le Stn.timed l.sts
    omega
  · unfold Ln.clocked; rw [List.map_map]; rfl
theorem e_Line_timed {X : Cx} {Γ : Cn} {Ω : Om} {e : Expr} {pos : Pos} {y : Ln} {k : Nat} (T : Txt X.K X.mg) (hr : Room k X.A) (hk : 4 ≤ k) (ok : LnOk y) (he : EG X Γ Ω e (vLn X.K y)) (hb : attributeBase e "timed" X.env (eval e X.env) = eval e X.env := by rfl) : EG X Γ Ω (.Attribute e "timed" pos) (vEx (Srt y.clocked) (fun ys => vT X.K (ys.map vS))) :=
  eg_prop (C := ga X.K "Line") (q_Line_timed T) hr hk y ok rfl he hb
theorem m_Line_len (T : Txt K mg) : FM P w K mg base 1 (ga K "Line") "__len__" (fun _ : Ln => True) (fun l => [vLn K l]) (fun l => vI (l.sts.length : Nat)) := by
  refine (fo T.d_Line_len sc_Line_len (fun _ _ => rfl) (fun _ _ _ _ _ _ us hl => match us, hl with | [_], _ => rfl) ?_).fm T.c_Line T.m_Line_len
  rintro cdv Ar outer s0 H0 E l G Q σ hr _ hs k
  refine s_ret hs ((eg_lenT T.f_len (gIxT (i := 0) rfl (eg_fld (C := ga K "Line") (eg_var (P := vLn K l) (i := 0) rfl rfl) T.c_Line T.na_Line_sides rfl) eg_int)).cast ?_) k
  rw [List.length_map]
theorem g_check_line (T : Txt K mg) : FG P w K mg base 1 "check_line" (fun _ : Ln => True) (fun l => [vLn K l]) (fun _ => vN) := by
  refine (fo T.d_check_line sc_check_line (fun _ _ => rfl) (fun _ _ _ _ _ _ us hl => match us, hl with | [_], _ => rfl) ?_).fg T.g_check_line
  rintro cdv Ar outer s0 H0 E l G Q σ hr _ hs k
  exact s_skip hs (tg_not (tg_val (eg_isiC T.f_isinstance T.g_Line T.ic_Line T.c_Line (eg_var (P := vLn K l) (i := 0) rfl rfl)))) rfl fun H hs => s_end hs fun G' H' st => k _ G' H' st rfl
theorem g_check_pair (T : Txt K mg) : FG P w K mg base 2 "check_pair" (fun _ : Ln × Ln => True) (fun l => [vLn K l.1, vLn K l.2]) (fun _ => vN) := by
  refine (fo T.d_check_pair sc_check_pair (fun _ _ => rfl) (fun _ _ _ _ _ _ us hl => match us, hl with | [_, _], _ => rfl) ?_).fg T.g_check_pair
  rintro cdv Ar outer s0 H0 E l G Q σ hr _ hs k
  exact s_expr hs (eg_call (g_check_line T) hr (Nat.le_refl _) l.1 trivial (ag_cons (eg_var (i := 0) rfl rfl) ag_nil)) fun H hs => s_expr hs (eg_call (g_check_line T) hr (Nat.le_refl _) l.2 trivial (ag_cons (eg_var (i := 1) rfl rfl) ag_nil)) fun H hs => s_end hs fun G' H' st => k _ G' H' st rfl
end
end Ow
namespace Ow
open PySem PySem.Spec PyProof.Rows L2 He
/-! ### rings -/
section
variable {X : Cx} {Γ : Cn} {Ω : Om} {pos p2 : Pos} {a b : Expr} {k2 : Nat}
theorem gNeg1 {k : Nat} : EG X Γ Ω (.UnaryOp .USub (.Constant (.int 1) k p2) pos) (vI (-1)) := eg_un un_neg (fun x G H Q sm e k => ⟨1, e, k _ _ _ (Step.refl sm) rfl⟩) eg_int
theorem atI_last {α : Type} {xs : List α} {x : α} : atI (xs ++ [x]) (-1) = some x := by
  unfold atI ixN
  rw [if_neg (by omega), if_pos (by rw [List.length_append]; show -((xs.length + 1 : Nat) : Int) ≤ -1; omega)]
  have : ((-1 : Int) + ((xs ++ [x]).length : Nat)).toNat = xs.length := by rw [List.length_append]; show ((-1 : Int) + ((xs.length + 1 : Nat) : Int)).toNat = _; omega
  show (xs ++ [x])[((-1 : Int) + ((xs ++ [x]).length : Nat)).toNat]? = _
  rw [this]; simp
theorem flatI (xs : List Nat) : (xs.map fun n => V.int (n : Nat)).all flatV = true := by
  rw [List.all_eq_true]; intro v hv
  obtain ⟨s, _, rfl⟩ := List.mem_map.mp hv
  rfl
theorem inI_iff {x : Nat} {xs : List Nat} : inV (.int (x : Nat)) (xs.map fun n => V.int (n : Nat)) = decide (x ∈ xs) := by
  induction xs with
  | nil => rfl
  | cons y ys ih =>
    have e : inV (.int (x : Nat)) ((y :: ys).map fun n => V.int (n : Nat)) = (((y : Int) == (x : Int)) || inV (.int (x : Nat)) (ys.map fun n => V.int (n : Nat))) := rfl
    rw [e, ih]
    by_cases h : x = y
    · subst h; simp
    · have : ((y : Int) == (x : Int)) = false := beq_eq_false_iff_ne.mpr (fun z => h (by omega))
      simp [h, this]
theorem tNotInIT {x : Nat} {xs : List Nat} (ha : EG X Γ Ω a (vIn x)) (hb : EG X Γ Ω b (vT X.K (xs.map vIn))) (hm : behindInMarks .NotIn b = false := by rfl) : TG X Γ Ω (.Compare a [.NotIn] [b] pos) (!decide (x ∈ xs)) :=
  (tg_cmp op_notIn_seq (rg_in (xs := xs.map fun n => V.int (n : Nat)) rfl (flatI xs) (by rw [List.map_map]; rfl) (.inr rfl)) ha hb hm).cast (by rw [inI_iff]; rfl)
end
/-! plain -/
theorem nodup_map {α β : Type} {f : α → β} (hf : ∀ a b, f a = f b → a = b) : ∀ {l : List α}, l.Nodup → (l.map f).Nodup
  | [], _ => .nil
  | x :: l, h => by
    rw [List.nodup_cons] at h
    rw [List.map_cons, List.nodup_cons]
    refine ⟨fun z => ?_, nodup_map hf h.2⟩
    obtain ⟨y, hy, e⟩ := List.mem_map.mp z
    rw [hf _ _ e] at hy
    exact h.1 hy
theorem dFold_get {α β : Type} {key : α → Key} {val : α → β} {xs : List α} (nd : (xs.map key).Nodup) : ∀ n, n ≤ xs.length → ∀ i x, i < n → xs[i]? = some x → dG (dFold key val (xs.take n)) (key x) = some (val x)
  | 0, _, i, x, h, _ => by omega
  | n + 1, hn, i, x, h, hx => by
    have hn' : n < xs.length := by omega
    have ex : xs[n]? = some xs[n] := by simp [hn']
    rw [dFold_take ex]
    by_cases e : i = n
    · subst e
      rw [ex] at hx
      cases hx
      exact dG_put_same
    · have ne : key x ≠ key xs[n] := fun z => by
        have h1 : (xs.map key)[i]? = some (key x) := by rw [List.getElem?_map, hx]; rfl
        have h2 : (xs.map key)[n]? = some (key x) := by rw [List.getElem?_map, ex, z]; rfl
        exact e ((List.getElem?_inj (lt_of_some h1) nd).mp (h1.trans h2.symm))
      rw [dG_put_ne ne]
      exact dFold_get nd n (by omega) i x (by omega) hx
def Ln.ends (l : Ln) : List (Nat × Nat) := l.lks.map fun k => (l.names.idxOf k.src, l.names.idxOf k.dst)
theorem places_get {names : List Str} (nd : names.Nodup) {s : Str} (h : s ∈ names) : dG (dFold (fun q : Nat × Str => (Sum.inr q.2 : Key)) (fun q => q.1) (pairs names)) (.inr s) = some (names.idxOf s) := by
  have hl := List.idxOf_lt_length_of_mem h
  have hp : (pairs names)[names.idxOf s]? = some (names.idxOf s, s) := by
    unfold pairs
    refine List.getElem?_zip_eq_some.mpr ⟨List.getElem?_range hl, ?_⟩
    rw [List.getElem?_eq_getElem hl, List.getElem_idxOf]
  have nd2 : ((pairs names).map fun q : Nat × Str => (Sum.inr q.2 : Key)).Nodup := by
    have e : (pairs names).map (fun q : Nat × Str => (Sum.inr q.2 : Key)) = names.map fun s => (Sum.inr s : Key) := by
      have : (pairs names).map Prod.snd = names := by unfold pairs; rw [List.map_snd_zip]; simp
      conv => rhs; rw [← this]
      rw [List.map_map]; rfl
    rw [e]
    exact nodup_map (fun a b h => Sum.inr.inj h) nd
  have := dFold_get (val := fun q : Nat × Str => q.1) nd2 (pairs names).length (Nat.le_refl _) (names.idxOf s) _ (by rw [pairs_length]; exact hl) hp
  rw [List.take_length] at this
  exact this
/-- from a to b through links -/
inductive Thr (ends : List (Nat × Nat)) (a : Nat) : List Nat → Nat → Prop
  | nil : Thr ends a [] a
  | snoc {r : List Nat} {b c i : Nat} : Thr ends a r b → ends[i]? = some (b, c) → Thr ends a (r ++ [i]) c
def RingsOk (ends : List (Nat × Nat)) (rs : List (List Nat)) : Prop := ∀ r ∈ rs, r ≠ [] ∧ r.length ≤ 30 ∧ ∃ b, Thr ends b r b
structure Wt where
  ring : List Nat
  pre : List Nat
  last : Nat
def rem (n : Nat) (S : List Nat) : Nat := (List.range n).countP fun x => decide (x ∉ S)
theorem countP_lt {α : Type} {p q : α → Bool} : ∀ {l : List α}, (∀ x, p x = true → q x = true) → ∀ t ∈ l, q t = true → p t = false → l.countP p < l.countP q
  | y :: l, h, t, ht, h1, h2 => by
    have mono : l.countP p ≤ l.countP q := List.countP_mono_left fun x _ hx => h x hx
    rcases List.mem_cons.mp ht with rfl | ht
    · rw [List.countP_cons, List.countP_cons, h1, h2]; simp; omega
    · have ih := countP_lt h t ht h1 h2
      rw [List.countP_cons, List.countP_cons]
      by_cases hp : p y = true
      · rw [hp, h y hp]; omega
      · simp only [Bool.not_eq_true] at hp
        rw [hp]
        by_cases hq : q y = true
        · rw [hq]; simp; omega
        · simp only [Bool.not_eq_true] at hq
          rw [hq]; simpa using ih
theorem rem_lt {n t : Nat} {S : List Nat} (ht : t < n) (h : t ∉ S) : rem n (S ++ [t]) < rem n S := by
  refine countP_lt (fun x hx => ?_) t (List.mem_range.mpr ht) (decide_eq_true h) (decide_eq_false (by simp))
  have h1 : x ∉ S ++ [t] := of_decide_eq_true hx
  exact decide_eq_true fun z => h1 (List.mem_append_left _ z)
theorem rem_le {n : Nat} {S : List Nat} : rem n S ≤ n := by
  have := List.countP_le_length (p := fun x => decide (x ∉ S)) (l := List.range n)
  rw [List.length_range] at this
  exact this
def Wt.seen (q : Wt) : List Nat := q.pre ++ [q.last]
structure Good (ends : List (Nat × Nat)) (n b : Nat) (q : Wt) : Prop where
  thr : Thr ends b q.ring q.last
  few : q.ring.length + rem n q.seen ≤ 6
  fewS : q.pre.length + rem n q.seen ≤ 6
def wt (n : Nat) (ws : List Wt) : Nat := (ws.map fun q => 13 ^ (rem n q.seen + 1)).sum
theorem wt_append {n : Nat} {ws : List Wt} {q : Wt} : wt n (ws ++ [q]) = wt n ws + 13 ^ (rem n q.seen + 1) := by
  unfold wt; rw [List.map_append, List.sum_append]; simp
theorem wt_len {n : Nat} : ∀ {ws : List Wt}, ws.length ≤ wt n ws
  | [] => Nat.zero_le _
  | q :: ws => by
    have ih := wt_len (n := n) (ws := ws)
    have : 1 ≤ 13 ^ (rem n q.seen + 1) := Nat.pow_pos (by decide)
    show ws.length + 1 ≤ 13 ^ (rem n q.seen + 1) + wt n ws
    omega
section
variable {P : Program} {w : World} {K : PySem.W.Frag} {mg : Str → Option Value} {base : Heap}
def vE (K : PySem.W.Frag) (e : Nat × Nat) : VP := vT K [vIn e.1, vIn e.2]
theorem g_ends_of (T : Txt K mg) : FG P w K mg base 5 "ends_of" LnOk (fun l => [vLn K l]) (fun l => vL (l.ends.map (vE K))) := by
  refine (fo T.d_ends_of sc_ends_of (fun _ _ => rfl) (fun _ _ _ _ _ _ us hl => match us, hl with | [_], _ => rfl) ?_).fg T.g_ends_of
  rintro cdv Ar outer s0 H0 E l G Q σ hr ok hs k
  have few := ok.few
  have fewL := ok.fewL
  have nl : l.names.length = l.sts.length := by unfold Ln.names; rw [List.length_map]
  refine s_set hs 1 (eg_dc n_ends_of (defScope s_ends_of) [("index", 2), ("name", 3)] (key := fun q : Nat × Str => (Sum.inr q.2 : Key)) (val := fun q => q.1) (R := vIn) (fun q => [some (vLn K l), none, some (vI q.1), some (vS q.2), none]) [2, 3] (ig_enumT (xs := l.names) (F := vS) (ag_cons (e_Line_names (y := l) T hr (by omega) ok (eg_var (i := 0) rfl rfl)) ag_nil) T.f_enumerate) (by rw [pairs_length]; exact sz_of (by omega))
    (fun _ _ _ _ _ q _ => gt_tup (gts_cons (gt_name 2 sc_ends_of.nd) (gts_cons (gt_name 3 sc_ends_of.nd) gts_nil))) (fun _ _ _ _ _ q _ => eg_var (i := 3) rfl rfl) (fun _ _ _ _ _ q _ => eg_var (i := 2) rfl rfl) sc_ends_of.nd) (fun σ H hs => ?_) sc_ends_of.nd
  let d := dFold (fun q : Nat × Str => (Sum.inr q.2 : Key)) (fun q => q.1) (pairs l.names)
  refine s_ret hs ((eg_lc n_ends_of (defScope s_ends_of) [("link", 4)] (t := fun _ : Lnk => true) (R := fun kk => vE K (l.names.idxOf kk.src, l.names.idxOf kk.dst)) (fun kk => [some (vLn K l), some (vDK vIn d), none, none, some (vLnk K kk)]) [4] (ig_tup (xs := l.lks) (F := vLnk K) (e_Line_links (y := l) T hr (by omega) (eg_var (i := 0) rfl rfl))) (sz_of (by omega))
    (fun _ _ _ _ _ q _ => gt_name 4 sc_ends_of.nd) (fun _ _ _ _ _ q _ => pts_yes) (fun _ _ _ _ _ kk hk _ => ?_) sc_ends_of.nd).cast ?_) k
  · obtain ⟨_, h1, h2⟩ := ok.lks kk hk
    have g1 := places_get ok.nd h1
    have g2 := places_get ok.nd h2
    have d1 : DAsk (vDK vIn d) (vIs (kV (.inr kk.src))) vIn (some (l.names.idxOf kk.src)) := by rw [← g1]; exact .k
    have d2 : DAsk (vDK vIn d) (vIs (kV (.inr kk.dst))) vIn (some (l.names.idxOf kk.dst)) := by rw [← g2]; exact .k
    exact eg_tup (ag_cons (eg_dget hr d1 (eg_var (i := 1) rfl rfl) (e_Link_source (y := kk) T hr (by omega) (eg_var (i := 4) rfl rfl))) (ag_cons (eg_dget hr d2 (eg_var (i := 1) rfl rfl) (e_Link_target (y := kk) T hr (by omega) (eg_var (i := 4) rfl rfl))) ag_nil))
  · rw [filter_true]; unfold Ln.ends; rw [List.map_map]; rfl
def vRing (K : PySem.W.Frag) (r : List Nat) : VP := vT K (r.map vIn)
def vWt (K : PySem.W.Frag) (q : Wt) : VP := vT K [vRing K q.ring, vRing K q.seen]
structure RfY where
  ends : List (Nat × Nat)
  n : Nat
  b : Nat
structure RfOk (y : RfY) : Prop where
  few : y.ends.length ≤ 12
  n6 : y.n ≤ 4
  b : y.b < y.n
  to : ∀ e ∈ y.ends, e.2 < y.n
theorem g_rings_from (T : Txt K mg) : FG P w K mg base 1 "rings_from" RfOk (fun y => [vL (y.ends.map (vE K)), vIn y.b]) (fun y => vEx (fun rs => RingsOk y.ends rs ∧ rs.length ≤ 28561) (fun rs => vL (rs.map (vRing K)))) := by
  refine (fo T.d_rings_from sc_rings_from (fun _ _ => rfl) (fun _ _ _ _ _ _ us hl => match us, hl with | [_, _], _ => rfl) ?_).fg T.g_rings_from
  rintro cdv Ar outer s0 H0 E ⟨ends, n, b⟩ G Q σ hr ⟨few, n6, hb, hto⟩ hs k
  replace few : ends.length ≤ 12 := few
  replace n6 : n ≤ 4 := n6
  replace hb : b < n := hb
  replace hto : ∀ e ∈ ends, e.2 < n := hto
  have hz := sizeBig
  refine @s_parNN _ G H0 H0 _ _ σ _ _ _ 2 3 _ _ _ _ (oL []) (oL [vT K [vT K [], vT K [vIn b]]]) _ _ _ _ _ _ hs (ng_lst ag_nil) (fun a => ng_lst (ag_cons (eg_tup (ag_cons (eg_tup ag_nil) (ag_cons (eg_tup (ag_cons (eg_var (P := vIn b) (i := 1) rfl rfl) ag_nil)) ag_nil))) ag_nil)) (fun fa wa σ H hs => ?_) sc_rings_from.nd rfl rfl (by decide) rfl rfl rfl rfl rfl rfl rfl
  refine s_while (γ := List (List Nat) × List Wt) (fun _ => [some (vL (ends.map (vE K))), some (vIn b), some (vR fa), some (vR wa), none, none, none, none, none]) (fun y => [(wa, oL (y.2.map (vWt K))), (fa, oL (y.1.map (vRing K)))])
    (fun y => RingsOk ends y.1 ∧ (∀ q ∈ y.2, Good ends n b q) ∧ y.1.length + wt n y.2 ≤ 28561) (fun y => wt n y.2) (fun y => !(y.2.map (vWt K)).isEmpty) ⟨([], [⟨[], [], b⟩]), ⟨fun r h => (by cases h), fun q hq => ?_, ?_⟩, hs⟩ ?_ ?_ ?_
  · have e := List.mem_singleton.mp hq
    subst e
    have h1 : rem n [b] < rem n [] := rem_lt (S := []) hb (by simp)
    have h2 := rem_le (n := n) (S := [])
    exact ⟨.nil, by show 0 + rem n [b] ≤ 6; omega, by show 0 + rem n [b] ≤ 6; omega⟩
  · have h1 : rem n [b] < rem n [] := rem_lt (S := []) hb (by simp)
    have h2 := rem_le (n := n) (S := [])
    show 0 + (13 ^ (rem n [b] + 1) + 0) ≤ 28561
    have : 13 ^ (rem n [b] + 1) ≤ 13 ^ 4 := Nat.pow_le_pow_right (by decide) (by omega)
    omega
  · rintro ⟨fs, ws⟩ _
    exact tg_borrow [some (vL (ends.map (vE K))), some (vIn b), none, some (vL (ws.map (vWt K))), none, none, none, none, none] (BC.ok (.same (.same (.off (bc_list List.mem_cons_self (.same (.same (.same (.same (.same .nil)))))))))) (mut_L (mut_L mut_nil)) (tg_truL (eg_var (i := 3) rfl rfl))
  · rintro ⟨fs, ws⟩ ⟨h1, h2, h3⟩ hne σ H hs
    replace h1 : RingsOk ends fs := h1
    replace h2 : ∀ q ∈ ws, Good ends n b q := h2
    replace h3 : fs.length + wt n ws ≤ 28561 := h3
    obtain ⟨ws0, q, rfl⟩ : ∃ ws0 q, ws = ws0 ++ [q] := by
      rcases List.eq_nil_or_concat ws with e | ⟨ws0, q, e⟩
      · subst e; cases hne
      · exact ⟨ws0, q, by rw [e]; simp⟩
    have gq := h2 q (by simp)
    obtain ⟨gt, g6, gs6⟩ := gq
    rw [wt_append] at h3
    have hs : Sat G H0 [some (vL (ends.map (vE K))), some (vIn b), some (vR fa), some (vR wa), none, none, none, none, none] [(wa, oL (ws0.map (vWt K) ++ [vWt K q])), (fa, oL (fs.map (vRing K)))] σ H := by
      have := hs
      rw [List.map_append] at this
      exact this
    refine s_asgM hs (mg_pop 0 rfl (eg_var (i := 3) rfl rfl)) (gt_tup (gts_cons (gt_name 4 sc_rings_from.nd) (gts_cons (gt_name 5 sc_rings_from.nd) gts_nil))) fun σ H hs => ?_
    have hring : q.ring.length ≤ 6 := by omega
    have hseen : q.seen.length ≤ 7 := by unfold Wt.seen; rw [List.length_append]; show q.pre.length + 1 ≤ 7; omega
    have hatl : atI (q.seen.map vIn) (-1) = some (vIn q.last) := by
      unfold Wt.seen
      rw [List.map_append]
      exact atI_last
    refine s_for (γ := List (List Nat) × List Wt) hs (ig_enumL (xs := ends) (F := vE K) (ag_cons (eg_var (i := 0) rfl rfl) ag_nil) T.f_enumerate) (fun _ _ => [some (vL (ends.map (vE K))), some (vIn b), some (vR fa), some (vR wa), some (vRing K q.ring), some (vRing K q.seen), none, none, none]) (fun i y => [(wa, oL ((ws0 ++ y.2).map (vWt K))), (fa, oL ((fs ++ y.1).map (vRing K)))])
      (fun i y => RingsOk ends y.1 ∧ (∀ q ∈ y.2, Good ends n b q) ∧ y.1.length + wt n y.2 ≤ i * 13 ^ rem n q.seen)
      (fun _ _ x => [some (vL (ends.map (vE K))), some (vIn b), some (vR fa), some (vR wa), some (vRing K q.ring), some (vRing K q.seen), some (vIn x.1), some (vIn x.2.1), some (vIn x.2.2)]) [6, 7, 8]
      (fun G1 σ H h => ⟨([], []), ⟨fun r h => (by cases h), fun q h => (by cases h), Nat.zero_le _⟩, by simpa using h⟩)
      (fun i _ x _ _ => gt_tup (gts_cons (gt_name 6 sc_rings_from.nd) (gts_cons (gt_tup (gts_cons (gt_name 7 sc_rings_from.nd) (gts_cons (gt_name 8 sc_rings_from.nd) gts_nil))) gts_nil))) ?_ ?_
    · rintro G1 gg i ⟨f1, w1⟩ ⟨ix, src, dst⟩ hx ⟨k1, k2, k3⟩ σ H hs
      replace k1 : RingsOk ends f1 := k1
      replace k2 : ∀ q ∈ w1, Good ends n b q := k2
      replace k3 : f1.length + wt n w1 ≤ i * 13 ^ rem n q.seen := k3
      obtain ⟨e1, hx⟩ := pairs_get hx
      replace e1 : ix = i := e1
      replace hx : ends[i]? = some (src, dst) := hx
      have hi12 : i < 12 := by have := lt_of_some hx; omega
      have hdst : dst < n := hto _ (List.mem_of_getElem? hx)
      have hp1 : 1 ≤ 13 ^ rem n q.seen := Nat.pow_pos (by decide)
      have hcap : (i + 1) * 13 ^ rem n q.seen ≤ 13 ^ (rem n q.seen + 1) := by
        rw [Nat.pow_succ, Nat.mul_comm]
        exact Nat.mul_le_mul_left _ (by omega)
      have hstep : (i + 1) * 13 ^ rem n q.seen = i * 13 ^ rem n q.seen + 13 ^ rem n q.seen := Nat.succ_mul _ _
      refine s_if hs (wg_and (tEqI (eg_var (i := 7) rfl rfl) (gIxT (i := -1) hatl (eg_var (i := 5) rfl rfl) gNeg1)) fun _ => wg_and1 (tEqI (eg_var (i := 8) rfl rfl) (eg_var (i := 1) rfl rfl))).tg (fun hk H hs => ?_) (fun _ H hs => ?_)
      · rw [Bool.and_eq_true] at hk
        have hk1 : (src : Int) = (q.last : Nat) := of_decide_eq_true hk.1
        have hk2 : (dst : Int) = (b : Nat) := of_decide_eq_true hk.2
        refine s_app (Ps := (fs ++ f1).map (vRing K)) (P := vRing K (q.ring ++ [i])) 1 hs rfl (by rw [List.length_map, List.length_append]; omega) (eg_var (i := 2) rfl rfl) ((eg_tup (Ps := q.ring.map vIn ++ [vIn ix]) (ag_star ((eg_var (i := 4) rfl rfl).to fun v G h => .inr h) (ag_cons (eg_var (i := 6) rfl rfl) ag_nil)) (sz_of (by rw [List.length_append, List.length_map]; show q.ring.length + 1 ≤ 30; omega))).cast ?_) fun H hs => ?_
        · unfold vRing; rw [List.map_append, e1]; rfl
        · refine wp_nil (wp_nil ⟨(f1 ++ [q.ring ++ [i]], w1), ⟨fun r hr => ?_, k2, ?_⟩, ?_⟩)
          · rcases List.mem_append.mp hr with hr | hr
            · exact k1 r hr
            · have e := List.mem_singleton.mp hr
              subst e
              have ed : dst = b := by omega
              have es : src = q.last := by omega
              subst ed es
              exact ⟨by simp, by rw [List.length_append]; show q.ring.length + 1 ≤ 30; omega, dst, .snoc gt hx⟩
          · show (f1 ++ [q.ring ++ [i]]).length + wt n w1 ≤ (i + 1) * 13 ^ rem n q.seen
            rw [List.length_append, hstep]
            show f1.length + 1 + _ ≤ _
            omega
          · have e : (fs ++ f1).map (vRing K) ++ [vRing K (q.ring ++ [i])] = (fs ++ (f1 ++ [q.ring ++ [i]])).map (vRing K) := by simp
            have hs2 := ((hs.drop 6).drop 7).drop 8
            rw [e] at hs2
            exact hs2
      · refine s_if hs (wg_and (tEqI (eg_var (i := 7) rfl rfl) (gIxT (i := -1) hatl (eg_var (i := 5) rfl rfl) gNeg1)) fun _ => wg_and (tGt (eg_var (i := 8) rfl rfl) (eg_var (i := 1) rfl rfl)) fun _ => wg_and1 (tNotInIT (xs := q.seen) (eg_var (i := 8) rfl rfl) (eg_var (i := 5) rfl rfl))).tg (fun hk H hs => ?_) (fun _ H hs => wp_nil (wp_nil (wp_nil ⟨(f1, w1), ⟨k1, k2, ?_⟩, ((hs.drop 6).drop 7).drop 8⟩)))
        · rw [Bool.and_eq_true, Bool.and_eq_true] at hk
          have hk1 : (src : Int) = (q.last : Nat) := of_decide_eq_true hk.1
          have hk3 : dst ∉ q.seen := by have := hk.2.2; simpa using this
          have es : src = q.last := by omega
          subst es
          let q2 : Wt := ⟨q.ring ++ [i], q.seen, dst⟩
          have hrem : rem n q2.seen < rem n q.seen := rem_lt hdst hk3
          refine s_app (Ps := (ws0 ++ w1).map (vWt K)) (P := vWt K q2) 0 hs rfl ?_ (eg_var (i := 3) rfl rfl) ((eg_tup (ag_cons (eg_tup (Ps := q.ring.map vIn ++ [vIn ix]) (ag_star ((eg_var (i := 4) rfl rfl).to fun v G h => .inr h) (ag_cons (eg_var (i := 6) rfl rfl) ag_nil)) (sz_of (by rw [List.length_append, List.length_map]; show q.ring.length + 1 ≤ 30; omega))) (ag_cons (eg_tup (Ps := q.seen.map vIn ++ [vIn dst]) (ag_star ((eg_var (i := 5) rfl rfl).to fun v G h => .inr h) (ag_cons (eg_var (i := 8) rfl rfl) ag_nil)) (sz_of (by rw [List.length_append, List.length_map]; show q.seen.length + 1 ≤ 30; omega))) ag_nil))).cast ?_) fun H hs => ?_
          · have l1 := wt_len (n := n) (ws := ws0)
            have l2 := wt_len (n := n) (ws := w1)
            rw [List.length_map, List.length_append]
            have : i * 13 ^ rem n q.seen ≤ (i + 1) * 13 ^ rem n q.seen := Nat.mul_le_mul_right _ (by omega)
            omega
          · show vT K [vT K (q.ring.map vIn ++ [vIn ix]), vT K (q.seen.map vIn ++ [vIn dst])] = vT K [vT K ((q.ring ++ [i]).map vIn), vT K ((q.seen ++ [dst]).map vIn)]
            rw [List.map_append, List.map_append, e1]; rfl
          · refine wp_nil (wp_nil (wp_nil ⟨(f1, w1 ++ [q2]), ⟨k1, fun z hz => ?_, ?_⟩, ?_⟩))
            · rcases List.mem_append.mp hz with hz | hz
              · exact k2 z hz
              · have e := List.mem_singleton.mp hz
                subst e
                refine ⟨.snoc gt hx, ?_, ?_⟩
                · show (q.ring ++ [i]).length + rem n q2.seen ≤ 6
                  rw [List.length_append]; show q.ring.length + 1 + _ ≤ 6; omega
                · show q.seen.length + rem n q2.seen ≤ 6
                  have : q.seen.length = q.pre.length + 1 := by unfold Wt.seen; rw [List.length_append]; rfl
                  omega
            · show f1.length + wt n (w1 ++ [q2]) ≤ (i + 1) * 13 ^ rem n q.seen
              rw [wt_append, hstep]
              have : 13 ^ (rem n q2.seen + 1) ≤ 13 ^ rem n q.seen := Nat.pow_le_pow_right (by decide) (by omega)
              omega
            · have e : (ws0 ++ w1).map (vWt K) ++ [vWt K q2] = (ws0 ++ (w1 ++ [q2])).map (vWt K) := by simp
              have hs2 := ((hs.drop 6).drop 7).drop 8
              rw [e] at hs2
              exact hs2
        · show f1.length + wt n w1 ≤ (i + 1) * 13 ^ rem n q.seen
          rw [hstep]; omega
    · rintro ⟨f1, w1⟩ ⟨k1, k2, k3⟩ σ H hs
      replace k1 : RingsOk ends f1 := k1
      replace k2 : ∀ q ∈ w1, Good ends n b q := k2
      rw [pairs_length] at k3
      replace k3 : f1.length + wt n w1 ≤ ends.length * 13 ^ rem n q.seen := k3
      have hp1 : 1 ≤ 13 ^ rem n q.seen := Nat.pow_pos (by decide)
      have hcap : ends.length * 13 ^ rem n q.seen ≤ 12 * 13 ^ rem n q.seen := Nat.mul_le_mul_right _ few
      have hpow : 13 ^ (rem n q.seen + 1) = 13 * 13 ^ rem n q.seen := by rw [Nat.pow_succ, Nat.mul_comm]
      have hw : wt n (ws0 ++ w1) = wt n ws0 + wt n w1 := by unfold wt; rw [List.map_append, List.sum_append]
      have hw2 : wt n (ws0 ++ [q]) = wt n ws0 + 13 ^ (rem n q.seen + 1) := wt_append
      refine wp_nil ⟨(fs ++ f1, ws0 ++ w1), ⟨fun r hr => ?_, fun z hz => ?_, ?_⟩, ?_, ?_⟩
      · rcases List.mem_append.mp hr with hr | hr
        · exact h1 r hr
        · exact k1 r hr
      · rcases List.mem_append.mp hz with hz | hz
        · exact h2 z (List.mem_append_left _ hz)
        · exact k2 z hz
      · show (fs ++ f1).length + wt n (ws0 ++ w1) ≤ 28561
        rw [List.length_append, hw]; omega
      · show wt n (ws0 ++ w1) < wt n (ws0 ++ [q])
        rw [hw, hw2]; omega
      · exact (hs.drop 4).drop 5
  · rintro ⟨fs, ws⟩ ⟨h1, h2, h3⟩ hne σ H hs
    replace h3 : fs.length + wt n ws ≤ 28561 := h3
    exact s_ret (hs.pub 1 2 rfl rfl) (eg_var (i := 2) rfl rfl) fun v G' H' st q => k v G' H' st ⟨fs, ⟨h1, by omega⟩, q⟩
end
end Ow
namespace Ow
open PySem PySem.Spec PyProof.Rows L2 He
/-! ### no ring is stuck -/
section
variable {P : Program} {w : World} {K : PySem.W.Frag} {mg : Str → Option Value} {base : Heap}
theorem rf_of {l : Ln} (ok : LnOk l) {b : Nat} (hb : b < l.sts.length) : RfOk ⟨l.ends, l.sts.length, b⟩ := by
  refine ⟨?_, by have := ok.few; show l.sts.length ≤ 4; omega, hb, fun e he => ?_⟩
  · show l.ends.length ≤ 12
    unfold Ln.ends; rw [List.length_map]; exact ok.fewL
  · obtain ⟨kk, hk, rfl⟩ := List.mem_map.mp he
    have h := List.idxOf_lt_length_of_mem (ok.lks kk hk).2.2
    show l.names.idxOf kk.dst < l.sts.length
    unfold Ln.names at h ⊢
    rw [List.length_map] at h; exact h
def ringD (r : List Nat) : PyData := .tuple (r.map fun n => .int (n : Nat))
theorem dat_ring {r : List Nat} : Dat K (vRing K r) (ringD r) := dat_T (dat_map (fun _ => dat_I) r)
theorem depth_ring {r : List Nat} : (ringD r).depth ≤ 60 := by
  have e : (r.map fun n => PyData.int ((n : Nat) : Int)) = (r.map fun n => ((n : Nat) : Int)).map .int := by rw [List.map_map]; rfl
  unfold ringD
  rw [e, PyData.depth, PySem.W.depth_ints]
  decide
theorem alike_ring (r r' : List Nat) : PySem.W.alike (ringD r) (ringD r') = true := by
  have e : ∀ r : List Nat, (r.map fun n => PyData.int ((n : Nat) : Int)) = (r.map fun n => ((n : Nat) : Int)).map .int := fun r => by rw [List.map_map]; rfl
  unfold ringD
  rw [e, e, PySem.W.alike]
  exact PySem.W.alike_ints _ _
theorem g_rings (T : Txt K mg) : FG P w K mg base 6 "rings" LnOk (fun l => [vLn K l]) (fun l => vEx (RingsOk l.ends) (fun rs => vT K (rs.map (vRing K)))) := by
  refine (fo T.d_rings sc_rings (fun _ _ => rfl) (fun _ _ _ _ _ _ us hl => match us, hl with | [_], _ => rfl) ?_).fg T.g_rings
  rintro cdv Ar outer s0 H0 E l G Q σ hr ok hs k
  have few := ok.few
  have hz := sizeBig
  have h30 := small30
  refine s_expr hs (eg_call (g_check_line T) hr (by omega) l trivial (ag_cons (eg_var (i := 0) rfl rfl) ag_nil)) fun H hs => ?_
  refine s_parEN (i := 1) (j := 2) hs (eg_call (g_ends_of T) hr (by omega) l ok (ag_cons (eg_var (i := 0) rfl rfl) ag_nil)) (ng_lst ag_nil) (fun fa σ H hs => ?_) sc_rings.nd rfl rfl
  refine s_for (γ := List (List Nat)) hs (ig_range1 (n := (l.sts.length : Nat)) (ag_cons (eg_lenO (C := ga K "Line") (m_Line_len T) hr (by omega) l trivial rfl rfl (by omega) T.f_len (eg_var (P := vLn K l) (i := 0) rfl rfl)) ag_nil) (by omega) T.f_range) (fun _ _ => [some (vLn K l), some (vL (l.ends.map (vE K))), some (vR fa), none]) (fun i y => [(fa, oL (y.map (vRing K)))])
    (fun i y => RingsOk l.ends y ∧ y.length ≤ i * 28561) (fun _ _ x => [some (vLn K l), some (vL (l.ends.map (vE K))), some (vR fa), some (vI x)]) [3] (fun G1 σ H h => ⟨[], ⟨fun r h => (by cases h), Nat.zero_le _⟩, h⟩) (fun i _ x _ _ => gt_name 3 sc_rings.nd) ?_ ?_
  · rintro G1 gg i y x hx ⟨h1, h2⟩ σ H hs
    obtain ⟨ex, hi⟩ := upTo_at hx
    obtain ⟨b, rfl⟩ : ∃ b : Nat, x = b := ⟨i, by omega⟩
    have hb : b < l.sts.length := by omega
    have hbi : b = i := by omega
    refine s_extE hs 2 0 rfl rfl (eg_call (g_rings_from T) hr (by omega) ⟨l.ends, l.sts.length, b⟩ (rf_of ok hb) (ag_cons (eg_var (i := 1) rfl rfl) (ag_cons (eg_var (i := 3) rfl rfl) ag_nil))) (fun rs hrs => ?_) (fun rs hrs σ H hs => wp_nil ⟨y ++ rs, ⟨fun r hr => ?_, ?_⟩, ?_⟩) sc_rings.nd
    · have := hrs.2
      have : i * 28561 ≤ 5 * 28561 := Nat.mul_le_mul_right _ (by omega)
      rw [List.length_map, List.length_map]
      omega
    · rcases List.mem_append.mp hr with hr | hr
      · exact h1 r hr
      · exact hrs.1 r hr
    · have := hrs.2
      rw [List.length_append, Nat.succ_mul]; omega
    · have hs2 := hs.drop 3
      have hs3 : Sat G1 H0 [some (vLn K l), some (vL (l.ends.map (vE K))), some (vR fa), none] [(fa, oL (y.map (vRing K) ++ rs.map (vRing K)))] σ H := hs2
      rw [← List.map_append] at hs3
      exact hs3
  · rintro y ⟨h1, h2⟩ σ H hs
    refine s_ret hs (eg_borrow [some (vLn K l), some (vL (l.ends.map (vE K))), some (vL (y.map (vRing K))), none] (BC.ok (.same (.same (bc_list List.mem_cons_self (.same .nil))))) (mut_L mut_nil) (surv_T fun P hP => ?_) (eg_tuple T.f_tuple (eg_sortD (f := ringD) hr (fun r _ => dat_ring) (fun r _ => depth_ring) (PySem.W.AllAlike.of alike_ring) ?_ T.f_sorted (eg_var (i := 2) rfl rfl)))) fun v G' H' st q => k v G' H' st ⟨_, fun r hr => h1 r (List.mem_mergeSort.mp hr), q⟩
    · obtain ⟨r, _, rfl⟩ := List.mem_map.mp hP
      exact surv_T fun P hP => by
        obtain ⟨n, _, rfl⟩ := List.mem_map.mp hP
        exact surv_is
    · refine .inl fun d hd => ?_
      obtain ⟨r, hr, rfl⟩ := List.mem_map.mp hd
      have hne := (h1 r hr).1
      cases r with
      | nil => exact absurd rfl hne
      | cons n r => exact ⟨_, _, rfl⟩
end
end Ow
namespace Ow
open PySem PySem.Spec PyProof.Rows L2 He
/-! ### no ring is stuck -/
def Ln.stockAt (l : Ln) (i : Nat) : Nat := ((l.lks[i]?).map Lnk.stock).getD 0
/-- what hands on at once leads ahead -/
def Ahead (l : Ln) : Prop := ∃ rk : Str → Nat, ∀ kk ∈ l.lks, kk.stock = 0 → rk kk.src < rk kk.dst
theorem ends_at {l : Ln} {i b c : Nat} (h : l.ends[i]? = some (b, c)) : ∃ kk, l.lks[i]? = some kk ∧ b = l.names.idxOf kk.src ∧ c = l.names.idxOf kk.dst := by
  unfold Ln.ends at h
  rw [List.getElem?_map] at h
  cases e : l.lks[i]? with
  | none => rw [e] at h; cases h
  | some kk =>
    rw [e] at h
    have := Option.some.inj h
    exact ⟨kk, rfl, (congrArg Prod.fst this).symm, (congrArg Prod.snd this).symm⟩
theorem thr_mem {es : List (Nat × Nat)} {a b : Nat} {r : List Nat} (h : Thr es a r b) : ∀ i ∈ r, ∃ q, es[i]? = some q := by
  induction h with
  | nil => intro i hi; cases hi
  | snoc t e ih =>
    intro j hj
    rcases List.mem_append.mp hj with hj | hj
    · exact ih j hj
    · rw [List.mem_singleton.mp hj]; exact ⟨_, e⟩
theorem thr_rank {l : Ln} (ok : LnOk l) (rk : Str → Nat) (h : ∀ kk ∈ l.lks, kk.stock = 0 → rk kk.src < rk kk.dst) {a b : Nat} {r : List Nat} (t : Thr l.ends a r b) (hs : (r.map l.stockAt).sum = 0) (ha : a < l.names.length) : ∃ hb : b < l.names.length, (r = [] ∧ a = b) ∨ rk l.names[a] < rk l.names[b] := by
  induction t with
  | nil => exact ⟨ha, .inl ⟨rfl, rfl⟩⟩
  | @snoc r b c i t e ih =>
    rw [List.map_append, List.sum_append] at hs
    obtain ⟨hb, ih⟩ := ih (by omega)
    obtain ⟨kk, e1, e2, e3⟩ := ends_at e
    have hm := List.mem_of_getElem? e1
    obtain ⟨_, h1, h2⟩ := ok.lks kk hm
    have hc : c < l.names.length := by rw [e3]; exact List.idxOf_lt_length_of_mem h2
    have s0 : kk.stock = 0 := by
      have : l.stockAt i = kk.stock := by unfold Ln.stockAt; rw [e1]; rfl
      have hs2 : [i].map l.stockAt = [l.stockAt i] := rfl
      rw [hs2] at hs
      simp at hs
      omega
    have lt := h kk hm s0
    have nb : l.names[b] = kk.src := by subst e2; exact List.getElem_idxOf _
    have nc : l.names[c] = kk.dst := by subst e3; exact List.getElem_idxOf _
    refine ⟨hc, .inr ?_⟩
    rw [nc]
    rcases ih with ⟨_, rfl⟩ | ih
    · rw [nb]; exact lt
    · rw [nb] at ih; omega
theorem ring_sum {l : Ln} (ok : LnOk l) (ah : Ahead l) {r : List Nat} {b : Nat} (t : Thr l.ends b r b) (hne : r ≠ []) : (r.map l.stockAt).sum ≠ 0 := by
  obtain ⟨rk, h⟩ := ah
  intro hs
  -- the first link's source is a name
  have hb : b < l.names.length := by
    cases t with
    | nil => exact absurd rfl hne
    | snoc t e =>
      obtain ⟨kk, e1, _, e3⟩ := ends_at e
      rw [e3]; exact List.idxOf_lt_length_of_mem (ok.lks kk (List.mem_of_getElem? e1)).2.2
  obtain ⟨_, h1⟩ := thr_rank ok rk h t hs hb
  rcases h1 with ⟨h1, _⟩ | h1
  · exact hne h1
  · exact Nat.lt_irrefl _ h1
section
variable {P : Program} {w : World} {K : PySem.W.Frag} {mg : Str → Option Value} {base : Heap}
theorem isum_nat (xs : List Nat) : (xs.map fun n => ((n : Nat) : Int)).sum = ((xs.sum : Nat) : Int) := by
  induction xs with
  | nil => rfl
  | cons x xs ih => rw [List.map_cons, List.sum_cons, List.sum_cons, ih]; push_cast; rfl
theorem g_stuck (T : Txt K mg) : FG P w K mg base 7 "stuck" (fun l => LnOk l ∧ Ahead l) (fun l => [vLn K l]) (fun _ => vN) := by
  refine (fo T.d_stuck sc_stuck (fun _ _ => rfl) (fun _ _ _ _ _ _ us hl => match us, hl with | [_], _ => rfl) ?_).fg T.g_stuck
  rintro cdv Ar outer s0 H0 E l G Q σ hr ⟨ok, ah⟩ hs k
  have hz := sizeBig
  refine s_forE (γ := Unit) hs (ige_tup (F := vRing K) (eg_call (g_rings T) hr (by omega) l ok (ag_cons (eg_var (i := 0) rfl rfl) ag_nil))) (fun _ _ _ => [some (vLn K l), none, none]) (fun _ _ _ => []) (fun _ _ _ => True) (fun _ _ _ r => [some (vLn K l), some (vRing K r), none]) [1] (fun _ _ G1 σ H h => ⟨(), trivial, h⟩) (fun _ i _ x _ _ => gt_name 1 sc_stuck.nd) ?_ ?_
  · intro rs hrs G1 gg i _ r hx _ σ H hs
    obtain ⟨hne, hlen, b, ht⟩ := hrs r (List.mem_of_getElem? hx)
    have hsum := ring_sum ok ah ht hne
    refine s_skip hs (tEqI (eg_sum (ns := (r.map l.stockAt).map fun n => ((n : Nat) : Int)) T.f_sum ((eg_lc n_stuck (defScope s_stuck) [("index", 2)] (t := fun _ : Nat => true) (R := fun i => vIn (l.stockAt i)) (fun i => [some (vLn K l), some (vRing K r), some (vIn i)]) [2] (ig_tup (xs := r) (F := vIn) (eg_var (i := 1) rfl rfl)) ?_
      (fun _ _ _ _ _ q _ => gt_name 2 sc_stuck.nd) (fun _ _ _ _ _ q _ => pts_yes) (fun _ _ _ _ _ i hi _ => ?_) sc_stuck.nd).cast ?_)) eg_int) ?_ fun H hs => wp_nil ⟨(), trivial, hs.drop 1⟩
    · exact sz_of hlen
    · obtain ⟨q, hq⟩ := thr_mem ht i hi
      obtain ⟨kk, hk, _⟩ := ends_at (b := q.1) (c := q.2) hq
      have e : l.stockAt i = kk.stock := by unfold Ln.stockAt; rw [hk]; rfl
      show EG _ _ _ _ (vIn (l.stockAt i))
      rw [e]
      exact e_Link_stock (y := kk) T hr (by omega) (gIxT (i := (i : Nat)) (atI_nat (by rw [List.getElem?_map, hk]; rfl)) (e_Line_links (y := l) T hr (by omega) (eg_var (i := 0) rfl rfl)) (eg_var (i := 2) rfl rfl))
    · rw [filter_true, List.map_map, List.map_map]; rfl
    · rw [isum_nat]
      exact decide_eq_false (by omega)
  · intro rs _ _ _ σ H hs
    exact s_ret hs eg_non k
theorem fn_checkfree (T : Txt K mg) : FnR P w K mg base CX0 8 (ga K "check_free") (fun vs H Q E => ∃ ls : List Ln, ls.length ≤ 30 ∧ (∀ l ∈ ls, LnOk l ∧ Ahead l) ∧ ∃ G, Same G H ∧ PV (ls.map (vLn K)) vs G ∧ ∀ G' H', Step G H G' H' → Q .non H') := by
  obtain ⟨fd, F⟩ := T.d_check_free
  obtain ⟨oc, od, dV, kV, doc, pm, an, cdv, ct, osl, rfl, lk, hcd, hD, hK⟩ := F.ex
  have hdV : dV = .none := by
    rcases hD with ⟨_, h⟩ | ⟨h, _⟩
    · exact h
    · exact absurd rfl h
  subst hdV
  have main := StX.fn_star (P := P) (w := w) (mg := mg) (base := base) (k := 7) (N := n_check_free) (ps := []) (pv := "lines") (sp := fun vs H Q E => ∃ p us G, vs = [V.ref p] ∧ H p = some (.tup us) ∧ G p = none ∧ ∃ ls : List Ln, ls.length ≤ 30 ∧ (∀ l ∈ ls, LnOk l ∧ Ahead l) ∧ Same G H ∧ PV (ls.map (vLn K)) us G ∧ ∀ G' H', Step G (rmv H p) G' H' → Q .non H') (CX := CX0) lk hcd sc_check_free ?_ ?_ ?_
  · refine main.imp fun vs H Q E ⟨ls, h30, hls, G, sm, pv, kk⟩ => ⟨[], vs, rfl, rfl, ?_, fun p hp => ⟨p, vs, G, rfl, upd_same, sm.free hp, ls, h30, hls, ?_, pv, fun G' H' st => ?_⟩⟩
    · rw [← Paired.length pv, List.length_map]; exact sz_of h30
    · exact fun b o e => by rw [upd_ne (ne_of_none (sm _ _ e) hp)]; exact sm _ _ e
    · have e : rmv (upd H p (.tup vs)) p = H := by
        funext b
        by_cases hb : b = p
        · subst hb; rw [rmv_self, hp]
        · rw [rmv_ne hb, upd_ne hb]
      rw [e] at st
      exact kk G' H' st
  · exact StX.cxUp_none
  · intro us rest hl
    cases us with
    | nil =>
      cases rest with
      | nil => rfl
      | cons r rs => rfl
    | cons u us => cases hl
  · rintro Ar outer s H vs Q E hr ⟨p, us, G, rfl, hp, hGp, ls, h30, hls, sm, pv, kk⟩
    refine ⟨_, PSs.nox pss_wp, ?_⟩
    have s1 : Same (upd G p (.tup us)) H := fun b o e => by
      by_cases hb : b = p
      · subst hb; rw [upd_same] at e; rw [hp]; exact e
      · rw [upd_ne hb] at e; exact sm _ _ e
    have sG : Same G (upd G p (.tup us)) := fun b o e => by rw [upd_ne (ne_of_none e hGp)]; exact e
    have sH : Same G (rmv H p) := fun b o e => by rw [rmv_ne (ne_of_none e hGp)]; exact sm _ _ e
    have hs : Sat (upd G p (.tup us)) (rmv H p) [some (vT K (ls.map (vLn K))), none, none] [] (L2.start n_check_free [V.ref p]) H := by
      refine ⟨_, ⟨Same.refl _, rmv_sub, fun _ _ _ n => n⟩, ?_⟩
      exact start_ok (N := n_check_free) (A := [vT K (ls.map (vLn K))]) (vs := [V.ref p]) s1 (.cons ⟨p, us, rfl, SqT.of upd_same, PV.mono sG pv⟩ .nil)
    refine s_for (X := bodyX P w K mg base n_check_free "check_free" (defScope s_check_free) (ga K "check_free") cdv Ar outer s H E) (γ := Unit) hs (ig_tup (xs := ls) (F := vLn K) (eg_var (i := 0) rfl rfl)) (fun _ _ => [some (vT K (ls.map (vLn K))), none, none]) (fun _ _ => []) (fun _ _ => True) (fun _ _ l => [some (vT K (ls.map (vLn K))), some (vLn K l), none]) [1] (fun G1 σ H h => ⟨(), trivial, h⟩) (fun i _ x _ _ => gt_name 1 sc_check_free.nd) ?_ ?_
    · intro G1 gg i _ l hx _ σ H hs
      refine s_set hs 2 (eg_call (g_stuck T) hr (Nat.le_refl _) l (hls l (List.mem_of_getElem? hx)) (ag_cons (eg_var (i := 1) rfl rfl) ag_nil)) (fun σ H hs => ?_) sc_check_free.nd
      exact s_skip hs (tg_notN (x := .non) (eg_var (i := 2) rfl rfl)) rfl fun H hs => wp_nil ⟨(), trivial, (hs.drop 1).drop 2⟩
    · intro _ _ σ H hs
      refine s_end hs fun G' H' st => kk G' H' ⟨sG.trans st.g, st.h, st.gh, fun b o e n => ?_⟩
      refine st.out b o e ?_
      have hb : b ≠ p := fun z => by subst z; rw [rmv_self] at e; cases e
      rw [upd_ne hb]; exact n
/-- check_free(a, b) -/
theorem s_checkfree {X : Cx} {Γ : Cn} {Ω : Om} {σ : L2.St} {G0 H0 H : Hp} {D : Ends} {rest : List Stmt} {pos p epos : Pos} {e1 e2 : Expr} {l1 l2 : Ln} {k : Nat} (T : Txt X.K X.mg) (hr : Room k X.A) (hk : 8 ≤ k) (hs : Sat G0 H0 Γ Ω σ H) (ha : EG X Γ Ω e1 (vLn X.K l1)) (hb : EG X Γ Ω e2 (vLn X.K l2)) (h1 : LnOk l1 ∧ Ahead l1) (h2 : LnOk l2 ∧ Ahead l2) (kk : ∀ H', Sat G0 H0 Γ Ω σ H' → wpS X rest D σ H')
    (hg : Gl X "check_free" := by rfl) (hs1 : starEach [e1, e2] X.env = (false, eval e1 X.env) :: starEach [e2] X.env := by rfl) (hs2 : starEach [e2] X.env = (false, eval e2 X.env) :: starEach [] X.env := by rfl) (hpl : (backTo pos (starEach [e2] X.env)).any (·.1) = false := by rfl) (hw : swapsWith (.Call (.Name "check_free" p) [e1, e2] [] pos) none epos.line X.env = pure false := by rfl) : wpS X (.Expr (.Call (.Name "check_free" p) [e1, e2] [] pos) epos :: rest) D σ H := by
  obtain ⟨fd, F⟩ := T.d_check_free
  have R := fn_checkfree (P := X.prog) (w := X.w) (base := X.base) T
  have he : EG X Γ Ω (.Call (.Name "check_free" p) [e1, e2] [] pos) vN := by
    refine weak (t := fun σ H Q => tGA Γ Ω [vLn X.K l1, vLn X.K l2] σ H fun vs H1 => ∃ ls : List Ln, ls.length ≤ 30 ∧ (∀ l ∈ ls, LnOk l ∧ Ahead l) ∧ ∃ G, Same G H1 ∧ PV (ls.map (vLn X.K)) vs G ∧ ∀ G' H', Step G H1 G' H' → Q .non H') ⟨fun pins s σ H Q I h => ?_⟩ fun σ H Q ⟨G0, H0, s, k⟩ => ⟨G0, H0, s, fun vs G1 H1 g1 o1 q1 => ⟨[l1, l2], by show 2 ≤ 30; decide, fun l hl => ?_, G1, o1.gh, q1, fun G' H' st => k _ G' H' (g1.step st) (o1.step st) rfl⟩⟩
    · refine wpAny_Call_Name_kw (ld_glob I hg T.g_check_free ?_ (by decide))
      refine PySem.W.callWith_K (h₀ := X.base) I.ok.mod.kin F.kp (thn ((ag_cons ha (ag_cons hb ag_nil hs2) hs1).run pos pins s σ H _ I h) fun us s1 ⟨vs, H1, I1, r, q⟩ => ⟨I1.kIn, ?_⟩) hs1 hpl
      exact wpAny_call (run_fnR (E := E0) R (hr.mono hk) pass0 I1 r q)
    · rcases List.mem_cons.mp hl with rfl | hl
      · exact h1
      · rw [List.mem_singleton.mp hl]; exact h2
  exact s_expr hs he kk hw
end
end Ow
namespace Ow
open PySem PySem.Spec PyProof.Rows L2 He
/-! ### the width, what leads to a beginning -/
theorem foldl_max (xs : List Nat) : ∀ m, (∀ x ∈ xs, x ≤ xs.foldl max m) ∧ m ≤ xs.foldl max m ∧ (xs.foldl max m = m ∨ xs.foldl max m ∈ xs) := by
  induction xs with
  | nil => intro m; exact ⟨fun x h => (by cases h), Nat.le_refl _, .inl rfl⟩
  | cons x xs ih =>
    intro m
    obtain ⟨h1, h2, h3⟩ := ih (max m x)
    show (∀ y ∈ x :: xs, y ≤ xs.foldl max (max m x)) ∧ m ≤ xs.foldl max (max m x) ∧ (xs.foldl max (max m x) = m ∨ xs.foldl max (max m x) ∈ x :: xs)
    refine ⟨fun y hy => ?_, by omega, ?_⟩
    · rcases List.mem_cons.mp hy with rfl | hy
      · omega
      · exact h1 y hy
    · rcases h3 with h3 | h3
      · rw [h3]
        by_cases h : x ≤ m
        · left; omega
        · right; rw [show max m x = x by omega]; exact List.mem_cons_self
      · exact .inr (List.mem_cons_of_mem _ h3)
def Ln.sizes (l : Ln) : List Nat := l.sts.filterMap Stn.hands ++ l.lks.map Lnk.stock
def Ln.width (l : Ln) : Nat := l.sizes.foldl max 1
structure Ent where
  lag : Nat
  name : Str
  place : Bool
def b2n (b : Bool) : Nat := if b then 1 else 0
def vEnt (K : PySem.W.Frag) (e : Ent) : VP := vT K [vIn e.lag, vS e.name, vIn (b2n e.place)]
abbrev Row : Type := List Str × List Str
def vRow (K : PySem.W.Frag) (r : Row) : VP := vT K [vT K (r.1.map vS), vT K (r.2.map vS)]
def side (r : Row) (p : Bool) : List Str := if p then r.2 else r.1
/-- the row so many rows back, the own one for 0 -/
def rowAt (rows : List Row) (own : Row) (lag : Nat) : Row := if lag = 0 then own else rows.getD (rows.length - lag) ([], [])
def begunE (rows : List Row) (own : Row) (e : Ent) : Bool := decide (e.lag ≤ rows.length) && decide (e.name ∈ side (rowAt rows own e.lag) e.place)
section
variable {P : Program} {w : World} {K : PySem.W.Frag} {mg : Str → Option Value} {base : Heap}
theorem g_width_of (T : Txt K mg) : FG P w K mg base 4 "width_of" LnOk (fun l => [vLn K l]) (fun l => vIn l.width) := by
  refine (fo T.d_width_of sc_width_of (fun _ _ => rfl) (fun _ _ _ _ _ _ us hl => match us, hl with | [_], _ => rfl) ?_).fg T.g_width_of
  rintro cdv Ar outer s0 H0 E l G Q σ hr ok hs k
  have few := ok.few
  have fewL := ok.fewL
  refine s_setLc (α := Stn) n_width_of (defScope s_width_of) [("station", 2)] (t := fun s => s.hands.isSome) (R := fun s => vOpt s.hands) (fun s => [some (vLn K l), none, some (vStn K s), none]) [2] hs 1 (ig_tup (xs := l.sts) (F := vStn K) (e_Line_stations (y := l) T hr (by omega) (eg_var (i := 0) rfl rfl))) (sz_of (by omega))
    (fun _ _ _ _ _ s _ => gt_name 2 sc_width_of.nd) (fun _ _ _ _ _ s _ => pts_if ?_) (fun _ _ _ _ _ s _ _ => e_Station_hands (y := s) T hr (by omega) (eg_var (i := 2) rfl rfl)) (fun σ H hs => ?_) sc_width_of.nd
  · have he := fun X' => @e_Station_hands X'
    cases e : s.hands with
    | none => exact tg_notN (x := .non) ((e_Station_hands (y := s) T hr (by omega) (eg_var (i := 2) rfl rfl)).cast (by rw [e]; rfl))
    | some h => exact tg_notN (x := .int (h : Nat)) ((e_Station_hands (y := s) T hr (by omega) (eg_var (i := 2) rfl rfl)).cast (by rw [e]; rfl))
  have e1 : ((l.sts.filter fun s => s.hands.isSome).map fun s => vOpt s.hands) = (l.sts.filterMap Stn.hands).map vIn := by
    generalize l.sts = xs
    induction xs with
    | nil => rfl
    | cons x xs ih =>
      cases hx : x.hands with
      | none => simpa [hx] using ih
      | some h =>
        rw [List.filter_cons, hx, Option.isSome_some, if_pos rfl, List.map_cons, List.filterMap_cons, hx, ih]
        rfl
  rw [e1] at hs
  have lenS : (l.sts.filterMap Stn.hands).length ≤ l.sts.length := List.length_filterMap_le _ _
  obtain ⟨m1, m2, m3⟩ := foldl_max l.sizes 1
  refine s_ret hs (eg_maxL (ns := (1 :: l.sizes).map fun n => ((n : Nat) : Int)) (m := (l.width : Nat)) T.f_max ?_ ?_ ((eg_lst (Ps := vI 1 :: ((l.sts.filterMap Stn.hands).map vIn ++ (((l.lks.filter fun _ => true).map fun kk => vIn kk.stock) ++ []))) (ag_cons eg_int (ag_star ((eg_var (i := 1) rfl rfl).to fun v G q => .inl q) (ag_star ((eg_lc n_width_of (defScope s_width_of) [("link", 3)] (t := fun _ : Lnk => true) (R := fun kk => vIn kk.stock) (fun kk => [some (vLn K l), some (vL ((l.sts.filterMap Stn.hands).map vIn)), none, some (vLnk K kk)]) [3] (ig_tup (xs := l.lks) (F := vLnk K) (e_Line_links (y := l) T hr (by omega) (eg_var (i := 0) rfl rfl))) (sz_of (by omega))
      (fun _ _ _ _ _ q _ => gt_name 3 sc_width_of.nd) (fun _ _ _ _ _ q _ => pts_yes) (fun _ _ _ _ _ kk _ _ => e_Link_stock (y := kk) T hr (by omega) (eg_var (i := 3) rfl rfl)) sc_width_of.nd).to fun v G q => .inl q) ag_nil))) ?_).cast ?_)) k
  · refine List.mem_map.mpr ⟨l.width, ?_, rfl⟩
    rcases m3 with m3 | m3
    · unfold Ln.width; rw [m3]; exact List.mem_cons_self
    · exact List.mem_cons_of_mem _ m3
  · intro y hy
    obtain ⟨n, hn, rfl⟩ := List.mem_map.mp hy
    have : n ≤ l.width := by
      rcases List.mem_cons.mp hn with rfl | hn
      · exact m2
      · exact m1 n hn
    omega
  · refine sz_of ?_
    rw [filter_true]
    simp only [List.length_cons, List.length_append, List.length_map, List.length_nil]
    omega
  · rw [filter_true]
    congr 1
    unfold Ln.sizes
    simp
    rfl
structure IbY where
  es : List Ent
  rows : List Row
  own : Row
theorem g_is_begun (T : Txt K mg) : FG P w K mg base 1 "is_begun" (fun y : IbY => y.es.length ≤ 30 ∧ y.rows.length ≤ 100000) (fun y => [vL (y.es.map (vEnt K)), vL (y.rows.map (vRow K)), vT K [vL (y.own.1.map vS), vL (y.own.2.map vS)]]) (fun y => vB (y.es.any (begunE y.rows y.own))) := by
  refine (fo T.d_is_begun sc_is_begun (fun _ _ => rfl) (fun _ _ _ _ _ _ us hl => match us, hl with | [_, _, _], _ => rfl) ?_).fg T.g_is_begun
  rintro cdv Ar outer s0 H0 E ⟨es, rows, own⟩ G Q σ hr ⟨h30, hrow⟩ hs k
  replace hrow : rows.length ≤ 100000 := hrow
  refine s_for (γ := Unit) hs (ig_list (xs := es) (F := vEnt K) (eg_var (i := 0) rfl rfl)) (fun _ _ => [some (vL (es.map (vEnt K))), some (vL (rows.map (vRow K))), some (vT K [vL (own.1.map vS), vL (own.2.map vS)]), none, none, none]) (fun i y => []) (fun i _ => (es.take i).any (begunE rows own) = false)
    (fun _ _ e => [some (vL (es.map (vEnt K))), some (vL (rows.map (vRow K))), some (vT K [vL (own.1.map vS), vL (own.2.map vS)]), some (vIn e.lag), some (vS e.name), some (vIn (b2n e.place))]) [3, 4, 5] (fun G1 σ H h => ⟨(), rfl, h⟩) (fun i _ x _ _ => gt_tup (gts_cons (gt_name 3 sc_is_begun.nd) (gts_cons (gt_name 4 sc_is_begun.nd) (gts_cons (gt_name 5 sc_is_begun.nd) gts_nil)))) ?_ ?_
  · rintro G1 gg i _ ⟨lag, nm, pl⟩ hx hprev σ H hs
    have hat : ∀ (A B : VP), atI [A, B] ((b2n pl : Nat) : Int) = some (if pl then B else A) := fun A B => by cases pl <;> rfl
    have test : TG (bodyX P w K mg base n_is_begun "is_begun" (defScope s_is_begun) (ga K "is_begun") cdv Ar outer s0 H0 E) [some (vL (es.map (vEnt K))), some (vL (rows.map (vRow K))), some (vT K [vL (own.1.map vS), vL (own.2.map vS)]), some (vIn lag), some (vS nm), some (vIn (b2n pl))] [] (match (defBody s_is_begun).head? with
      | some (.For _ _ (.If c _ _ _ :: _) _ _) => c
      | _ => .Constant .none 0 ⟨0, 0, 0, 0⟩) (begunE rows own ⟨lag, nm, pl⟩) := by
      refine ((wg_and (k := decide (((lag : Nat) : Int) ≤ ((rows.map (vRow K)).length : Nat))) (m := decide (nm ∈ side (rowAt rows own lag) pl)) (tLe (eg_var (i := 3) rfl rfl) (eg_lenL T.f_len (eg_var (i := 1) rfl rfl))) fun hle => wg_and1 ?_).tg).cast ?_
      · have hle' : lag ≤ rows.length := by
          have := of_decide_eq_true hle
          rw [List.length_map] at this
          omega
        by_cases h0 : lag = 0
        · have hk : decide (((lag : Nat) : Int) = 0) = true := decide_eq_true (by omega)
          refine (tInS (xs := side own pl) (eg_var (i := 4) rfl rfl) (eg_ifExp (k := true) ((tEqI (eg_var (i := 3) rfl rfl) eg_int).cast hk) (fun _ => (gIxT (hat _ _) (eg_var (i := 2) rfl rfl) (eg_var (i := 5) rfl rfl)).cast ?_) (fun h => by cases h))).cast ?_
          · cases pl <;> rfl
          · rw [inS_iff]; unfold rowAt; rw [if_pos h0]
        · have hk : decide (((lag : Nat) : Int) = 0) = false := decide_eq_false (by omega)
          have hlt : rows.length - lag < rows.length := by omega
          refine (tInST (xs := side (rows.getD (rows.length - lag) ([], [])) pl) (eg_var (i := 4) rfl rfl) (eg_ifExp (k := false) ((tEqI (eg_var (i := 3) rfl rfl) eg_int).cast hk) (fun h => by cases h) (fun _ => (gIxT (hat (vT K ((rows.getD (rows.length - lag) ([], [])).1.map vS)) (vT K ((rows.getD (rows.length - lag) ([], [])).2.map vS))) (gIxL (P := vRow K (rows.getD (rows.length - lag) ([], []))) ?_ (eg_var (i := 1) rfl rfl) (gSub (eg_lenL T.f_len (eg_var (i := 1) rfl rfl)) (eg_var (i := 3) rfl rfl))) (eg_var (i := 5) rfl rfl)).cast ?_))).cast ?_
          · have e : (((rows.map (vRow K)).length : Nat) : Int) - ((lag : Nat) : Int) = ((rows.length - lag : Nat) : Int) := by rw [List.length_map]; omega
            rw [e]
            refine atI_nat ?_
            rw [List.getElem?_map, List.getElem?_eq_getElem hlt, List.getD_eq_getElem?_getD, List.getElem?_eq_getElem hlt]
            rfl
          · cases pl <;> rfl
          · rw [inS_iff]; unfold rowAt; rw [if_neg h0]
      · unfold begunE
        congr 1
        rw [List.length_map]
        by_cases h : lag ≤ rows.length
        · rw [decide_eq_true h, decide_eq_true (by omega)]
        · rw [decide_eq_false h, decide_eq_false (by omega)]
    have step : (es.take (i + 1)).any (begunE rows own) = begunE rows own ⟨lag, nm, pl⟩ := by
      rw [List.take_add_one, hx, List.any_append, hprev]; simp
    refine s_if hs test (fun hk H hs => ?_) (fun hk H hs => wp_nil (wp_nil ⟨(), step.trans hk, ((hs.drop 3).drop 4).drop 5⟩))
    refine s_ret hs eg_bl fun v G' H' st q => k v G' H' (gg.step st) ?_
    have : es.any (begunE rows own) = true := List.any_eq_true.mpr ⟨_, List.mem_of_getElem? hx, hk⟩
    show v = V.bl (es.any (begunE rows own))
    rw [this]; exact q
  · intro _ hno σ H hs
    rw [List.take_length] at hno
    refine s_ret hs eg_bl fun v G' H' st q => k v G' H' st ?_
    show v = V.bl (es.any (begunE rows own))
    rw [hno]; exact q
end
end Ow
namespace Ow
open PySem PySem.Spec PyProof.Rows L2 He
/-! ### what leads to each station's beginnings -/
def Stn.own (s : Stn) : List Ent := match s.hands with
  | none => []
  | some h => [⟨h, s.name, false⟩]
def Lnk.ent (k : Lnk) : Ent := ⟨k.stock, k.src, k.early⟩
def viaL (ks : List Lnk) (nm : Str) : List Ent := (ks.filter fun k => decide (k.dst = nm)).map Lnk.ent
def Ln.ents (l : Ln) (s : Stn) : List Ent := s.own ++ viaL l.lks s.name
def vEs (K : PySem.W.Frag) (es : List Ent) : VP := vL (es.map (vEnt K))
def Ln.entD (l : Ln) : List (Key × List Ent) := l.sts.map fun s => (Sum.inr s.name, l.ents s)
def vEnts (K : PySem.W.Frag) (l : Ln) : VP := vDK (vEs K) l.entD
theorem dP_new {κ β : Type} [DecidableEq κ] {d : List (κ × β)} {k : κ} {x : β} (h : ∀ q ∈ d, q.1 ≠ k) : dP d k x = d ++ [(k, x)] := by
  unfold dP
  rw [if_neg]
  intro z
  obtain ⟨q, hq, e⟩ := List.any_eq_true.mp z
  exact h q hq (of_decide_eq_true e)
theorem dG_mem {κ β : Type} [DecidableEq κ] {k : κ} {x : β} : ∀ {d : List (κ × β)}, (d.map (·.1)).Nodup → (k, x) ∈ d → dG d k = some x
  | q :: d, nd, h => by
    rw [List.map_cons, List.nodup_cons] at nd
    by_cases hq : q.1 = k
    · have e : dG (q :: d) k = some q.2 := by simp [dG, hq]
      rcases List.mem_cons.mp h with rfl | h
      · exact e
      · exact absurd (List.mem_map.mpr ⟨_, h, hq.symm⟩) nd.1
    · have e : dG (q :: d) k = dG d k := by simp [dG, hq]
      rw [e]
      rcases List.mem_cons.mp h with rfl | h
      · exact absurd rfl hq
      · exact dG_mem nd.2 h
theorem nodup_rev {α : Type} {l : List α} (h : l.Nodup) : l.reverse.Nodup := List.pairwise_reverse.mpr (List.Pairwise.imp (fun h => Ne.symm h) h)
theorem viaL_snoc {ks : List Lnk} {k : Lnk} {nm : Str} : viaL (ks ++ [k]) nm = viaL ks nm ++ (if k.dst = nm then [k.ent] else []) := by
  unfold viaL
  rw [List.filter_append, List.map_append]
  congr 1
  by_cases h : k.dst = nm <;> simp [h]
section
variable {P : Program} {w : World} {K : PySem.W.Frag} {mg : Str → Option Value} {base : Heap}
def enL (K : PySem.W.Frag) (E : Stn → List Ent) (q : Addr × Stn) : Addr × OP := (q.1, oL ((E q.2).map (vEnt K)))
def enD (y : List (Addr × Stn)) : List (Key × Addr) := y.reverse.map fun q => (Sum.inr q.2.name, q.1)
theorem pd_lists {F : Stn → List Ent} {G : Hp} : ∀ {zs : List (Addr × Stn)} {us : List (Key × V)}, (∀ q ∈ zs, (vEs K (F q.2)).p (.ref q.1) G) → PD vR (zs.map fun q => ((Sum.inr q.2.name : Key), q.1)) us G → PD (vEs K) (zs.map fun q => ((Sum.inr q.2.name : Key), F q.2)) us G
  | [], us, _, h => by cases h; exact .nil
  | q :: zs, us, hq, h => by
    cases h with
    | cons r t =>
      obtain ⟨e, r⟩ := r
      rename_i u us
      have e2 : u.2 = V.ref q.1 := r
      refine .cons ⟨e, ?_⟩ (pd_lists (fun z hz => hq z (List.mem_cons_of_mem _ hz)) t)
      show (vEs K (F q.2)).p u.2 G
      rw [e2]
      exact hq q List.mem_cons_self
theorem g_entries_of (T : Txt K mg) : FG P w K mg base 3 "entries_of" LnOk (fun l => [vLn K l]) (fun l => vEnts K l) := by
  refine (fo T.d_entries_of sc_entries_of (fun _ _ => rfl) (fun _ _ _ _ _ _ us hl => match us, hl with | [_], _ => rfl) ?_).fg T.g_entries_of
  rintro cdv Ar outer s0 H0 E l G Q σ hr ok hs k
  have few := ok.few
  have fewL := ok.fewL
  have hz := sizeBig
  refine s_new hs 1 (ng_dK (F := fun a : Addr => vR a)) (fun fa σ H hs => ?_) sc_entries_of.nd
  refine s_for (γ := List (Addr × Stn)) hs (ig_tup (xs := l.sts) (F := vStn K) (e_Line_stations (y := l) T hr (by omega) (eg_var (i := 0) rfl rfl))) (fun _ _ => [some (vLn K l), some (vR fa), none, none]) (fun i y => y.map (enL K Stn.own) ++ [(fa, oDK (fun a : Addr => vR a) (enD y))]) (fun i y => y.map (·.2) = (l.sts.take i).reverse)
    (fun _ _ s => [some (vLn K l), some (vR fa), some (vStn K s), none]) [2] (fun G1 σ H h => ⟨[], rfl, h⟩) (fun i _ x _ _ => gt_name 2 sc_entries_of.nd) ?_ ?_
  · rintro G1 gg i y s hx hy σ H hs
    have hil := lt_of_some hx
    have hlen : y.length = i := by
      have := congrArg List.length hy
      rw [List.length_map, List.length_reverse, List.length_take] at this
      omega
    have hnew : ∀ q ∈ enD y, q.1 ≠ (Sum.inr s.name : Key) := fun q hq e => by
      obtain ⟨z, hz1, rfl⟩ := List.mem_map.mp hq
      have h1 : z.2.name = s.name := Sum.inr.inj e
      have h2 : z.2 ∈ y.map (·.2) := List.mem_map_of_mem (List.mem_reverse.mp hz1)
      rw [hy, List.mem_reverse] at h2
      have := nodup_at (show (l.sts.map Stn.name).Nodup from ok.nd) hx
      exact this (h1 ▸ List.mem_map_of_mem h2)
    have hdl : (enD y).length < sizeLine := by unfold enD; rw [List.length_map, List.length_reverse, hlen]; omega
    refine s_dputN (R := oDK (fun a : Addr => vR a) (enD y)) (R1 := oL (s.own.map (vEnt K))) (Pk := vS s.name) hr hs y.length (by simp [enL]) (fun a => oDK (fun a : Addr => vR a) (dP (enD y) (.inr s.name) a)) (fun a => DPuts.k (F := fun a : Addr => vR a) (q := Sum.inr s.name) hdl) ?_ (fun a => eg_var (i := 1) rfl rfl) (fun a => e_Station_name (y := s) T hr (by omega) (eg_var (i := 2) rfl rfl)) (fun a H hs => wp_nil ⟨(a, s) :: y, ?_, ?_⟩)
    · cases e : s.hands with
      | none =>
        have e2 : s.own = [] := by unfold Stn.own; rw [e]
        rw [e2]
        exact ng_ifExp (t := true) (tg_isN (x := .non) ((e_Station_hands (y := s) T hr (by omega) (eg_var (i := 2) rfl rfl)).cast (by rw [e]; rfl))) (fun _ => ng_lst ag_nil) (fun h => by cases h)
      | some h =>
        have e2 : s.own = [⟨h, s.name, false⟩] := by unfold Stn.own; rw [e]
        rw [e2]
        exact ng_ifExp (t := false) (tg_isN (x := .int (h : Nat)) ((e_Station_hands (y := s) T hr (by omega) (eg_var (i := 2) rfl rfl)).cast (by rw [e]; rfl))) (fun h => by cases h) (fun _ => ng_lst (Ps := [vEnt K ⟨h, s.name, false⟩]) (ag_cons (eg_tup (ag_cons ((e_Station_hands (y := s) T hr (by omega) (eg_var (i := 2) rfl rfl)).cast (by rw [e]; rfl)) (ag_cons (e_Station_name (y := s) T hr (by omega) (eg_var (i := 2) rfl rfl)) (ag_cons eg_int ag_nil)))) ag_nil))
    · show s :: y.map (·.2) = _
      rw [List.take_add_one, hx, hy, Option.toList_some, List.reverse_append]; rfl
    · have e3 : enD ((a, s) :: y) = enD y ++ [(Sum.inr s.name, a)] := by unfold enD; rw [List.reverse_cons, List.map_append]; rfl
      have hs2 := hs.drop 2
      rw [dP_new hnew, ← e3] at hs2
      have e4 : (y.map (enL K Stn.own) ++ [(fa, oDK (fun a : Addr => vR a) (enD y))]).set y.length (fa, oDK (fun a : Addr => vR a) (enD ((a, s) :: y))) = y.map (enL K Stn.own) ++ [(fa, oDK (fun a : Addr => vR a) (enD ((a, s) :: y)))] := by
        rw [List.set_append_right _ _ (by simp)]
        simp
      rw [e4] at hs2
      exact hs2
  · rintro y hy σ H hs
    rw [List.take_length] at hy
    have hnd : (y.map fun q => q.2.name).Nodup := by
      have e : (y.map fun q => q.2.name) = (l.sts.map Stn.name).reverse := by
        rw [← List.map_reverse, ← hy, List.map_map]; rfl
      rw [e]
      exact nodup_rev ok.nd
    have hylen : y.length ≤ 4 := by
      have := congrArg List.length hy
      rw [List.length_map, List.length_reverse] at this
      omega
    let Ei : Nat → Stn → List Ent := fun i s => s.own ++ viaL (l.lks.take i) s.name
    refine s_for (γ := Unit) hs (ig_tup (xs := l.lks) (F := vLnk K) (e_Line_links (y := l) T hr (by omega) (eg_var (i := 0) rfl rfl))) (fun _ _ => [some (vLn K l), some (vR fa), none, none]) (fun i _ => y.map (enL K (Ei i)) ++ [(fa, oDK (fun a : Addr => vR a) (enD y))]) (fun _ _ => True)
      (fun _ _ kk => [some (vLn K l), some (vR fa), none, some (vLnk K kk)]) [3] (fun G1 σ H h => ⟨(), trivial, ?_⟩) (fun i _ x _ _ => gt_name 3 sc_entries_of.nd) ?_ ?_
    · have e : y.map (enL K (Ei 0)) = y.map (enL K Stn.own) := by
        refine List.map_congr_left fun q _ => ?_
        show (q.1, oL (((q.2.own ++ viaL [] q.2.name)).map (vEnt K))) = _
        unfold viaL
        simp [enL]
      rw [e]; exact h
    · rintro G1 gg i _ kk hx _ σ H hs
      obtain ⟨_, _, hdst⟩ := ok.lks kk (List.mem_of_getElem? hx)
      -- the station it leads to
      have hex : ∃ q ∈ y, q.2.name = kk.dst := by
        obtain ⟨s, hs1, hs2⟩ := List.mem_map.mp hdst
        have : s ∈ y.map (·.2) := by rw [hy, List.mem_reverse]; exact hs1
        obtain ⟨q, hq, rfl⟩ := List.mem_map.mp this
        exact ⟨q, hq, hs2⟩
      obtain ⟨q, hq, hqn⟩ := hex
      obtain ⟨j, hj⟩ := List.mem_iff_getElem?.mp hq
      have hjl := lt_of_some hj
      have hΩj : (y.map (enL K (Ei i)) ++ [(fa, oDK (fun a : Addr => vR a) (enD y))])[j]? = some (q.1, oL ((Ei i q.2).map (vEnt K))) := by
        rw [List.getElem?_append_left (by rw [List.length_map]; exact hjl), List.getElem?_map, hj]; rfl
      have hΩd : (y.map (enL K (Ei i)) ++ [(fa, oDK (fun a : Addr => vR a) (enD y))])[y.length]? = some (fa, oDK (fun a : Addr => vR a) (enD y)) := by
        rw [List.getElem?_append_right (by rw [List.length_map]; exact Nat.le_refl _)]; simp
      have hdg : dG (enD y) (.inr kk.dst) = some q.1 := by
        refine dG_mem ?_ ?_
        · unfold enD
          rw [List.map_map, List.map_reverse]
          refine nodup_rev ?_
          have := nodup_map (f := fun s : Str => (Sum.inr s : Key)) (fun a b h => Sum.inr.inj h) hnd
          rw [List.map_map] at this
          exact this
        · unfold enD
          exact List.mem_map.mpr ⟨q, List.mem_reverse.mpr hq, by rw [hqn]⟩
      have hask : DAskO (oDK (fun a : Addr => vR a) (enD y)) (vIs (kV (.inr kk.dst))) (fun a : Addr => vR a) (some q.1) := by rw [← hdg]; exact .k
      have hshort : ((Ei i q.2).map (vEnt K)).length < sizeLine := by
        rw [List.length_map]
        show (q.2.own ++ viaL (l.lks.take i) q.2.name).length < sizeLine
        have h1 : q.2.own.length ≤ 1 := by unfold Stn.own; split <;> simp
        have h2 : (viaL (l.lks.take i) q.2.name).length ≤ 12 := by
          unfold viaL
          rw [List.length_map]
          have := List.length_filter_le (fun k => decide (k.dst = q.2.name)) (l.lks.take i)
          rw [List.length_take] at this
          omega
        rw [List.length_append]; omega
      refine s_app (P := vEnt K kk.ent) j hs hΩj hshort (eg_dgetO hr y.length hΩd hask (eg_var (i := 1) rfl rfl) (e_Link_target (y := kk) T hr (by omega) (eg_var (i := 3) rfl rfl))) (eg_tup (ag_cons (e_Link_stock (y := kk) T hr (by omega) (eg_var (i := 3) rfl rfl)) (ag_cons (e_Link_source (y := kk) T hr (by omega) (eg_var (i := 3) rfl rfl)) (ag_cons (eg_ifExp (P := vIn (b2n kk.early)) (tg_val (e_Link_early (y := kk) T hr (by omega) (eg_var (i := 3) rfl rfl))) (fun h => eg_int.cast (by rw [h]; rfl)) (fun h => eg_int.cast (by rw [h]; rfl))) ag_nil)))) fun H hs => wp_nil ⟨(), trivial, ?_⟩
      have e5 : (y.map (enL K (Ei i)) ++ [(fa, oDK (fun a : Addr => vR a) (enD y))]).set j (q.1, oL ((Ei i q.2).map (vEnt K) ++ [vEnt K kk.ent])) = y.map (enL K (Ei (i + 1))) ++ [(fa, oDK (fun a : Addr => vR a) (enD y))] := by
        rw [List.set_append_left _ _ (by rw [List.length_map]; exact hjl)]
        congr 1
        refine List.ext_getElem? fun m => ?_
        have tk : l.lks.take (i + 1) = l.lks.take i ++ [kk] := by rw [List.take_add_one, hx]; rfl
        by_cases hm : j = m
        · subst hm
          rw [List.getElem?_set_self (by rw [List.length_map]; exact hjl), List.getElem?_map, hj]
          show some _ = some (q.1, oL ((q.2.own ++ viaL (l.lks.take (i + 1)) q.2.name).map (vEnt K)))
          rw [tk, viaL_snoc, if_pos hqn.symm, ← List.append_assoc, List.map_append (l₁ := q.2.own ++ viaL (l.lks.take i) q.2.name)]
          rfl
        · rw [List.getElem?_set_ne hm, List.getElem?_map, List.getElem?_map]
          cases em : y[m]? with
          | none => rfl
          | some z =>
            have hne : ¬ kk.dst = z.2.name := fun e => by
              have h1 : (y.map fun q => q.2.name)[j]? = some kk.dst := by rw [List.getElem?_map, hj, ← hqn]; rfl
              have h2 : (y.map fun q => q.2.name)[m]? = some kk.dst := by rw [List.getElem?_map, em, e]; rfl
              exact hm ((List.getElem?_inj (lt_of_some h1) hnd).mp (h1.trans h2.symm))
            show some (z.1, oL ((z.2.own ++ viaL (l.lks.take i) z.2.name).map (vEnt K))) = some (z.1, oL ((z.2.own ++ viaL (l.lks.take (i + 1)) z.2.name).map (vEnt K)))
            rw [tk, viaL_snoc, if_neg hne, List.append_nil]
      rw [e5] at hs
      exact hs.drop 3
    · rintro _ _ σ H hs
      rw [show Ei l.lks.length = l.ents by funext s; show s.own ++ viaL (l.lks.take l.lks.length) s.name = _; rw [List.take_length]; rfl] at hs
      obtain ⟨G1, gg1, hl, hs⟩ := Sat.pubs (adr := fun q : Addr × Stn => q.1) (f := fun q => oL ((l.ents q.2).map (vEnt K))) (ys := y) hs
      have hs := Sat.toO (R' := oDK (vEs K) l.entD) 0 hs rfl (by
        rintro o G2 sm ⟨us, rfl, pd⟩
        refine ⟨us, rfl, ?_⟩
        have := pd_lists (K := K) (F := l.ents) (zs := y.reverse) (fun q hq => by
          obtain ⟨o, h1, vs, rfl, h2⟩ := hl q (List.mem_reverse.mp hq)
          exact ⟨q.1, vs, rfl, sm _ _ h1, PV.mono sm h2⟩) pd
        have e : l.entD = y.reverse.map fun q => ((Sum.inr q.2.name : Key), l.ents q.2) := by
          unfold Ln.entD
          have : l.sts = y.reverse.map (·.2) := by rw [List.map_reverse, hy, List.reverse_reverse]
          rw [this, List.map_map]; rfl
        rw [e]; exact this)
      obtain ⟨G2, o, gg2, h1, h2, _, hs⟩ := Sat.pubG 0 hs rfl
      have hs := Sat.toB (P' := vEnts K l) 1 hs rfl (by
        rintro v G3 sm e
        obtain ⟨us, rfl, pd⟩ := h2
        exact ⟨fa, us, e, sm _ _ h1, pd.mono sm⟩)
      exact s_ret hs (eg_var (i := 1) rfl rfl) fun v G' H' st q => k v G' H' ((gg1.trans gg2).step st) q
end
end Ow
namespace Ow
open PySem PySem.Spec PyProof.Rows L2 He
/-! ### the next row of a walk -/
/-- whether an entry holds, by a set of begun stations -/
def begunP (start : Str) (rows : List Row) (C : Str → Prop) (e : Ent) : Prop :=
  e.lag ≤ rows.length ∧ (if e.lag = 0 then (if e.place then C e.name else C e.name ∨ (rows = [] ∧ e.name = start)) else e.name ∈ side (rows.getD (rows.length - e.lag) ([], [])) e.place)
def Closed (l : Ln) (start : Str) (rows : List Row) (C : Str → Prop) : Prop := ∀ s ∈ l.sts, (∃ e ∈ l.ents s, begunP start rows C e) → C s.name
structure NextRow (l : Ln) (start : Str) (rows : List Row) (r : Row) : Prop where
  s1 : sortedS r.1 = true
  n1 : r.1.Nodup
  s2 : sortedS r.2 = true
  n2 : r.2.Nodup
  e : ∀ s, s ∈ r.1 ↔ s ∈ r.2 ∨ (rows = [] ∧ s = start)
  n : ∀ s ∈ r.2, s ∈ l.names
  cl : Closed l start rows (· ∈ r.2)
  mn : ∀ C, Closed l start rows C → ∀ s ∈ r.2, C s
theorem begun_iff {start : Str} {rows : List Row} {E B : List Str} (h : ∀ s, s ∈ E ↔ s ∈ B ∨ (rows = [] ∧ s = start)) (e : Ent) : begunE rows (E, B) e = true ↔ begunP start rows (· ∈ B) e := by
  unfold begunE begunP
  rw [Bool.and_eq_true, decide_eq_true_iff, decide_eq_true_iff]
  refine and_congr_right fun _ => ?_
  unfold rowAt side
  by_cases h0 : e.lag = 0
  · rw [if_pos h0, if_pos h0]
    cases e.place
    · exact h e.name
    · exact Iff.rfl
  · rw [if_neg h0, if_neg h0]
theorem begunP_mono {start : Str} {rows : List Row} {C C' : Str → Prop} (h : ∀ s, C s → C' s) {e : Ent} (hb : begunP start rows C e) : begunP start rows C' e := by
  refine ⟨hb.1, ?_⟩
  have h2 := hb.2
  by_cases h0 : e.lag = 0
  · rw [if_pos h0] at h2 ⊢
    cases hp : e.place
    · rw [hp] at h2
      exact h2.imp (h _) id
    · rw [hp] at h2
      exact h _ h2
  · rw [if_neg h0] at h2 ⊢; exact h2
def Ln.entN (l : Ln) (nm : Str) : List Ent := (dG l.entD (.inr nm)).getD []
theorem entD_get {l : Ln} (ok : LnOk l) {s : Stn} (hs : s ∈ l.sts) : dG l.entD (.inr s.name) = some (l.ents s) := by
  refine dG_mem ?_ (List.mem_map.mpr ⟨s, hs, rfl⟩)
  unfold Ln.entD
  rw [List.map_map]
  have := nodup_map (f := fun s : Str => (Sum.inr s : Key)) (fun a b h => Sum.inr.inj h) ok.nd
  unfold Ln.names at this
  rw [List.map_map] at this
  exact this
structure NrS where
  E : List Str
  B : List Str
  L : List Str
  ch : Bool
structure NrOk (l : Ln) (start : Str) (rows : List Row) (y : NrS) : Prop where
  nE : y.E.Nodup
  nB : y.B.Nodup
  nL : y.L.Nodup
  dj : ∀ s ∈ y.L, s ∉ y.B
  un : ∀ s, s ∈ l.names ↔ s ∈ y.L ∨ s ∈ y.B
  e : ∀ s, s ∈ y.E ↔ s ∈ y.B ∨ (rows = [] ∧ s = start)
  so : ∀ C, Closed l start rows C → ∀ s ∈ y.B, C s
  lE : y.E.length ≤ y.B.length + 1
  lB : y.B.length + y.L.length ≤ 4
  fin : y.ch = false → ∀ s ∈ y.L, (l.entN s).any (begunE rows (y.E, y.B)) = false
def NrS.fresh (l : Ln) (rows : List Row) (y : NrS) : List Str := y.L.filter fun s => (l.entN s).any (begunE rows (y.E, y.B))
def NrS.step (l : Ln) (rows : List Row) (y : NrS) : NrS := ⟨y.E ++ (y.fresh l rows).filter (fun s => !decide (s ∈ y.E)), y.B ++ y.fresh l rows, y.L.filter (fun s => !decide (s ∈ y.fresh l rows)), decide (0 < (y.fresh l rows).length)⟩
theorem filter_two {α : Type} (p : α → Bool) : ∀ l : List α, (l.filter p).length + (l.filter fun x => !p x).length = l.length
  | [] => rfl
  | x :: l => by
    have ih := filter_two p l
    cases h : p x <;> simp [h] <;> omega
theorem left_eq {l : Ln} {rows : List Row} {y : NrS} : y.L.filter (fun s => !decide (s ∈ y.fresh l rows)) = y.L.filter (fun s => !((l.entN s).any (begunE rows (y.E, y.B)))) := by
  refine List.filter_congr fun s hs => ?_
  congr 1
  unfold NrS.fresh
  rw [Bool.eq_iff_iff, decide_eq_true_iff, List.mem_filter]
  exact ⟨fun h => h.2, fun h => ⟨hs, h⟩⟩
def NrS.mu (y : NrS) : Nat := 2 * y.L.length + (if y.ch then 1 else 0)
theorem step_ok {l : Ln} (ok : LnOk l) {start : Str} {rows : List Row} {y : NrS} (h : NrOk l start rows y) (hc : y.ch = true) : NrOk l start rows (y.step l rows) ∧ (y.step l rows).mu < y.mu := by
  have two := filter_two (fun s => (l.entN s).any (begunE rows (y.E, y.B))) y.L
  have hF : ∀ s, s ∈ y.fresh l rows ↔ s ∈ y.L ∧ (l.entN s).any (begunE rows (y.E, y.B)) = true := fun s => List.mem_filter
  have hfl : (y.fresh l rows).length + (y.L.filter (fun s => !decide (s ∈ y.fresh l rows))).length = y.L.length := by rw [left_eq]; exact two
  refine ⟨⟨?_, ?_, ?_, ?_, ?_, ?_, ?_, ?_, ?_, ?_⟩, ?_⟩
  · show (y.E ++ _).Nodup
    rw [List.nodup_append]
    refine ⟨h.nE, List.Nodup.sublist (List.filter_sublist ..) (List.Nodup.sublist (List.filter_sublist ..) h.nL), fun a ha b hb e => ?_⟩
    subst e
    have := (List.mem_filter.mp hb).2
    simp at this
    exact this ha
  · show (y.B ++ _).Nodup
    rw [List.nodup_append]
    refine ⟨h.nB, List.Nodup.sublist (List.filter_sublist ..) h.nL, fun a ha b hb e => ?_⟩
    subst e
    exact h.dj a ((hF a).mp hb).1 ha
  · exact List.Nodup.sublist (List.filter_sublist ..) h.nL
  · intro s hs hB
    obtain ⟨h1, h2⟩ := List.mem_filter.mp hs
    simp at h2
    rcases List.mem_append.mp hB with hB | hB
    · exact h.dj s h1 hB
    · exact h2 hB
  · intro s
    rw [h.un]
    show _ ↔ s ∈ y.L.filter (fun s => !decide (s ∈ y.fresh l rows)) ∨ s ∈ y.B ++ y.fresh l rows
    rw [List.mem_filter, List.mem_append]
    constructor
    · rintro (hl | hb)
      · by_cases hf : s ∈ y.fresh l rows
        · exact .inr (.inr hf)
        · exact .inl ⟨hl, by simp [hf]⟩
      · exact .inr (.inl hb)
    · rintro (⟨hl, _⟩ | hb | hf)
      · exact .inl hl
      · exact .inr hb
      · exact .inl ((hF s).mp hf).1
  · intro s
    show s ∈ y.E ++ (y.fresh l rows).filter (fun s => !decide (s ∈ y.E)) ↔ s ∈ y.B ++ y.fresh l rows ∨ _
    rw [List.mem_append, List.mem_append, List.mem_filter]
    constructor
    · rintro (he | ⟨hf, _⟩)
      · rcases (h.e s).mp he with hb | hz
        · exact .inl (.inl hb)
        · exact .inr hz
      · exact .inl (.inr hf)
    · rintro ((hb | hf) | hz)
      · exact .inl ((h.e s).mpr (.inl hb))
      · by_cases he : s ∈ y.E
        · exact .inl he
        · exact .inr ⟨hf, by simp [he]⟩
      · exact .inl ((h.e s).mpr (.inr hz))
  · intro C hC s hs
    rcases List.mem_append.mp hs with hs | hs
    · exact h.so C hC s hs
    · obtain ⟨h1, h2⟩ := (hF s).mp hs
      obtain ⟨e, he, hb⟩ := List.any_eq_true.mp h2
      have hn := (h.un s).mpr (.inl h1)
      obtain ⟨st, hst, rfl⟩ := List.mem_map.mp hn
      have : l.entN st.name = l.ents st := by unfold Ln.entN; rw [entD_get ok hst]; rfl
      rw [this] at he
      exact hC st hst ⟨e, he, begunP_mono (h.so C hC) ((begun_iff h.e e).mp hb)⟩
  · show (y.E ++ _).length ≤ (y.B ++ y.fresh l rows).length + 1
    rw [List.length_append, List.length_append]
    have := List.length_filter_le (fun s => !decide (s ∈ y.E)) (y.fresh l rows)
    have := h.lE
    omega
  · show (y.B ++ y.fresh l rows).length + (y.L.filter _).length ≤ 4
    rw [List.length_append]
    have := h.lB
    omega
  · intro hch s hs
    have h0 : ¬ 0 < (y.fresh l rows).length := of_decide_eq_false hch
    have hnil : y.fresh l rows = [] := List.length_eq_zero_iff.mp (by omega)
    have hE : (y.step l rows).E = y.E := by show y.E ++ (y.fresh l rows).filter _ = _; rw [hnil]; simp
    have hB : (y.step l rows).B = y.B := by show y.B ++ y.fresh l rows = _; rw [hnil]; simp
    rw [hE, hB]
    have hsL : s ∈ y.L := (List.mem_filter.mp hs).1
    cases hb : (l.entN s).any (begunE rows (y.E, y.B)) with
    | false => rfl
    | true =>
      have : s ∈ y.fresh l rows := (hF s).mpr ⟨hsL, hb⟩
      rw [hnil] at this; cases this
  · unfold NrS.mu
    show 2 * (y.L.filter _).length + (if decide (0 < (y.fresh l rows).length) = true then 1 else 0) < 2 * y.L.length + (if y.ch = true then 1 else 0)
    rw [hc, if_pos rfl]
    by_cases h0 : 0 < (y.fresh l rows).length
    · rw [decide_eq_true h0, if_pos rfl]; omega
    · rw [decide_eq_false h0, if_neg Bool.false_ne_true]; omega
theorem surv_ex {α : Type} {φ : α → Prop} {F : α → VP} (h : ∀ x, Surv (F x)) : Surv (vEx φ F) := fun v G G' ⟨x, hx, q⟩ k => ⟨x, hx, h x v G G' q k⟩
theorem surv_strs {K : PySem.W.Frag} (xs : List Str) : Surv (vT K (xs.map vS)) := surv_T fun P hP => by
  obtain ⟨s, _, rfl⟩ := List.mem_map.mp hP
  exact surv_is
theorem pd_keys {β : Type} {F : β → VP} {G G' : Hp} : ∀ {d : List (Key × β)} {us : List (Key × V)}, PD F d us G → PV (d.map fun q => vIs (kV q.1)) (us.map fun kv => kV kv.1) G'
  | [], us, h => by cases h; exact .nil
  | q :: d, us, h => by
    cases h with
    | cons r t =>
      obtain ⟨e, _⟩ := r
      exact .cons (by show kV _ = kV _; rw [e]) (pd_keys t)
theorem ru_listD {K : PySem.W.Frag} {β : Type} {F : β → VP} {d : List (Key × β)} : RU (fun xs H Q => ∃ (a : Addr) (kvs : List (Key × V)), xs = [V.ref a] ∧ Rd H a (.dK kvs) ∧ ∀ p, H p = none → Q (.ref p) (upd H p (.lst (kvs.map fun kv => kV kv.1)))) [vDK F d] (vL (d.map fun q => vIs (kV q.1))) := fun vs G H Q sm q k => by
  cases q with
  | cons q t =>
    cases t
    obtain ⟨a, us, rfl, ha, pd⟩ := q
    refine ⟨a, us, rfl, .inl (sm _ _ ha), fun p hp => k _ _ _ (Step.new sm hp) ⟨p, _, rfl, upd_same, ?_⟩⟩
    exact pd_keys pd
theorem eg_listD {X : Cx} {Γ : Cn} {Ω : Om} {e : Expr} {pos p : Pos} {β : Type} {F : β → VP} {d : List (Key × β)} (hm : X.mg "list" = none) (he : EG X Γ Ω e (vDK F d)) (hg : Gl X "list" := by rfl) (hc : X.calm = true := by rfl) (h1 : starEach [e] X.env = (false, eval e X.env) :: starEach [] X.env := by rfl) (h3 : (backTo pos (starEach [] X.env)).any (·.1) = false := by rfl) : EG X Γ Ω (.Call (.Name "list" p) [e] [] pos) (vL (d.map fun q => vIs (kV q.1))) :=
  eg_callTy (call_listD hc) (ru_listD (K := X.K)) hg hm boot_list (ag_cons he ag_nil h1) (by decide) (by decide) h1 h3
section
variable {P : Program} {w : World} {K : PySem.W.Frag} {mg : Str → Option Value} {base : Heap}
structure NrY where
  l : Ln
  start : Str
  rows : List Row
theorem nr_done {l : Ln} (ok : LnOk l) {start : Str} {rows : List Row} {y : NrS} (h : NrOk l start rows y) (hc : y.ch = false) {E B : List Str} (hE : Srt y.E E) (hB : Srt y.B B) : NextRow l start rows (E, B) := by
  have mE : ∀ s, s ∈ E ↔ s ∈ y.E := fun s => hE.1.mem_iff
  have mB : ∀ s, s ∈ B ↔ s ∈ y.B := fun s => hB.1.mem_iff
  refine ⟨hE.2, hE.1.nodup_iff.mpr h.nE, hB.2, hB.1.nodup_iff.mpr h.nB, fun s => ?_, fun s hs => ?_, fun st hst ⟨e, he, hb⟩ => ?_, fun C hC s hs => h.so C hC s ((mB s).mp hs)⟩
  · show s ∈ E ↔ s ∈ B ∨ _
    rw [mE, mB]; exact h.e s
  · exact (h.un s).mpr (.inr ((mB s).mp hs))
  · show st.name ∈ B
    rw [mB]
    have hn : st.name ∈ l.names := List.mem_map_of_mem hst
    rcases (h.un st.name).mp hn with hL | hB'
    · exfalso
      have h1 := h.fin hc st.name hL
      have h2 : l.entN st.name = l.ents st := by unfold Ln.entN; rw [entD_get ok hst]; rfl
      rw [h2] at h1
      have h3 : begunE rows (y.E, y.B) e = true := (begun_iff h.e e).mpr (begunP_mono (fun s hs => (mB s).mp hs) hb)
      rw [List.any_eq_true.mpr ⟨e, he, h3⟩] at h1
      cases h1
    · exact hB'
theorem ents_len {l : Ln} (ok : LnOk l) (nm : Str) : (l.entN nm).length ≤ 30 := by
  unfold Ln.entN
  cases e : dG l.entD (.inr nm) with
  | none => exact Nat.zero_le _
  | some es =>
    unfold dG at e
    obtain ⟨q, hq, e2⟩ := Option.map_eq_some_iff.mp e
    have hm := List.mem_of_find?_eq_some hq
    obtain ⟨s, _, rfl⟩ := List.mem_map.mp hm
    have e3 : l.ents s = es := e2
    show es.length ≤ 30
    rw [← e3]
    unfold Ln.ents
    have h1 : s.own.length ≤ 1 := by unfold Stn.own; split <;> simp
    have h2 : (viaL l.lks s.name).length ≤ 12 := by
      unfold viaL
      rw [List.length_map]
      have := List.length_filter_le (fun k => decide (k.dst = s.name)) l.lks
      have := ok.fewL
      omega
    rw [List.length_append]; omega
theorem g_next_row (T : Txt K mg) : FG P w K mg base 2 "next_row" (fun y : NrY => LnOk y.l ∧ y.rows.length ≤ 100000) (fun y => [vEnts K y.l, vS y.start, vL (y.rows.map (vRow K))]) (fun y => vEx (NextRow y.l y.start y.rows) (vRow K)) := by
  refine (fo T.d_next_row sc_next_row (fun _ _ => rfl) (fun _ _ _ _ _ _ us hl => match us, hl with | [_, _, _], _ => rfl) ?_).fg T.g_next_row
  rintro cdv Ar outer s0 H0 E ⟨l, start, rows⟩ G Q σ hr ⟨ok, hrows⟩ hs k
  replace ok : LnOk l := ok
  replace hrows : rows.length ≤ 100000 := hrows
  have few := ok.few
  let E0 : List Str := if rows.length = 0 then [start] else []
  refine s_asgNN (R1 := oL (E0.map vS)) hs (ng_ifExp (t := decide ((((rows.map (vRow K)).length : Nat) : Int) = 0)) (tEqI (eg_lenL T.f_len (eg_var (i := 2) rfl rfl)) eg_int) (fun h => ?_) (fun h => ?_)) (fun a => ng_lst ag_nil) (fun a b => gt_tup (gts_cons (gt_name 3 sc_next_row.nd) (gts_cons (gt_name 4 sc_next_row.nd) gts_nil))) (fun ea ba σ H hs => ?_)
  · have h' := of_decide_eq_true h
    rw [List.length_map] at h'
    have : E0 = [start] := if_pos (by omega)
    rw [this]
    exact ng_lst (ag_cons (eg_var (i := 1) rfl rfl) ag_nil)
  · have h' := of_decide_eq_false h
    rw [List.length_map] at h'
    have : E0 = [] := if_neg (by omega)
    rw [this]
    exact ng_lst ag_nil
  refine s_set hs 5 ((eg_listD (F := vEs K) (d := l.entD) T.f_list (eg_var (P := vEnts K l) (i := 0) rfl rfl)).cast (P' := vL (l.names.map vS)) ?_) (fun σ H hs => ?_) sc_next_row.nd
  · congr 1
    unfold Ln.entD Ln.names
    rw [List.map_map, List.map_map]; rfl
  refine s_set hs 6 (eg_bl (b := true)) (fun σ H hs => ?_) sc_next_row.nd
  refine s_while (γ := NrS) (fun y => [some (vEnts K l), some (vS start), some (vL (rows.map (vRow K))), some (vR ea), some (vR ba), some (vL (y.L.map vS)), some (vB y.ch), none, none]) (fun y => [(ba, oL (y.B.map vS)), (ea, oL (y.E.map vS))]) (NrOk l start rows) NrS.mu NrS.ch ⟨⟨E0, [], l.names, true⟩, ⟨?_, .nil, ok.nd, fun s _ h => (by cases h), fun s => by simp, fun s => ?_, fun C _ s h => (by cases h), ?_, ?_, fun h => by cases h⟩, hs⟩ ?_ ?_ ?_
  · show E0.Nodup
    unfold E0
    by_cases h : rows.length = 0
    · rw [if_pos h]; simp
    · rw [if_neg h]; exact .nil
  · show s ∈ E0 ↔ s ∈ [] ∨ _
    unfold E0
    by_cases h : rows.length = 0
    · rw [if_pos h]
      have : rows = [] := List.length_eq_zero_iff.mp h
      simp [this]
    · rw [if_neg h]
      have : rows ≠ [] := fun z => h (by rw [z]; rfl)
      simp [this]
  · show E0.length ≤ 0 + 1
    unfold E0
    by_cases h : rows.length = 0
    · rw [if_pos h]; simp
    · rw [if_neg h]; simp
  · show 0 + l.names.length ≤ 4
    unfold Ln.names; rw [List.length_map]; omega
  · intro y hy
    exact tg_val (eg_var (i := 6) rfl rfl)
  · intro y hy hch σ H hs
    obtain ⟨hok, hmu⟩ := step_ok ok hy hch
    have hlB := hy.lB
    have hlE := hy.lE
    have hFl : (y.fresh l rows).length ≤ y.L.length := List.length_filter_le _ _
    have h30 := small30
    refine s_set hs 7 (eg_lc n_next_row (defScope s_next_row) [("name", 8)] (t := fun s => (l.entN s).any (begunE rows (y.E, y.B))) (R := vS) (fun s => [some (vEnts K l), some (vS start), some (vL (rows.map (vRow K))), some (vR ea), some (vR ba), some (vL (y.L.map vS)), some (vB y.ch), none, some (vS s)]) [8] (ig_list (xs := y.L) (F := vS) (eg_var (i := 5) rfl rfl)) (by omega)
      (fun _ _ _ _ _ s _ => gt_name 8 sc_next_row.nd) (fun _ _ _ _ _ s hsL => pts_if ?_) (fun _ _ _ _ _ s _ _ => eg_var (i := 8) rfl rfl) sc_next_row.nd) (fun σ H hs => ?_) sc_next_row.nd
    · have hn := (hy.un s).mpr (.inl hsL)
      obtain ⟨st, hst, e⟩ := List.mem_map.mp hn
      have hd : DAsk (vEnts K l) (vIs (kV (.inr s))) (vEs K) (some (l.entN s)) := by
        have h1 := entD_get ok hst
        rw [e] at h1
        have h2 : l.entN s = l.ents st := by unfold Ln.entN; rw [h1]; rfl
        rw [h2, ← h1]
        exact .k
      exact tg_borrow [some (vEnts K l), some (vS start), some (vL (rows.map (vRow K))), some (vL (y.E.map vS)), some (vL (y.B.map vS)), some (vL (y.L.map vS)), some (vB y.ch), none, some (vS s)] (BC.ok (.same (.same (.same (bc_list (List.mem_cons_of_mem _ List.mem_cons_self) (bc_list List.mem_cons_self (.same (.same (.same (.same .nil)))))))))) (mut_L (mut_L mut_nil))
        (tg_val (eg_call (g_is_begun T) hr (by omega) ⟨l.entN s, rows, (y.E, y.B)⟩ ⟨ents_len ok s, hrows⟩ (ag_cons ((eg_dget (F := vEs K) (x := l.entN s) hr hd (eg_var (i := 0) rfl rfl) (eg_var (i := 8) rfl rfl)).to fun v G q => q) (ag_cons (eg_var (i := 2) rfl rfl) (ag_cons (eg_tup (ag_cons (eg_var (i := 3) rfl rfl) (ag_cons (eg_var (i := 4) rfl rfl) ag_nil))) ag_nil)))))
    have hs : Sat G H0 [some (vEnts K l), some (vS start), some (vL (rows.map (vRow K))), some (vR ea), some (vR ba), some (vL (y.L.map vS)), some (vB y.ch), some (vL ((y.fresh l rows).map vS)), none] [(ba, oL (y.B.map vS)), (ea, oL (y.E.map vS))] σ H := hs
    refine s_ext hs 4 0 rfl rfl (eg_var (i := 7) rfl rfl) (by rw [List.length_map, List.length_map]; omega) (fun σ H hs => ?_) sc_next_row.nd
    refine s_ext (Qs := ((y.fresh l rows).filter (fun s => !decide (s ∈ y.E))).map vS) hs 3 1 rfl rfl ((eg_lc n_next_row (defScope s_next_row) [("name", 8)] (t := fun s => !decide (s ∈ y.E)) (R := vS) (fun s => [some (vEnts K l), some (vS start), some (vL (rows.map (vRow K))), some (vR ea), some (vR ba), some (vL (y.L.map vS)), some (vB y.ch), some (vL ((y.fresh l rows).map vS)), some (vS s)]) [8] (ig_list (xs := y.fresh l rows) (F := vS) (eg_var (i := 7) rfl rfl)) (by omega)
      (fun _ _ _ _ _ s _ => gt_name 8 sc_next_row.nd) (fun _ _ _ _ _ s hsL => pts_if ?_) (fun _ _ _ _ _ s _ _ => eg_var (i := 8) rfl rfl) sc_next_row.nd)) (by
        rw [List.length_map, List.length_map]
        have := List.length_filter_le (fun s => !decide (s ∈ y.E)) (y.fresh l rows)
        omega) (fun σ H hs => ?_) sc_next_row.nd
    · exact tg_borrow [some (vEnts K l), some (vS start), some (vL (rows.map (vRow K))), some (vL (y.E.map vS)), none, some (vL (y.L.map vS)), some (vB y.ch), some (vL ((y.fresh l rows).map vS)), some (vS s)] (BC.ok (.same (.same (.same (bc_list (List.mem_cons_of_mem _ List.mem_cons_self) (.off (.same (.same (.same (.same .nil)))))))))) (mut_L (mut_L mut_nil))
        ((tNotInS (eg_var (i := 8) rfl rfl) (eg_var (i := 3) rfl rfl)).cast (by rw [inS_iff]))
    refine s_setLc (α := Str) n_next_row (defScope s_next_row) [("name", 8)] (t := fun s => !decide (s ∈ y.fresh l rows)) (R := vS) (fun s => [some (vEnts K l), some (vS start), some (vL (rows.map (vRow K))), some (vR ea), some (vR ba), some (vL (y.L.map vS)), some (vB y.ch), some (vL ((y.fresh l rows).map vS)), some (vS s)]) [8] hs 5 (ig_list (xs := y.L) (F := vS) (eg_var (i := 5) rfl rfl)) (by omega)
      (fun _ _ _ _ _ s _ => gt_name 8 sc_next_row.nd) (fun _ _ _ _ _ s hsL => pts_if ((tNotInS (eg_var (i := 8) rfl rfl) (eg_var (i := 7) rfl rfl)).cast (by rw [inS_iff]))) (fun _ _ _ _ _ s _ _ => eg_var (i := 8) rfl rfl) (fun σ H hs => ?_) sc_next_row.nd
    refine s_set hs 6 ((eGt (eg_lenL T.f_len (eg_var (i := 7) rfl rfl)) eg_int).cast (P' := vB (y.step l rows).ch) ?_) (fun σ H hs => wp_nil ⟨y.step l rows, hok, hmu, ?_⟩) sc_next_row.nd
    · show vB (decide ((0 : Int) < (((y.fresh l rows).map vS).length : Nat))) = vB (decide (0 < (y.fresh l rows).length))
      rw [List.length_map]
      congr 1
      rw [Bool.eq_iff_iff, decide_eq_true_iff, decide_eq_true_iff]
      omega
    · have e1 : (y.step l rows).B.map vS = y.B.map vS ++ (y.fresh l rows).map vS := by show (y.B ++ y.fresh l rows).map vS = _; rw [List.map_append]
      have e2 : (y.step l rows).E.map vS = y.E.map vS ++ ((y.fresh l rows).filter (fun s => !decide (s ∈ y.E))).map vS := by show (y.E ++ _).map vS = _; rw [List.map_append]
      rw [e1, e2]
      exact hs.drop 7
  · intro y hy hch σ H hs
    have hlB := hy.lB
    have hlE := hy.lE
    refine s_ret hs ((eg_borrow (P := vT K [vEx (Srt y.E) (fun ys => vT K (ys.map vS)), vEx (Srt y.B) (fun ys => vT K (ys.map vS))]) [some (vEnts K l), some (vS start), some (vL (rows.map (vRow K))), some (vL (y.E.map vS)), some (vL (y.B.map vS)), some (vL (y.L.map vS)), some (vB y.ch), none, none] (BC.ok (.same (.same (.same (bc_list (List.mem_cons_of_mem _ List.mem_cons_self) (bc_list List.mem_cons_self (.same (.same (.same (.same .nil)))))))))) (mut_L (mut_L mut_nil)) (surv_T fun P hP => ?_)
      (eg_tup (ag_cons (eg_tupleE T.f_tuple (eg_sortS (by omega) T.f_sorted (eg_var (i := 3) rfl rfl))) (ag_cons (eg_tupleE T.f_tuple (eg_sortS (by omega) T.f_sorted (eg_var (i := 4) rfl rfl))) ag_nil)))).to (P' := vEx (NextRow l start rows) (vRow K)) fun v G q => ?_) k
    · simp only [List.mem_cons, List.not_mem_nil, or_false] at hP
      rcases hP with rfl | rfl <;> exact surv_ex fun ys => surv_strs ys
    · obtain ⟨a, vs, e, ha, q⟩ := q
      cases q with
      | cons q1 q =>
        cases q with
        | cons q2 q =>
          cases q
          obtain ⟨E1, hE1, p1⟩ := q1
          obtain ⟨B1, hB1, p2⟩ := q2
          exact ⟨(E1, B1), nr_done ok hy hch hE1 hB1, a, _, e, ha, .cons p1 (.cons p2 .nil)⟩
end
end Ow
namespace Ow
open PySem PySem.Spec PyProof.Rows L2 He
/-! ### walks -/
def RowsOk (l : Ln) (start : Str) (rows : List Row) : Prop := ∀ i r, rows[i]? = some r → NextRow l start (rows.take i) r
def win (wd : Nat) (rows : List Row) (m : Nat) : List Row := (rows.drop m).take wd
def rowCode (l : Ln) (r : Row) : List Bool := l.names.map fun s => decide (s ∈ r.2)
theorem row_code {l : Ln} {st : Str} {rs rs' : List Row} {r r' : Row} (h : NextRow l st rs r) (h' : NextRow l st rs' r') (n : rs ≠ []) (n' : rs' ≠ []) (e : rowCode l r = rowCode l r') : r = r' := by
  have m2 : ∀ s, s ∈ r.2 ↔ s ∈ r'.2 := fun s => by
    have key : ∀ s ∈ l.names, decide (s ∈ r.2) = decide (s ∈ r'.2) := fun s hs => by
      obtain ⟨i, hi⟩ := List.mem_iff_getElem?.mp hs
      have e1 : (rowCode l r)[i]? = some (decide (s ∈ r.2)) := by unfold rowCode; rw [List.getElem?_map, hi]; rfl
      have e2 : (rowCode l r')[i]? = some (decide (s ∈ r'.2)) := by unfold rowCode; rw [List.getElem?_map, hi]; rfl
      rw [e, e2] at e1
      exact (Option.some.inj e1).symm
    constructor
    · intro hs
      have := key s (h.n s hs)
      rw [decide_eq_true hs] at this
      exact of_decide_eq_true this.symm
    · intro hs
      have := key s (h'.n s hs)
      rw [decide_eq_true hs] at this
      exact of_decide_eq_true this
  have m1 : ∀ s, s ∈ r.1 ↔ s ∈ r'.1 := fun s => by
    rw [h.e, h'.e, m2]
    simp [n, n']
  have e2 := sorted_one (sorted_pw h.s2) (sorted_pw h'.s2) h.n2 h'.n2 m2
  have e1 := sorted_one (sorted_pw h.s1) (sorted_pw h'.s1) h.n1 h'.n1 m1
  exact Prod.ext e1 e2
theorem flat_inj {α : Type} {n : Nat} : ∀ {as bs : List (List α)}, (∀ a ∈ as, a.length = n) → (∀ b ∈ bs, b.length = n) → as.length = bs.length → as.flatten = bs.flatten → as = bs
  | [], [], _, _, _, _ => rfl
  | [], _ :: _, _, _, h, _ => by cases h
  | _ :: _, [], _, _, h, _ => by cases h
  | a :: as, b :: bs, ha, hb, h, e => by
    rw [List.flatten_cons, List.flatten_cons] at e
    obtain ⟨e1, e2⟩ := List.append_inj e ((ha a List.mem_cons_self).trans (hb b List.mem_cons_self).symm)
    rw [e1, flat_inj (fun x hx => ha x (List.mem_cons_of_mem _ hx)) (fun x hx => hb x (List.mem_cons_of_mem _ hx)) (by simpa using h) e2]
theorem win_len {wd m : Nat} {rows : List Row} (h : m + wd ≤ rows.length) : (win wd rows m).length = wd := by
  unfold win; rw [List.length_take, List.length_drop]; omega
theorem win_get {wd m i : Nat} {rows : List Row} (h : i < wd) : (win wd rows m)[i]? = rows[m + i]? := by
  unfold win; rw [List.getElem?_take_of_lt h, List.getElem?_drop]
/-- windows that are not the first are few -/
theorem win_few {l : Ln} {st : Str} {rows : List Row} {wd c : Nat} (hr : RowsOk l st rows) (hc : c + wd ≤ rows.length) (nd : ((List.range c).map fun m => win wd rows (m + 1)).Nodup) : c ≤ 2 ^ (l.names.length * wd) := by
  let code : Nat → List Bool := fun m => ((win wd rows (m + 1)).map (rowCode l)).flatten
  have hnd : ((List.range c).map code).Nodup := by
    have inj : ∀ i j, i < c → j < c → code i = code j → win wd rows (i + 1) = win wd rows (j + 1) := fun i j hi hj e => by
      have li := win_len (wd := wd) (m := i + 1) (rows := rows) (by omega)
      have lj := win_len (wd := wd) (m := j + 1) (rows := rows) (by omega)
      have e1 := flat_inj (n := l.names.length) (fun a ha => by obtain ⟨r, _, rfl⟩ := List.mem_map.mp ha; unfold rowCode; rw [List.length_map]) (fun a ha => by obtain ⟨r, _, rfl⟩ := List.mem_map.mp ha; unfold rowCode; rw [List.length_map]) (by rw [List.length_map, List.length_map, li, lj]) e
      refine List.ext_getElem? fun t => ?_
      by_cases ht : t < wd
      · have g := congrArg (fun z => z[t]?) e1
        simp only [List.getElem?_map] at g
        rw [win_get ht, win_get ht] at g ⊢
        have h1 : i + 1 + t < rows.length := by omega
        have h2 : j + 1 + t < rows.length := by omega
        rw [List.getElem?_eq_getElem h1, List.getElem?_eq_getElem h2] at g ⊢
        have g' : rowCode l rows[i + 1 + t] = rowCode l rows[j + 1 + t] := Option.some.inj g
        congr 1
        refine row_code (hr _ _ (List.getElem?_eq_getElem h1)) (hr _ _ (List.getElem?_eq_getElem h2)) (fun z => ?_) (fun z => ?_) g'
        · have := congrArg List.length z
          rw [List.length_take, List.length_nil] at this; omega
        · have := congrArg List.length z
          rw [List.length_take, List.length_nil] at this; omega
      · rw [List.getElem?_eq_none (by omega), List.getElem?_eq_none (by omega)]
    unfold List.Nodup at nd ⊢
    rw [List.pairwise_map] at nd ⊢
    refine List.Pairwise.imp_of_mem (fun {a b} ha hb h e => h (inj a b (List.mem_range.mp ha) (List.mem_range.mp hb) e)) nd
  have := nodup_len hnd (m := allBits (l.names.length * wd)) fun x hx => by
    obtain ⟨m, hm, rfl⟩ := List.mem_map.mp hx
    refine mem_allBits ?_
    have hm' := List.mem_range.mp hm
    have lm := win_len (wd := wd) (m := m + 1) (rows := rows) (by omega)
    have all : ∀ zs : List Row, ((zs.map (rowCode l)).flatten).length = l.names.length * zs.length := fun zs => by
      induction zs with
      | nil => simp
      | cons z zs ih =>
        rw [List.map_cons, List.flatten_cons, List.length_append, ih, List.length_cons, Nat.mul_succ]
        have : (rowCode l z).length = l.names.length := by unfold rowCode; rw [List.length_map]
        omega
    show ((win wd rows (m + 1)).map (rowCode l)).flatten.length = _
    rw [all, lm]
  rw [List.length_map, List.length_range, allBits_len] at this
  exact this
def rowKey (r : Row) : NestedKey := .tup [.tup (r.1.map .text), .tup (r.2.map .text)]
def nk (w : List Row) : NestedKey := .tup (w.map rowKey)
theorem datas_map {α : Type} (f : α → NestedKey) : ∀ xs : List α, NestedKey.datas (xs.map f) = xs.map fun x => (f x).data
  | [] => rfl
  | x :: xs => by
    show (f x).data :: NestedKey.datas (xs.map f) = _
    rw [datas_map f xs]; rfl
theorem text_inj : ∀ {a b : List Str}, a.map NestedKey.text = b.map NestedKey.text → a = b
  | [], [], _ => rfl
  | [], _ :: _, h => by cases h
  | _ :: _, [], h => by cases h
  | x :: a, y :: b, h => by
    rw [List.map_cons, List.map_cons] at h
    injection h with h1 h2
    injection h1 with h1
    rw [h1, text_inj h2]
theorem key_inj {r r' : Row} (h : rowKey r = rowKey r') : r = r' := by
  unfold rowKey at h
  injection h with h
  injection h with h1 h
  injection h with h2 h
  injection h1 with h1
  injection h2 with h2
  exact Prod.ext (text_inj h1) (text_inj h2)
theorem nk_inj : ∀ {a b : List Row}, nk a = nk b → a = b := fun {a b} h => by
  unfold nk at h
  injection h with h
  induction a generalizing b with
  | nil => cases b with
    | nil => rfl
    | cons y b => cases h
  | cons x a ih => cases b with
    | nil => cases h
    | cons y b =>
      rw [List.map_cons, List.map_cons] at h
      injection h with h1 h2
      rw [key_inj h1, ih h2]
theorem depth_text : ∀ xs : List Str, NestedKey.depthAll (xs.map .text) = 0
  | [] => rfl
  | x :: xs => by
    show max (NestedKey.depth (.text x)) (NestedKey.depthAll (xs.map .text)) = 0
    rw [depth_text xs]; rfl
theorem depth_nk : ∀ w : List Row, (nk w).depth ≤ 8 := fun w => by
  have h1 : ∀ r, (rowKey r).depth ≤ 2 := fun r => by
    show NestedKey.depthAll [.tup (r.1.map .text), .tup (r.2.map .text)] + 1 ≤ 2
    show max (NestedKey.depthAll (r.1.map .text) + 1) (max (NestedKey.depthAll (r.2.map .text) + 1) 0) + 1 ≤ 2
    rw [depth_text, depth_text]; decide
  have h2 : ∀ w : List Row, NestedKey.depthAll (w.map rowKey) ≤ 2 := fun w => by
    induction w with
    | nil => exact Nat.zero_le _
    | cons r w ih =>
      show max (rowKey r).depth (NestedKey.depthAll (w.map rowKey)) ≤ 2
      have := h1 r
      omega
  show NestedKey.depthAll (w.map rowKey) + 1 ≤ 8
  have := h2 w
  omega
section
variable {K : PySem.W.Frag}
theorem dat_row {r : Row} : Dat K (vRow K r) (rowKey r).data := by
  have e : (rowKey r).data = .tuple [.tuple (r.1.map .str), .tuple (r.2.map .str)] := by
    show PyData.tuple [.tuple (NestedKey.datas (r.1.map .text)), .tuple (NestedKey.datas (r.2.map .text))] = _
    rw [datas_map, datas_map]; rfl
  rw [e]
  exact dat_T (.cons (dat_T (dat_map (fun _ => dat_S) r.1)) (.cons (dat_T (dat_map (fun _ => dat_S) r.2)) .nil))
theorem dat_win {w : List Row} : Dat K (vT K (w.map (vRow K))) (nk w).data := by
  have e : (nk w).data = .tuple (w.map fun r => (rowKey r).data) := by
    show PyData.tuple (NestedKey.datas (w.map rowKey)) = _
    rw [datas_map]
  rw [e]
  exact dat_T (dat_map (fun _ => dat_row) w)
end
end Ow
namespace Ow
open PySem PySem.Spec PyProof.Rows L2 He
/-! ### Walk.__init__ -/
structure WalkY where
  l : Ln
  start : Str
structure WalkZ where
  rows : List Row
  b : Nat
  e : Nat
structure WalkOk (y : WalkY) : Prop where
  ok : LnOk y.l
  w4 : y.l.width ≤ 4
/-- how many rows there can be -/
def lim (l : Ln) : Nat := 2 ^ (3 * l.width) + l.width
theorem lim_le {l : Ln} (h : l.width ≤ 4) : lim l ≤ 4100 := by
  unfold lim
  have : 2 ^ (3 * l.width) ≤ 2 ^ 12 := Nat.pow_le_pow_right (by decide) (by omega)
  omega
structure WalkIs (y : WalkY) (z : WalkZ) : Prop where
  rows : RowsOk y.l y.start z.rows
  lt : z.b < z.e
  len : z.e + y.l.width = z.rows.length
  eq : win y.l.width z.rows z.b = win y.l.width z.rows z.e
  bd : z.e + y.l.width ≤ lim y.l + 1
def walkF (K : PySem.W.Frag) (z : WalkZ) : List (Str × VP) := [("rows", vL (z.rows.map (vRow K))), ("begin_row", vIn z.b), ("end_row", vIn z.e)]
def vWalk (K : PySem.W.Frag) (z : WalkZ) : VP := vO (ga K "Walk") (walkF K z)
structure WkS where
  rows : List Row
  b : Nat
  e : Nat
  d : List (NestedKey × Nat)
def wdD (wd : Nat) (rows : List Row) : List (NestedKey × Nat) := (List.range (rows.length + 1 - wd)).map fun m => (nk (win wd rows m), m)
structure WkOk (y : WalkY) (s : WkS) : Prop where
  rows : RowsOk y.l y.start s.rows
  bd : s.rows.length ≤ lim y.l + 1
  go : s.e = 0 → s.b = 0 ∧ s.d = wdD y.l.width s.rows ∧ ((List.range (s.rows.length + 1 - y.l.width)).map fun m => win y.l.width s.rows m).Nodup
  fin : s.e ≠ 0 → s.b < s.e ∧ s.e + y.l.width = s.rows.length ∧ win y.l.width s.rows s.b = win y.l.width s.rows s.e
def WkS.mu (s : WkS) : Nat := if s.e = 0 then 5000 - s.rows.length else 0
theorem win_app {wd m : Nat} {rows : List Row} {r : Row} (h : m + wd ≤ rows.length) : win wd (rows ++ [r]) m = win wd rows m := by
  unfold win
  rw [List.drop_append_of_le_length (by omega), List.take_append_of_le_length (by rw [List.length_drop]; omega)]
theorem rows_snoc {l : Ln} {st : Str} {rows : List Row} {r : Row} (h : RowsOk l st rows) (hr : NextRow l st rows r) : RowsOk l st (rows ++ [r]) := fun i q hq => by
  by_cases hi : i < rows.length
  · rw [List.getElem?_append_left hi] at hq
    rw [List.take_append_of_le_length (by omega)]
    exact h i q hq
  · have hl := lt_of_some hq
    rw [List.length_append] at hl
    have e : i = rows.length := by
      have : [r].length = 1 := rfl
      omega
    subst e
    rw [List.getElem?_append_right (Nat.le_refl _)] at hq
    simp at hq
    subst hq
    rw [List.take_append_of_le_length (Nat.le_refl _), List.take_length]
    exact hr
theorem width_pos (l : Ln) : 1 ≤ l.width := (foldl_max l.sizes 1).2.1
/-- d behind one more row -/
theorem wd_snoc {wd : Nat} {rows : List Row} {r : Row} : wdD wd (rows ++ [r]) = wdD wd rows ++ (if wd ≤ rows.length + 1 then [(nk (win wd (rows ++ [r]) (rows.length + 1 - wd)), rows.length + 1 - wd)] else []) := by
  unfold wdD
  have e : (rows ++ [r]).length = rows.length + 1 := by rw [List.length_append]; rfl
  rw [e]
  by_cases h : wd ≤ rows.length + 1
  · rw [if_pos h, show rows.length + 1 + 1 - wd = (rows.length + 1 - wd) + 1 by omega, List.range_succ, List.map_append]
    congr 1
    refine List.map_congr_left fun m hm => ?_
    have := List.mem_range.mp hm
    rw [win_app (by omega)]
  · rw [if_neg h, show rows.length + 1 + 1 - wd = 0 by omega, show rows.length + 1 - wd = 0 by omega]; rfl
theorem nd_snoc {wd : Nat} {rows : List Row} {r : Row} (nd : ((List.range (rows.length + 1 - wd)).map fun m => win wd rows m).Nodup) (hw : 1 ≤ wd) (hnew : ∀ m, m < rows.length + 1 - wd → win wd rows m ≠ win wd (rows ++ [r]) (rows.length + 1 - wd)) : ((List.range ((rows ++ [r]).length + 1 - wd)).map fun m => win wd (rows ++ [r]) m).Nodup := by
  have e : (rows ++ [r]).length = rows.length + 1 := by rw [List.length_append]; rfl
  rw [e]
  have same : (List.range (rows.length + 1 - wd)).map (fun m => win wd (rows ++ [r]) m) = (List.range (rows.length + 1 - wd)).map fun m => win wd rows m := by
    refine List.map_congr_left fun m hm => ?_
    have := List.mem_range.mp hm
    rw [win_app (by omega)]
  by_cases h : wd ≤ rows.length + 1
  · rw [show rows.length + 1 + 1 - wd = (rows.length + 1 - wd) + 1 by omega, List.range_succ, List.map_append, same, List.nodup_append]
    refine ⟨nd, by simp, fun a ha b hb e => ?_⟩
    obtain ⟨m, hm, rfl⟩ := List.mem_map.mp ha
    rw [List.map_cons, List.map_nil, List.mem_singleton] at hb
    exact hnew m (List.mem_range.mp hm) (e.trans hb)
  · rw [show rows.length + 1 + 1 - wd = 0 by omega]; exact .nil
theorem nd_bound {y : WalkY} (w : WalkOk y) {rows : List Row} (hr : RowsOk y.l y.start rows) (nd : ((List.range (rows.length + 1 - y.l.width)).map fun m => win y.l.width rows m).Nodup) : rows.length ≤ lim y.l := by
  unfold lim
  by_cases h : rows.length ≤ y.l.width
  · exact Nat.le_trans h (Nat.le_add_left _ _)
  · have e : (List.range (rows.length + 1 - y.l.width)).map (fun m => win y.l.width rows m) = win y.l.width rows 0 :: (List.range (rows.length - y.l.width)).map fun m => win y.l.width rows (m + 1) := by
      rw [show rows.length + 1 - y.l.width = (rows.length - y.l.width) + 1 by omega, List.range_succ_eq_map, List.map_cons, List.map_map]; rfl
    rw [e, List.nodup_cons] at nd
    have := win_few hr (c := rows.length - y.l.width) (by omega) nd.2
    have n3 : y.l.names.length ≤ 3 := by unfold Ln.names; rw [List.length_map]; exact w.ok.few
    have p : 2 ^ (y.l.names.length * y.l.width) ≤ 2 ^ (3 * y.l.width) := Nat.pow_le_pow_right (by decide) (Nat.mul_le_mul_right _ n3)
    omega
theorem dG_wd {wd : Nat} {rows : List Row} {key : List Row} : (∀ n, dG (wdD wd rows) (nk key) = some n → n < rows.length + 1 - wd ∧ win wd rows n = key) ∧ (dG (wdD wd rows) (nk key) = none → ∀ m, m < rows.length + 1 - wd → win wd rows m ≠ key) := by
  constructor
  · intro n h
    unfold dG at h
    obtain ⟨q, hq, e⟩ := Option.map_eq_some_iff.mp h
    have hm := List.mem_of_find?_eq_some hq
    have hk := List.find?_some hq
    obtain ⟨m, hm2, rfl⟩ := List.mem_map.mp hm
    have e2 : m = n := e
    subst e2
    exact ⟨List.mem_range.mp hm2, nk_inj (of_decide_eq_true hk)⟩
  · intro h m hm e
    unfold dG at h
    have := Option.map_eq_none_iff.mp h
    rw [List.find?_eq_none] at this
    exact this _ (List.mem_map.mpr ⟨m, List.mem_range.mpr hm, rfl⟩) (decide_eq_true (by rw [e]))
section
variable {P : Program} {w : World} {K : PySem.W.Frag} {mg : Str → Option Value} {base : Heap}
theorem i_Walk (T : Txt K mg) : FIE P w K mg base 5 (ga K "Walk") "Walk" WalkOk (fun y => [vLn K y.l, vS y.start]) WalkIs (walkF K) := by
  obtain ⟨fd, F⟩ := T.d_Walk_init
  refine ⟨_, fd, p_Walk_init, fn_pie F sc_Walk_init (fun _ _ => rfl) ?_, T.g_Walk, T.mk_Walk, F.bindsN fun _ _ _ _ _ _ us hl => match us, hl with | [_, _, _], _ => rfl⟩
  rintro cdv Ar outer s0 H0 H E ⟨l, start⟩ G D σ sa dx hr ⟨ok, w4⟩ hs k rt
  replace ok : LnOk l := ok
  replace w4 : l.width ≤ 4 := w4
  have wok : WalkOk ⟨l, start⟩ := ⟨ok, w4⟩
  have w1 := width_pos l
  have hz := sizeBig
  let I : WkS → OP := fun y => oI (ga K "Walk") dx [("rows", vN), ("begin_row", vIn y.b), ("end_row", vIn y.e)]
  refine s_par (i := 3) (j := 4) hs (ag_cons (eg_call (g_width_of T) hr (by omega) l ok (ag_cons (eg_var (i := 1) rfl rfl) ag_nil)) (ag_cons (eg_call (g_entries_of T) hr (by omega) l ok (ag_cons (eg_var (i := 1) rfl rfl) ag_nil)) ag_nil)) (fun σ H hs => ?_) sc_Walk_init.nd rfl rfl
  refine s_fldN (C := ga K "Walk") (dx := dx) (fs := []) hs 0 rfl (ng_lst ag_nil) (fun b => eg_var (i := 0) rfl rfl) T.c_Walk T.na_Walk_rows (by show 0 < 1000; decide) fun ra H hs => ?_
  refine s_asgT hs (eg_tup (ag_cons eg_int (ag_cons eg_int ag_nil))) (gtm_tup (gtms_cons (gtm_fld (C := ga K "Walk") (dx := dx) (fs := [("rows", vR ra)]) 1 rfl (eg_var (i := 0) rfl rfl) T.c_Walk T.na_Walk_begin_row (by show 1 < 1000; decide)) (gtms_cons (gtm_fld (C := ga K "Walk") (dx := dx) (fs := [("rows", vR ra), ("begin_row", vI 0)]) 1 rfl (eg_var (i := 0) rfl rfl) T.c_Walk T.na_Walk_end_row (by show 2 < 1000; decide)) gtms_nil))) fun σ H hs => ?_
  refine s_newW hs 5 (fun wa σ H hs => ?_) sc_Walk_init.nd
  let X0 := bodyX P w K mg base n_Walk_init "Walk.__init__" (defScope s_Walk_init) (ma K (ga K "Walk") "__init__") cdv Ar outer s0 H E
  refine s_while (γ := WkS) (fun y => [some (vR sa), some (vLn K l), some (vS start), some (vIn l.width), some (vEnts K l), some (vR wa), none, none]) (fun y => [(wa, oW K P w wa y.d), (ra, oL (y.rows.map (vRow K))), (sa, oI (ga K "Walk") dx [("rows", vR ra), ("begin_row", vIn y.b), ("end_row", vIn y.e)])]) (WkOk ⟨l, start⟩) WkS.mu (fun y => decide (((y.e : Nat) : Int) = 0)) ⟨⟨[], 0, 0, []⟩, ⟨fun i r h => (by simp at h), Nat.zero_le _, fun _ => ⟨rfl, ?_, ?_⟩, fun h => absurd rfl h⟩, hs⟩ ?_ ?_ ?_
  · unfold wdD
    rw [show ([] : List Row).length + 1 - l.width = 0 by show 0 + 1 - l.width = 0; omega]; rfl
  · show ((List.range (0 + 1 - l.width)).map _).Nodup
    rw [show 0 + 1 - l.width = 0 by omega]; exact .nil
  · intro y hy
    exact tEqI (eg_own (C := ga K "Walk") (dx := dx) 2 rfl (eg_var (i := 0) rfl rfl) T.c_Walk T.na_Walk_end_row rfl) eg_int
  · intro y hy he σ H hs
    have he0 : y.e = 0 := by have := of_decide_eq_true he; omega
    obtain ⟨hb0, hd, hnd⟩ := hy.go he0
    have hbd : y.rows.length ≤ lim l := nd_bound wok hy.rows hnd
    have hlim := lim_le w4
    have bor : BC [(wa, oW K P w wa y.d), (ra, oL (y.rows.map (vRow K))), (sa, oI (ga K "Walk") dx [("rows", vR ra), ("begin_row", vIn y.b), ("end_row", vIn y.e)])] [some (vR sa), some (vLn K l), some (vS start), some (vIn l.width), some (vEnts K l), some (vR wa), none, none] [some (vO (ga K "Walk") [("rows", vL (y.rows.map (vRow K))), ("begin_row", vIn y.b), ("end_row", vIn y.e)]), some (vLn K l), some (vS start), some (vIn l.width), some (vEnts K l), some (vR wa), none, none] :=
      bc_self (b := ra) (List.mem_cons_of_mem _ (List.mem_cons_of_mem _ List.mem_cons_self)) (List.mem_cons_of_mem _ List.mem_cons_self) (.same (.same (.same (.same (.same (.same (.same .nil)))))))
    refine s_appE (χ := NextRow l start y.rows) (F := vRow K) 1 hs rfl (by rw [List.length_map]; omega) (eg_own (C := ga K "Walk") (dx := dx) 2 rfl (eg_var (i := 0) rfl rfl) T.c_Walk T.na_Walk_rows rfl) (eg_borrow _ bor.ok (mut_W (mut_L (mut_I mut_nil))) (surv_ex fun r => surv_T fun P hP => ?_) (eg_call (g_next_row T) hr (by omega) ⟨l, start, y.rows⟩ ⟨ok, by show y.rows.length ≤ 100000; omega⟩ (ag_cons (eg_var (i := 4) rfl rfl) (ag_cons (eg_var (i := 2) rfl rfl) (ag_cons (eg_fld (C := ga K "Walk") (eg_var (i := 0) rfl rfl) T.c_Walk T.na_Walk_rows rfl) ag_nil))))) fun r hnr H hs => ?_
    · simp only [List.mem_cons, List.not_mem_nil, or_false] at hP
      rcases hP with rfl | rfl <;> exact surv_strs _
    let rows2 := y.rows ++ [r]
    have l2 : rows2.length = y.rows.length + 1 := by show (y.rows ++ [r]).length = _; rw [List.length_append]; rfl
    have hrows2 : RowsOk l start rows2 := rows_snoc hy.rows hnr
    have hs : Sat G H0 [some (vR sa), some (vLn K l), some (vS start), some (vIn l.width), some (vEnts K l), some (vR wa), none, none] [(wa, oW K P w wa y.d), (ra, oL (rows2.map (vRow K))), (sa, oI (ga K "Walk") dx [("rows", vR ra), ("begin_row", vIn y.b), ("end_row", vIn y.e)])] σ H := by
      have e : rows2.map (vRow K) = y.rows.map (vRow K) ++ [vRow K r] := by show (y.rows ++ [r]).map _ = _; rw [List.map_append]; rfl
      rw [e]; exact hs
    have bor2 : ∀ (Q6 Q7 : Option VP), BC [(wa, oW K P w wa y.d), (ra, oL (rows2.map (vRow K))), (sa, oI (ga K "Walk") dx [("rows", vR ra), ("begin_row", vIn y.b), ("end_row", vIn y.e)])] [some (vR sa), some (vLn K l), some (vS start), some (vIn l.width), some (vEnts K l), some (vR wa), Q6, Q7] [some (vO (ga K "Walk") [("rows", vL (rows2.map (vRow K))), ("begin_row", vIn y.b), ("end_row", vIn y.e)]), some (vLn K l), some (vS start), some (vIn l.width), some (vEnts K l), some (vR wa), Q6, Q7] := fun Q6 Q7 =>
      bc_self (b := ra) (List.mem_cons_of_mem _ (List.mem_cons_of_mem _ List.mem_cons_self)) (List.mem_cons_of_mem _ List.mem_cons_self) (.same (.same (.same (.same (.same (.same (.same .nil)))))))
    refine s_set hs 6 ((eg_borrow _ (bor2 _ _).ok (mut_W (mut_L (mut_I mut_nil))) surv_is (gSub (eg_lenL T.f_len (eg_fld (C := ga K "Walk") (eg_var (i := 0) rfl rfl) T.c_Walk T.na_Walk_rows rfl)) (eg_var (i := 3) rfl rfl))).cast (P' := vI ((rows2.length : Int) - (l.width : Int))) (by rw [List.length_map])) (fun σ H hs => ?_) sc_Walk_init.nd
    refine s_if hs (tGe (eg_var (i := 6) rfl rfl) eg_int) (fun hge H hs => ?_) (fun hge H hs => ?_)
    rotate_left
    · have hlt : rows2.length < l.width := by have := of_decide_eq_false hge; omega
      refine wp_nil (wp_nil ⟨⟨rows2, 0, 0, y.d⟩, ⟨hrows2, by show rows2.length ≤ lim l + 1; omega, fun _ => ⟨rfl, ?_, ?_⟩, fun h => absurd rfl h⟩, ?_, ?_⟩)
      · show y.d = wdD l.width rows2
        rw [hd]
        unfold wdD
        rw [show y.rows.length + 1 - l.width = 0 by omega, show rows2.length + 1 - l.width = 0 by omega]; rfl
      · show ((List.range (rows2.length + 1 - l.width)).map _).Nodup
        rw [show rows2.length + 1 - l.width = 0 by omega]; exact .nil
      · show (if (0 : Nat) = 0 then 5000 - rows2.length else 0) < (if y.e = 0 then 5000 - y.rows.length else 0)
        rw [if_pos rfl, if_pos he0]; omega
      · have := hs.drop 6
        rw [hb0, he0] at this
        exact this
    · have hge' : l.width ≤ rows2.length := by have := of_decide_eq_true hge; omega
      obtain ⟨bg, hbg⟩ : ∃ bg : Nat, bg = rows2.length - l.width := ⟨_, rfl⟩
      have ebg : ((rows2.length : Int) - (l.width : Int)) = (bg : Nat) := by omega
      rw [ebg] at hs
      have hwin : rows2.drop bg = win l.width rows2 bg := by
        unfold win
        rw [List.take_of_length_le (by rw [List.length_drop]; omega)]
      refine s_set hs 7 ((eg_borrow _ (bor2 _ _).ok (mut_W (mut_L (mut_I mut_nil))) (surv_T (K := K) (Ps := (win l.width rows2 bg).map (vRow K)) fun P hP => ?_) ((eg_tuple T.f_tuple (eg_slL (eg_fld (C := ga K "Walk") (eg_var (i := 0) rfl rfl) T.c_Walk T.na_Walk_rows rfl) (og_some (eg_var (i := 6) rfl rfl)) og_none)).cast (P' := vT K ((win l.width rows2 bg).map (vRow K))) ?_)) ) (fun σ H hs => ?_) sc_Walk_init.nd
      · obtain ⟨q, _, rfl⟩ := List.mem_map.mp hP
        exact surv_T fun P hP => by
          simp only [List.mem_cons, List.not_mem_nil, or_false] at hP
          rcases hP with rfl | rfl <;> exact surv_strs _
      · rw [cutG_map, cutG_from (by omega), hwin]; rfl
      have hk : ∀ v G, (vT K ((win l.width rows2 bg).map (vRow K))).p v G → ∃ t, v = .ref t ∧ Dp K G v (nk (win l.width rows2 bg)).data := fun v G q => by
        obtain ⟨t, vs, e, h⟩ := id q
        exact ⟨t, e, dat_win v G q⟩
      have cntE : y.rows.length + 1 - l.width = bg := by omega
      refine s_if hs (tg_inW hr 0 rfl hk (depth_nk _) (eg_var (i := 7) rfl rfl) (eg_var (i := 5) rfl rfl)) (fun hin H hs => ?_) (fun hin H hs => ?_)
      · obtain ⟨n, hn⟩ := Option.isSome_iff_exists.mp hin
        have hn' : dG (wdD l.width y.rows) (nk (win l.width rows2 bg)) = some n := by rw [← hd]; exact hn
        obtain ⟨hnl, hnw⟩ := dG_wd.1 n hn'
        refine s_asgT hs (eg_tup (ag_cons (eg_wget hr 0 rfl hn hk (depth_nk _) (eg_var (i := 5) rfl rfl) (eg_var (i := 7) rfl rfl)) (ag_cons (eg_var (i := 6) rfl rfl) ag_nil))) (gtm_tup (gtms_cons (gtm_fld (C := ga K "Walk") (dx := dx) (fs := [("rows", vR ra), ("begin_row", vIn y.b), ("end_row", vIn y.e)]) 2 rfl (eg_var (i := 0) rfl rfl) T.c_Walk T.na_Walk_begin_row (by show 3 < 1000; decide)) (gtms_cons (gtm_fld (C := ga K "Walk") (dx := dx) (fs := [("rows", vR ra), ("begin_row", vIn n), ("end_row", vIn y.e)]) 2 rfl (eg_var (i := 0) rfl rfl) T.c_Walk T.na_Walk_end_row (by show 3 < 1000; decide)) gtms_nil))) fun σ H hs => ?_
        refine wp_nil (wp_nil (wp_nil ⟨⟨rows2, n, bg, y.d⟩, ⟨hrows2, by show rows2.length ≤ lim l + 1; omega, fun h => ?_, fun _ => ⟨?_, ?_, ?_⟩⟩, ?_, ?_⟩))
        · exfalso
          have h0 : bg = 0 := h
          omega
        · show n < bg
          omega
        · show bg + l.width = rows2.length
          omega
        · show win l.width rows2 n = win l.width rows2 bg
          rw [← hnw]
          exact win_app (by omega)
        · show (if bg = 0 then 5000 - rows2.length else 0) < (if y.e = 0 then 5000 - y.rows.length else 0)
          rw [if_neg (by omega), if_pos he0]; omega
        · exact (hs.drop 6).drop 7
      · have hn' : dG (wdD l.width y.rows) (nk (win l.width rows2 bg)) = none := by
          rw [← hd]
          cases e : dG y.d (nk (win l.width rows2 bg)) with
          | none => rfl
          | some n => rw [e] at hin; cases hin
        have hnew := dG_wd.2 hn'
        have hdl : y.d.length < sizeLine := by
          rw [hd]; unfold wdD
          rw [List.length_map, List.length_range]; omega
        refine s_wput hr hs 0 rfl (by rw [hd]; exact hn') hdl hk (depth_nk _) (eg_var (i := 6) rfl rfl) (eg_var (i := 5) rfl rfl) (eg_var (i := 7) rfl rfl) fun H hs => ?_
        have hnd2 : ((List.range (rows2.length + 1 - l.width)).map fun m => win l.width rows2 m).Nodup := nd_snoc hnd w1 fun m hm => by
          have := hnew m hm
          rw [cntE]; exact this
        have hbd2 : rows2.length ≤ lim l := nd_bound wok hrows2 hnd2
        refine wp_nil (wp_nil (wp_nil ⟨⟨rows2, 0, 0, y.d ++ [(nk (win l.width rows2 bg), bg)]⟩, ⟨hrows2, by show rows2.length ≤ lim l + 1; omega, fun _ => ⟨rfl, ?_, hnd2⟩, fun h => absurd rfl h⟩, ?_, ?_⟩))
        · show y.d ++ [(nk (win l.width rows2 bg), bg)] = wdD l.width (y.rows ++ [r])
          rw [wd_snoc, if_pos (by omega), hd, cntE]
        · show (if (0 : Nat) = 0 then 5000 - rows2.length else 0) < (if y.e = 0 then 5000 - y.rows.length else 0)
          rw [if_pos rfl, if_pos he0]; omega
        · have := (hs.drop 6).drop 7
          rw [hb0, he0] at this
          exact this
  · intro y hy he σ H hs
    have he0 : y.e ≠ 0 := fun z => by
      have := of_decide_eq_false he
      omega
    obtain ⟨h1, h2, h3⟩ := hy.fin he0
    obtain ⟨G1, o1, gg1, k1, k2, _, hs⟩ := Sat.pubG 0 hs rfl
    obtain ⟨G2, o2, gg2, k3, k4, _, hs⟩ := Sat.pubG 0 hs rfl
    have hs := Sat.toO (R' := oI (ga K "Walk") dx (walkF K ⟨y.rows, y.b, y.e⟩)) 0 hs rfl (by
      rintro o G3 sm ⟨vs, rfl, q⟩
      refine ⟨vs, rfl, ?_⟩
      cases q with
      | cons r q =>
        have r' : _ = V.ref ra := r
        obtain ⟨us, rfl, pv⟩ := k4
        exact .cons ⟨ra, us, r', sm _ _ k3, PV.mono sm pv⟩ q)
    refine wp_nil (k ⟨y.rows, y.b, y.e⟩ _ _ _ _ ⟨hy.rows, h1, h2, h3, ?_⟩ (gg1.trans gg2) hs)
    have := hy.bd
    have h2' : y.e + l.width = y.rows.length := h2
    have this' : y.rows.length ≤ lim l + 1 := this
    show y.e + l.width ≤ lim l + 1
    omega
end
end Ow
namespace Ow
open PySem PySem.Spec PyProof.Rows L2 He
/-! ### the lags of a walk -/
def colAt (z : WalkZ) (nm : Str) (pl : Bool) (m : Nat) : Bool := match z.rows[m]? with
  | some r => decide (nm ∈ side r pl)
  | none => false
/-- the lags at which a name stands on a side -/
def LagsOf (z : WalkZ) (nm : Str) (pl : Bool) (f : Fm) : Prop := FmOk f BL ∧ f.s ≤ z.b ∧ f.p ∣ z.e - z.b ∧ ∀ k, f.has k = (if k < z.e then colAt z nm pl k else colAt z nm pl (z.b + (k - z.b) % (z.e - z.b)))
structure LaY where
  z : WalkZ
  nm : Str
  pl : Bool
structure LaOk (y : LaY) : Prop where
  lt : y.z.b < y.z.e
  len : y.z.e ≤ y.z.rows.length
  bd : y.z.rows.length ≤ 5000
section
variable {P : Program} {w : World} {K : PySem.W.Frag} {mg : Str → Option Value} {base : Heap}
theorem clsW (T : Txt K mg) : Cls K (ga K "Walk") := T.c_Walk
theorem o_lags_at (T : Txt K mg) : FO P w K mg base 5 (ma K (ga K "Walk") "lags_at") LaOk (fun y => [vWalk K y.z, vS y.nm, vIn (b2n y.pl)]) (fun y => vEx (LagsOf y.z y.nm y.pl) (fun f => vLG K ⟨true, f⟩)) := by
  refine fo T.d_Walk_lags_at sc_Walk_lags_at (fun _ _ => rfl) (fun _ _ _ _ _ _ us hl => match us, hl with | [_, _, _], _ => rfl) ?_
  rintro cdv Ar outer s0 H0 E ⟨z, nm, pl⟩ G Q σ hr ⟨hlt, hlen, hbd⟩ hs k
  replace hlt : z.b < z.e := hlt
  replace hlen : z.e ≤ z.rows.length := hlen
  replace hbd : z.rows.length ≤ 5000 := hbd
  have hz := sizeBig
  have hat : ∀ (A B : VP), atI [A, B] ((b2n pl : Nat) : Int) = some (if pl then B else A) := fun A B => by cases pl <;> rfl
  let ns : List Nat := (List.range z.e).filter (colAt z nm pl)
  have eL : ((pairs (z.rows.take z.e)).filter fun q => decide (nm ∈ side q.2 pl)).map (fun q => vIn q.1) = ns.map vIn := ?eL
  refine s_setLc (α := Nat × Row) n_Walk_lags_at (defScope s_Walk_lags_at) [("at", 4), ("row", 5)] (t := fun q : Nat × Row => decide (nm ∈ side q.2 pl)) (R := fun q => vIn q.1) (fun q => [some (vWalk K z), some (vS nm), some (vIn (b2n pl)), none, some (vI q.1), some (vRow K q.2)]) [4, 5] hs 3 (ig_enumL (xs := z.rows.take z.e) (F := vRow K) (ag_cons ((eg_slL (eg_fld (C := ga K "Walk") (eg_var (P := vWalk K z) (i := 0) rfl rfl) T.c_Walk T.na_Walk_rows rfl) og_none (og_some (eg_fld (C := ga K "Walk") (eg_var (P := vWalk K z) (i := 0) rfl rfl) T.c_Walk T.na_Walk_end_row rfl))).cast ?_) ag_nil) T.f_enumerate) (by rw [pairs_length, List.length_take]; omega)
    (fun _ _ _ _ _ q _ => gt_tup (gts_cons (gt_name 4 sc_Walk_lags_at.nd) (gts_cons (gt_name 5 sc_Walk_lags_at.nd) gts_nil))) (fun _ _ _ _ _ q _ => pts_if ?_) (fun _ _ _ _ _ q _ _ => eg_var (i := 4) rfl rfl) (fun σ H hs => ?_) sc_Walk_lags_at.nd
  · rw [cutG_map, cutG_to (by omega)]
  · refine (tInST (xs := side q.2 pl) (eg_var (i := 1) rfl rfl) ((gIxT (hat (vT K (q.2.1.map vS)) (vT K (q.2.2.map vS))) (eg_var (i := 5) rfl rfl) (eg_var (i := 2) rfl rfl)).cast ?_)).cast ?_
    · cases pl <;> rfl
    · rw [inS_iff]
  · rw [eL] at hs
    have hin : ∀ k, k < z.e → (decide (k ∈ ns) = colAt z nm pl k) := fun k hk => by
      rw [Bool.eq_iff_iff, decide_eq_true_iff, List.mem_filter, List.mem_range]
      exact ⟨fun h => h.2, fun h => ⟨hk, h⟩⟩
    refine s_ret hs ((eg_call (g_lags_of T) hr (by omega) ⟨false, ns, z.b, z.e - z.b⟩ ⟨⟨fun n hn => ?_, ?_⟩, ?_⟩ (ag_cons (eg_var (i := 3) rfl rfl) (ag_cons (eg_fld (C := ga K "Walk") (eg_var (P := vWalk K z) (i := 0) rfl rfl) T.c_Walk T.na_Walk_begin_row rfl) (ag_cons ((gSub (eg_fld (C := ga K "Walk") (eg_var (P := vWalk K z) (i := 0) rfl rfl) T.c_Walk T.na_Walk_end_row rfl) (eg_fld (C := ga K "Walk") (eg_var (P := vWalk K z) (i := 0) rfl rfl) T.c_Walk T.na_Walk_begin_row rfl)).cast ?_) ag_nil)))).to (P' := vEx (LagsOf z nm pl) (fun f => vLG K ⟨true, f⟩)) fun v G ⟨f, ⟨h1, h2, h3, h4⟩, q⟩ => ⟨f, ⟨h1, h2, h3, fun k => ?_⟩, q⟩) k
    · have := List.mem_range.mp (List.mem_filter.mp hn).1
      show n < z.b + (z.e - z.b)
      omega
    · show z.b + (z.e - z.b) ≤ 4194304
      omega
    · show 1 ≤ z.e - z.b
      omega
    · show vI ((z.e : Int) - (z.b : Int)) = vI ((z.e - z.b : Nat) : Int)
      congr 2
      omega
    · have e5 : z.b + (z.e - z.b) = z.e := by omega
      rw [h4]
      show flagAt z.b (z.e - z.b) (flagsOf ns (z.b + (z.e - z.b))) k = _
      have gd : ∀ i, i < z.e → (flagsOf ns (z.b + (z.e - z.b))).getD i false = colAt z nm pl i := fun i hi => by
        unfold flagsOf
        rw [List.getD_eq_getElem?_getD, List.getElem?_map, List.getElem?_range (by omega)]
        exact hin i hi
      by_cases hk : k < z.e
      · rw [if_pos hk, flagAt_lo (by omega), gd k hk]
      · rw [if_neg hk, flagAt_hi (by omega), gd]
        have := Nat.mod_lt (k - z.b) (show z.e - z.b > 0 by omega)
        omega
  case eL =>
    have e : pairs (z.rows.take z.e) = (List.range z.e).map fun i => (i, z.rows.getD i ([], [])) := by
      refine List.ext_getElem? fun i => ?_
      by_cases h : i < z.e
      · have h2 : i < z.rows.length := by omega
        rw [List.getElem?_map, List.getElem?_range h]
        unfold pairs
        have e2 : ((List.range (z.rows.take z.e).length).zip (z.rows.take z.e))[i]? = some (i, z.rows[i]) := List.getElem?_zip_eq_some.mpr ⟨List.getElem?_range (by rw [List.length_take]; omega), by rw [List.getElem?_take_of_lt h, List.getElem?_eq_getElem h2]⟩
        rw [e2]
        simp [h2]
      · rw [List.getElem?_eq_none (by rw [pairs_length, List.length_take]; omega), List.getElem?_eq_none (by simp; omega)]
    rw [e, List.filter_map, List.map_map]
    show ((List.range z.e).filter _).map _ = ((List.range z.e).filter (colAt z nm pl)).map vIn
    have e3 : (List.range z.e).filter ((fun q : Nat × Row => decide (nm ∈ side q.2 pl)) ∘ fun i => (i, z.rows.getD i ([], []))) = (List.range z.e).filter (colAt z nm pl) := by
      refine List.filter_congr fun i hi => ?_
      have h2 : i < z.rows.length := by have := List.mem_range.mp hi; omega
      unfold colAt
      rw [List.getElem?_eq_getElem h2]
      simp [h2]
    rw [e3]
    rfl
theorem m_lags_at (T : Txt K mg) : FM P w K mg base 5 (ga K "Walk") "lags_at" LaOk (fun y => [vWalk K y.z, vS y.nm, vIn (b2n y.pl)]) (fun y => vEx (LagsOf y.z y.nm y.pl) (fun f => vLG K ⟨true, f⟩)) := (o_lags_at T).fm T.c_Walk T.m_Walk_lags_at
theorem e_lags_at {X : Cx} {Γ : Cn} {Ω : Om} {o e1 e2 : Expr} {apos pos : Pos} {y : LaY} {k : Nat} {pl : Sem Bool} (T : Txt X.K X.mg) (hr : Room k X.A) (hk : 5 ≤ k) (ok : LaOk y) (ho : EG X Γ Ω o (vWalk X.K y.z)) (h1 : EG X Γ Ω e1 (vS y.nm)) (h2 : EG X Γ Ω e2 (vIn (b2n y.pl)))
    (ht : eval (.Call (.Attribute o "lags_at" apos) [e1, e2] [] pos) X.env = (do
      let ov ← eval o X.env
      standAt apos.atName
      let (f, first) ← holding [ov] (getMethod ov "lags_at" pl)
      callWith pos f first (backTo pos (starEach [e1, e2] X.env)) (backToKw pos (keywordEach [] X.env))) := by rfl)
    (hs1 : starEach [e1, e2] X.env = (false, eval e1 X.env) :: starEach [e2] X.env := by rfl) (hs2 : starEach [e2] X.env = (false, eval e2 X.env) :: starEach [] X.env := by rfl) (hpl : (backTo pos (starEach [e2] X.env)).any (·.1) = false := by rfl) : EG X Γ Ω (.Call (.Attribute o "lags_at" apos) [e1, e2] [] pos) (vEx (LagsOf y.z y.nm y.pl) (fun f => vLG X.K ⟨true, f⟩)) :=
  eg_meth (C := ga X.K "Walk") (fs := walkF X.K y.z) (m_lags_at T) hr hk y ok rfl (by show ("lags_at" : Str) ∉ [("rows" : Str), "begin_row", "end_row"]; decide) ho (ag_cons h1 (ag_cons h2 ag_nil hs2) hs1) ht hs1 hpl
theorem m_ends (T : Txt K mg) : FM P w K mg base 6 (ga K "Walk") "ends" (fun y : WalkZ × Str => LaOk ⟨y.1, y.2, false⟩) (fun y => [vWalk K y.1, vS y.2]) (fun y => vEx (LagsOf y.1 y.2 false) (fun f => vLG K ⟨true, f⟩)) := by
  refine (fo T.d_Walk_ends sc_Walk_ends (fun _ _ => rfl) (fun _ _ _ _ _ _ us hl => match us, hl with | [_, _], _ => rfl) ?_).fm T.c_Walk T.m_Walk_ends
  rintro cdv Ar outer s0 H0 E ⟨z, nm⟩ G Q σ hr ok hs k
  exact s_ret hs (e_lags_at (y := ⟨z, nm, false⟩) T hr (Nat.le_refl _) ok (eg_var (i := 0) rfl rfl) (eg_var (i := 1) rfl rfl) eg_int) k
theorem m_begins (T : Txt K mg) : FM P w K mg base 6 (ga K "Walk") "begins" (fun y : WalkZ × Str => LaOk ⟨y.1, y.2, true⟩) (fun y => [vWalk K y.1, vS y.2]) (fun y => vEx (LagsOf y.1 y.2 true) (fun f => vLG K ⟨true, f⟩)) := by
  refine (fo T.d_Walk_begins sc_Walk_begins (fun _ _ => rfl) (fun _ _ _ _ _ _ us hl => match us, hl with | [_, _], _ => rfl) ?_).fm T.c_Walk T.m_Walk_begins
  rintro cdv Ar outer s0 H0 E ⟨z, nm⟩ G Q σ hr ok hs k
  exact s_ret hs (e_lags_at (y := ⟨z, nm, true⟩) T hr (Nat.le_refl _) ok (eg_var (i := 0) rfl rfl) (eg_var (i := 1) rfl rfl) eg_int) k
theorem g_walked (T : Txt K mg) : FG P w K mg base 7 "walked" WalkOk (fun y => [vLn K y.l, vS y.start]) (fun y => vEx (WalkIs y) (vWalk K)) := by
  refine (fo T.d_walked sc_walked (fun _ _ => rfl) (fun _ _ _ _ _ _ us hl => match us, hl with | [_, _], _ => rfl) ?_).fg T.g_walked
  rintro cdv Ar outer s0 H0 E y G Q σ hr ok hs k
  exact s_ret hs (eg_makeE (i_Walk T) hr (Nat.le_refl _) y ok (ag_cons (eg_var (i := 0) rfl rfl) (ag_cons (eg_var (i := 1) rfl rfl) ag_nil))) k
end
end Ow
namespace Ow
open PySem PySem.Spec PyProof.Rows L2 He
/-! ### orders -/
def OutF (l : Ln) (n : Str) (f : Fm) : Prop := ∃ z, WalkIs ⟨l, n⟩ z ∧ LagsOf z l.out false f
def BetF (l : Ln) (n o : Str) (f : Fm) : Prop := ∃ z, WalkIs ⟨l, n⟩ z ∧ LagsOf z o true f
structure OrdZ where
  known : List Str
  d1 : List (Key × Fm)
  d2 : List (List Key × Fm)
  none : Fm
def kk2 (n o : Str) : List Key := [.inr n, .inr o]
structure OrdIs (l : Ln) (z : OrdZ) : Prop where
  srt : Srt l.clocked z.known
  out : ∀ n, (n ∈ z.known → ∃ f, dG z.d1 (.inr n) = some f ∧ OutF l n f) ∧ (n ∉ z.known → dG z.d1 (.inr n) = Option.none)
  bet : ∀ n o, (n ∈ z.known ∧ o ∈ z.known → ∃ f, dG z.d2 (kk2 n o) = some f ∧ BetF l n o f) ∧ (¬ (n ∈ z.known ∧ o ∈ z.known) → dG z.d2 (kk2 n o) = Option.none)
  none : Mem 0 1 [] z.none
def vFl (K : PySem.W.Frag) (f : Fm) : VP := vLG K ⟨true, f⟩
def ordF (K : PySem.W.Frag) (z : OrdZ) : List (Str × VP) := [("known", vT K (z.known.map vS)), ("outlets", vDK (vFl K) z.d1), ("found", vDT (vFl K) z.d2), ("none", vLG K ⟨false, z.none⟩)]
def vOrd (K : PySem.W.Frag) (z : OrdZ) : VP := vO (ga K "Orders") (ordF K z)
structure WLn (l : Ln) : Prop where
  ok : LnOk l
  w4 : l.width ≤ 4
theorem kk2_inj {a b c d : Str} (h : kk2 a b = kk2 c d) : a = c ∧ b = d := by
  unfold kk2 at h
  simp at h
  exact h
section
variable {X : Cx} {Γ : Cn} {Ω : Om} {pos apos : Pos} {o e : Expr} {k : Nat}
theorem laOk_of {y : WalkY} {z : WalkZ} (w4 : y.l.width ≤ 4) (h : WalkIs y z) (nm : Str) (pl : Bool) : LaOk ⟨z, nm, pl⟩ := by
  have h1 := h.len
  have h2 := h.bd
  have h3 := lim_le w4
  exact ⟨h.lt, by show z.e ≤ z.rows.length; omega, by show z.rows.length ≤ 5000; omega⟩
theorem e_wends {z : WalkZ} {nm : Str} {pl : Sem Bool} (T : Txt X.K X.mg) (hr : Room k X.A) (hk : 6 ≤ k) (ok : LaOk ⟨z, nm, false⟩) (ho : EG X Γ Ω o (vWalk X.K z)) (h1 : EG X Γ Ω e (vS nm))
    (ht : eval (.Call (.Attribute o "ends" apos) [e] [] pos) X.env = (do
      let ov ← eval o X.env
      standAt apos.atName
      let (f, first) ← holding [ov] (getMethod ov "ends" pl)
      callWith pos f first (backTo pos (starEach [e] X.env)) (backToKw pos (keywordEach [] X.env))) := by rfl)
    (hs1 : starEach [e] X.env = (false, eval e X.env) :: starEach [] X.env := by rfl) (hpl : (backTo pos (starEach [] X.env)).any (·.1) = false := by rfl) : EG X Γ Ω (.Call (.Attribute o "ends" apos) [e] [] pos) (vEx (LagsOf z nm false) (fun f => vLG X.K ⟨true, f⟩)) :=
  eg_meth (C := ga X.K "Walk") (fs := walkF X.K z) (m_ends T) hr hk (z, nm) ok rfl (by show ("ends" : Str) ∉ [("rows" : Str), "begin_row", "end_row"]; decide) ho (ag_cons h1 ag_nil hs1) ht hs1 hpl
theorem e_wbegins {z : WalkZ} {nm : Str} {pl : Sem Bool} (T : Txt X.K X.mg) (hr : Room k X.A) (hk : 6 ≤ k) (ok : LaOk ⟨z, nm, true⟩) (ho : EG X Γ Ω o (vWalk X.K z)) (h1 : EG X Γ Ω e (vS nm))
    (ht : eval (.Call (.Attribute o "begins" apos) [e] [] pos) X.env = (do
      let ov ← eval o X.env
      standAt apos.atName
      let (f, first) ← holding [ov] (getMethod ov "begins" pl)
      callWith pos f first (backTo pos (starEach [e] X.env)) (backToKw pos (keywordEach [] X.env))) := by rfl)
    (hs1 : starEach [e] X.env = (false, eval e X.env) :: starEach [] X.env := by rfl) (hpl : (backTo pos (starEach [] X.env)).any (·.1) = false := by rfl) : EG X Γ Ω (.Call (.Attribute o "begins" apos) [e] [] pos) (vEx (LagsOf z nm true) (fun f => vLG X.K ⟨true, f⟩)) :=
  eg_meth (C := ga X.K "Walk") (fs := walkF X.K z) (m_begins T) hr hk (z, nm) ok rfl (by show ("begins" : Str) ∉ [("rows" : Str), "begin_row", "end_row"]; decide) ho (ag_cons h1 ag_nil hs1) ht hs1 hpl
end
structure D1Ok (l : Ln) (S : Str → Prop) (d : List (Key × Fm)) : Prop where
  get : ∀ n, (S n → ∃ f, dG d (.inr n) = some f ∧ OutF l n f) ∧ (¬ S n → dG d (.inr n) = Option.none)
structure D2Ok (l : Ln) (S : Str → Str → Prop) (d : List (List Key × Fm)) : Prop where
  get : ∀ n o, (S n o → ∃ f, dG d (kk2 n o) = some f ∧ BetF l n o f) ∧ (¬ S n o → dG d (kk2 n o) = Option.none)
theorem d1_put {l : Ln} {S S' : Str → Prop} {d : List (Key × Fm)} {n : Str} {f : Fm} (h : D1Ok l S d) (hf : OutF l n f) (hS : ∀ m, S' m ↔ S m ∨ m = n) : D1Ok l S' (dP d (.inr n) f) := ⟨fun m => by
  by_cases e : m = n
  · subst e
    rw [dG_put_same]
    exact ⟨fun _ => ⟨f, rfl, hf⟩, fun z => absurd ((hS m).mpr (.inr rfl)) z⟩
  · rw [dG_put_ne (fun z => e (Sum.inr.inj z))]
    exact ⟨fun z => (h.get m).1 (((hS m).mp z).resolve_right e), fun z => (h.get m).2 fun q => z ((hS m).mpr (.inl q))⟩⟩
theorem d2_put {l : Ln} {S S' : Str → Str → Prop} {d : List (List Key × Fm)} {n o : Str} {f : Fm} (h : D2Ok l S d) (hf : BetF l n o f) (hS : ∀ m q, S' m q ↔ S m q ∨ (m = n ∧ q = o)) : D2Ok l S' (dP d (kk2 n o) f) := ⟨fun m q => by
  by_cases e : m = n ∧ q = o
  · obtain ⟨rfl, rfl⟩ := e
    rw [dG_put_same]
    exact ⟨fun _ => ⟨f, rfl, hf⟩, fun z => absurd ((hS m q).mpr (.inr ⟨rfl, rfl⟩)) z⟩
  · rw [dG_put_ne (fun z => e (kk2_inj z))]
    exact ⟨fun z => (h.get m q).1 (((hS m q).mp z).resolve_right e), fun z => (h.get m q).2 fun t => z ((hS m q).mpr (.inl t))⟩⟩
section
variable {P : Program} {w : World} {K : PySem.W.Frag} {mg : Str → Option Value} {base : Heap}
theorem i_Orders (T : Txt K mg) : FIE P w K mg base 9 (ga K "Orders") "Orders" WLn (fun l => [vLn K l]) OrdIs (ordF K) := by
  obtain ⟨fd, F⟩ := T.d_Orders_init
  refine ⟨_, fd, p_Orders_init, fn_pie F sc_Orders_init (fun _ _ => rfl) ?_, T.g_Orders, T.mk_Orders, F.bindsN fun _ _ _ _ _ _ us hl => match us, hl with | [_, _], _ => rfl⟩
  rintro cdv Ar outer s0 H0 H E l G D σ sa dx hr ⟨ok, w4⟩ hs k rt
  have hz := sizeBig
  have few := ok.few
  refine s_fldE (C := ga K "Orders") (dx := dx) (fs := []) hs 0 rfl (e_Line_timed (y := l) T hr (by omega) ok (eg_var (i := 1) rfl rfl)) (eg_var (i := 0) rfl rfl) T.c_Orders T.na_Orders_known (by show 0 < 1000; decide) fun known hkn H hs => ?_
  have hlen : known.length ≤ 3 := by
    have h1 := hkn.1.length_eq
    unfold Ln.clocked at h1
    rw [List.length_map] at h1
    have := List.length_filter_le Stn.timed l.sts
    omega
  refine s_asgNNE (R1 := oDK (vFl K) []) (R2 := oDT (vFl K) []) hs ng_dK (fun a => ng_dT) (fun a b => eg_Lags0 T hr (by omega)) (fun a b z => gtm_tup (gtms_cons (gtm_fld (C := ga K "Orders") (dx := dx) (fs := [("known", vT K (known.map vS))]) 2 rfl (eg_var (i := 0) rfl rfl) T.c_Orders T.na_Orders_outlets (by show 1 < 1000; decide)) (gtms_cons (gtm_fld (C := ga K "Orders") (dx := dx) (fs := [("known", vT K (known.map vS)), ("outlets", vR a)]) 2 rfl (eg_var (i := 0) rfl rfl) T.c_Orders T.na_Orders_found (by show 2 < 1000; decide)) (gtms_cons (gtm_fld (C := ga K "Orders") (dx := dx) (fs := [("known", vT K (known.map vS)), ("outlets", vR a), ("found", vR b)]) 2 rfl (eg_var (i := 0) rfl rfl) T.c_Orders T.na_Orders_none (by show 3 < 1000; decide)) gtms_nil)))) fun oa fb nf hnf σ H hs => ?_
  let Om2 : List (Key × Fm) → List (List Key × Fm) → Om := fun d1 d2 => [(fb, oDT (vFl K) d2), (oa, oDK (vFl K) d1), (sa, oI (ga K "Orders") dx [("known", vT K (known.map vS)), ("outlets", vR oa), ("found", vR fb), ("none", vLG K ⟨false, nf⟩)])]
  refine s_for (γ := List (Key × Fm) × List (List Key × Fm)) hs (ig_tup (xs := known) (F := vS) (eg_own (C := ga K "Orders") (dx := dx) 2 rfl (eg_var (i := 0) rfl rfl) T.c_Orders T.na_Orders_known rfl)) (fun _ _ => [some (vR sa), some (vLn K l), none, none, none]) (fun i y => Om2 y.1 y.2)
    (fun i y => D1Ok l (fun n => n ∈ known.take i) y.1 ∧ D2Ok l (fun n o => n ∈ known.take i ∧ o ∈ known) y.2 ∧ y.1.length ≤ i ∧ y.2.length ≤ i * 3) (fun _ _ n => [some (vR sa), some (vLn K l), some (vS n), none, none]) [2] (fun G1 σ H h => ⟨([], []), ⟨⟨fun n => ⟨fun h => (by simp at h), fun _ => rfl⟩⟩, ⟨fun n o => ⟨fun h => (by simp at h), fun _ => rfl⟩⟩, Nat.zero_le _, Nat.zero_le _⟩, h⟩) (fun i _ x _ _ => gt_name 2 sc_Orders_init.nd) ?_ ?_
  · rintro G1 gg i ⟨d1, d2⟩ n hx ⟨h1, h2, l1, l2⟩ σ H hs
    replace h1 : D1Ok l (fun n => n ∈ known.take i) d1 := h1
    replace h2 : D2Ok l (fun n o => n ∈ known.take i ∧ o ∈ known) d2 := h2
    replace l1 : d1.length ≤ i := l1
    replace l2 : d2.length ≤ i * 3 := l2
    have hi3 := lt_of_some hx
    have tk : known.take (i + 1) = known.take i ++ [n] := by rw [List.take_add_one, hx]; rfl
    refine s_set hs 3 (eg_call (g_walked T) hr (by omega) ⟨l, n⟩ ⟨ok, w4⟩ (ag_cons (eg_var (i := 1) rfl rfl) (ag_cons (eg_var (i := 2) rfl rfl) ag_nil))) (fun σ H hs => ?_) sc_Orders_init.nd
    obtain ⟨z, hzw, hs⟩ := hs.ex 3 rfl
    have law := fun nm pl => laOk_of (y := ⟨l, n⟩) w4 hzw nm pl
    refine s_dputE (χ := LagsOf z l.out false) (F := vFl K) (R := oDK (vFl K) d1) (Pk := vS n) (R' := fun f => oDK (vFl K) (dP d1 (.inr n) f)) hr hs 1 rfl (fun f _ => DPuts.k (q := Sum.inr n) (by omega)) (e_wends (z := z) (nm := l.out) T hr (by omega) (law _ _) (eg_var (i := 3) rfl rfl) (e_Line_outlet (y := l) T hr (by omega) (eg_var (i := 1) rfl rfl))) (eg_own (C := ga K "Orders") (dx := dx) 2 rfl (eg_var (i := 0) rfl rfl) T.c_Orders T.na_Orders_outlets rfl) (eg_var (i := 2) rfl rfl) fun f hf H hs => ?_
    have hd1 : D1Ok l (fun m => m ∈ known.take (i + 1)) (dP d1 (.inr n) f) := d1_put h1 ⟨z, hzw, hf⟩ fun m => by rw [tk, List.mem_append, List.mem_singleton]
    have ld1 : (dP d1 (.inr n) f).length ≤ i + 1 := Nat.le_trans dP_len (by omega)
    refine s_for (γ := List (List Key × Fm)) hs (ig_tup (xs := known) (F := vS) (eg_own (C := ga K "Orders") (dx := dx) 2 rfl (eg_var (i := 0) rfl rfl) T.c_Orders T.na_Orders_known rfl)) (fun _ _ => [some (vR sa), some (vLn K l), some (vS n), some (vWalk K z), none]) (fun j y => Om2 (dP d1 (.inr n) f) y)
      (fun j y => D2Ok l (fun m o => (m ∈ known.take i ∧ o ∈ known) ∨ (m = n ∧ o ∈ known.take j)) y ∧ y.length ≤ i * 3 + j) (fun _ _ o => [some (vR sa), some (vLn K l), some (vS n), some (vWalk K z), some (vS o)]) [4] (fun G1 σ H h => ⟨d2, ⟨⟨fun m o => ?_⟩, l2⟩, h⟩) (fun i _ x _ _ => gt_name 4 sc_Orders_init.nd) ?_ ?_
    · have e : ((m ∈ known.take i ∧ o ∈ known) ∨ (m = n ∧ o ∈ known.take 0)) ↔ (m ∈ known.take i ∧ o ∈ known) := by simp
      exact ⟨fun z => (h2.get m o).1 (e.mp z), fun z => (h2.get m o).2 fun q => z (e.mpr q)⟩
    · rintro G2 gg2 j dd o hxo ⟨k1, k2⟩ σ H hs
      have hj3 := lt_of_some hxo
      have tko : known.take (j + 1) = known.take j ++ [o] := by rw [List.take_add_one, hxo]; rfl
      have hi2 : i * 3 ≤ 6 := Nat.mul_le_mul_right 3 (show i ≤ 2 by omega)
      refine s_dputE (χ := LagsOf z o true) (F := vFl K) (R := oDT (vFl K) dd) (Pk := vKT (kk2 n o)) (R' := fun f => oDT (vFl K) (dP dd (kk2 n o) f)) hr hs 0 rfl (fun f _ => DPuts.t (by omega)) (e_wbegins (z := z) (nm := o) T hr (by omega) (law _ _) (eg_var (i := 3) rfl rfl) (eg_var (i := 4) rfl rfl)) (eg_own (C := ga K "Orders") (dx := dx) 2 rfl (eg_var (i := 0) rfl rfl) T.c_Orders T.na_Orders_found rfl) ((eg_tupX (ag_cons (eg_var (i := 2) rfl rfl) (ag_cons (eg_var (i := 4) rfl rfl) ag_nil))).to fun v G q => vX_KT (k := kk2 n o) q) fun f2 hf2 H hs => ?_
      refine wp_nil ⟨dP dd (kk2 n o) f2, ⟨d2_put k1 ⟨z, hzw, hf2⟩ fun m q => ?_, Nat.le_trans dP_len (by omega)⟩, hs.drop 4⟩
      rw [tko, List.mem_append, List.mem_singleton]
      constructor
      · rintro (h | ⟨h, h' | h'⟩)
        · exact .inl (.inl h)
        · exact .inl (.inr ⟨h, h'⟩)
        · exact .inr ⟨h, h'⟩
      · rintro ((h | ⟨h, h'⟩) | ⟨h, h'⟩)
        · exact .inl h
        · exact .inr ⟨h, .inl h'⟩
        · exact .inr ⟨h, .inr h'⟩
    · rintro dd ⟨k1, k2⟩ σ H hs
      rw [List.take_length] at k1
      refine wp_nil ⟨(dP d1 (.inr n) f, dd), ⟨hd1, ⟨fun m o => ?_⟩, ld1, ?_⟩, ((hs.drop 2).drop 3)⟩
      · have hn : n ∈ known := List.mem_of_getElem? hx
        have e : (m ∈ known.take (i + 1) ∧ o ∈ known) ↔ ((m ∈ known.take i ∧ o ∈ known) ∨ (m = n ∧ o ∈ known)) := by
          rw [tk, List.mem_append, List.mem_singleton]
          constructor
          · rintro ⟨h | h, h'⟩
            · exact .inl ⟨h, h'⟩
            · exact .inr ⟨h, h'⟩
          · rintro (⟨h, h'⟩ | ⟨h, h'⟩)
            · exact ⟨.inl h, h'⟩
            · exact ⟨.inr h, h'⟩
        exact ⟨fun z => (k1.get m o).1 (e.mp z), fun z => (k1.get m o).2 fun q => z (e.mpr q)⟩
      · show dd.length ≤ (i + 1) * 3
        omega
  · rintro ⟨d1, d2⟩ ⟨h1, h2, _, _⟩ σ H hs
    rw [List.take_length] at h1 h2
    obtain ⟨G1, o1, gg1, k1, k2, _, hs⟩ := Sat.pubG 0 hs rfl
    obtain ⟨G2, o2, gg2, k3, k4, _, hs⟩ := Sat.pubG 0 hs rfl
    have hs := Sat.toO (R' := oI (ga K "Orders") dx (ordF K ⟨known, d1, d2, nf⟩)) 0 hs rfl (by
      rintro o G3 sm ⟨vs, rfl, q⟩
      refine ⟨vs, rfl, ?_⟩
      cases q with
      | cons r1 q => cases q with
        | cons r2 q => cases q with
          | cons r3 q =>
            have e2 : _ = V.ref oa := r2
            have e3 : _ = V.ref fb := r3
            obtain ⟨us, rfl, pd⟩ := k2
            obtain ⟨us2, rfl, pd2⟩ := k4
            exact .cons r1 (.cons ⟨oa, us2, e2, sm _ _ k3, pd2.mono sm⟩ (.cons ⟨fb, us, e3, sm _ _ (gg2.g _ _ k1), pd.mono (gg2.g.trans sm)⟩ q)))
    exact wp_nil (k ⟨known, d1, d2, nf⟩ _ _ _ _ ⟨hkn, h1.get, h2.get, hnf⟩ (gg1.trans gg2) hs)
end
end Ow
namespace Ow
open PySem PySem.Spec PyProof.Rows L2 He
/-! ### what orders tell -/
def OrdZ.outL (z : OrdZ) (n : Str) : Lg := match dG z.d1 (.inr n) with
  | some f => ⟨true, f⟩
  | .none => ⟨false, z.none⟩
def OrdZ.betL (z : OrdZ) (n o : Str) : Lg := match dG z.d2 (kk2 n o) with
  | some f => ⟨true, f⟩
  | .none => ⟨false, z.none⟩
section
variable {P : Program} {w : World} {K : PySem.W.Frag} {mg : Str → Option Value} {base : Heap}
theorem m_to_outlet (T : Txt K mg) : FM P w K mg base 1 (ga K "Orders") "to_outlet" (fun _ : OrdZ × Str => True) (fun y => [vOrd K y.1, vS y.2]) (fun y => vLG K (y.1.outL y.2)) := by
  refine (fo T.d_Orders_to_outlet sc_Orders_to_outlet (fun _ _ => rfl) (fun _ _ _ _ _ _ us hl => match us, hl with | [_, _], _ => rfl) ?_).fm T.c_Orders T.m_Orders_to_outlet
  rintro cdv Ar outer s0 H0 E ⟨z, n⟩ G Q σ hr _ hs k
  have hd : DAsk (vDK (vFl K) z.d1) (vS n) (vFl K) (dG z.d1 (.inr n)) := DAsk.k (q := Sum.inr n)
  refine s_ret hs (eg_dget2 (P' := vLG K (z.outL n)) hr hd (eg_fld (C := ga K "Orders") (eg_var (P := vOrd K z) (i := 0) rfl rfl) T.c_Orders T.na_Orders_outlets rfl) (eg_var (i := 1) rfl rfl) (eg_fld (C := ga K "Orders") (eg_var (P := vOrd K z) (i := 0) rfl rfl) T.c_Orders T.na_Orders_none rfl) (fun f hf v G q => ?_) (fun hf v G q => ?_)) k
  · unfold OrdZ.outL; rw [hf]; exact q
  · unfold OrdZ.outL; rw [hf]; exact q
theorem m_between (T : Txt K mg) : FM P w K mg base 1 (ga K "Orders") "between" (fun _ : OrdZ × Str × Str => True) (fun y => [vOrd K y.1, vS y.2.1, vS y.2.2]) (fun y => vLG K (y.1.betL y.2.1 y.2.2)) := by
  refine (fo T.d_Orders_between sc_Orders_between (fun _ _ => rfl) (fun _ _ _ _ _ _ us hl => match us, hl with | [_, _, _], _ => rfl) ?_).fm T.c_Orders T.m_Orders_between
  rintro cdv Ar outer s0 H0 E ⟨z, n, o⟩ G Q σ hr _ hs k
  have hd : DAsk (vDT (vFl K) z.d2) (vKT (kk2 n o)) (vFl K) (dG z.d2 (kk2 n o)) := DAsk.t
  refine s_ret hs (eg_dget2 (P' := vLG K (z.betL n o)) hr hd (eg_fld (C := ga K "Orders") (eg_var (P := vOrd K z) (i := 0) rfl rfl) T.c_Orders T.na_Orders_found rfl) ((eg_tupX (ag_cons (eg_var (i := 1) rfl rfl) (ag_cons (eg_var (i := 2) rfl rfl) ag_nil))).to fun v G q => vX_KT (k := kk2 n o) q) (eg_fld (C := ga K "Orders") (eg_var (P := vOrd K z) (i := 0) rfl rfl) T.c_Orders T.na_Orders_none rfl) (fun f hf v G q => ?_) (fun hf v G q => ?_)) k
  · unfold OrdZ.betL; rw [hf]; exact q
  · unfold OrdZ.betL; rw [hf]; exact q
end
section
variable {X : Cx} {Γ : Cn} {Ω : Om} {pos apos : Pos} {o e e1 e2 : Expr} {k : Nat} {z : OrdZ} {n m : Str} {pl : Sem Bool}
theorem e_outL (T : Txt X.K X.mg) (hr : Room k X.A) (hk : 1 ≤ k) (ho : EG X Γ Ω o (vOrd X.K z)) (h1 : EG X Γ Ω e (vS n))
    (ht : eval (.Call (.Attribute o "to_outlet" apos) [e] [] pos) X.env = (do
      let ov ← eval o X.env
      standAt apos.atName
      let (f, first) ← holding [ov] (getMethod ov "to_outlet" pl)
      callWith pos f first (backTo pos (starEach [e] X.env)) (backToKw pos (keywordEach [] X.env))) := by rfl)
    (hs1 : starEach [e] X.env = (false, eval e X.env) :: starEach [] X.env := by rfl) (hpl : (backTo pos (starEach [] X.env)).any (·.1) = false := by rfl) : EG X Γ Ω (.Call (.Attribute o "to_outlet" apos) [e] [] pos) (vLG X.K (z.outL n)) :=
  eg_meth (C := ga X.K "Orders") (fs := ordF X.K z) (m_to_outlet T) hr hk (z, n) trivial rfl (by show ("to_outlet" : Str) ∉ [("known" : Str), "outlets", "found", "none"]; decide) ho (ag_cons h1 ag_nil hs1) ht hs1 hpl
theorem e_betL (T : Txt X.K X.mg) (hr : Room k X.A) (hk : 1 ≤ k) (ho : EG X Γ Ω o (vOrd X.K z)) (h1 : EG X Γ Ω e1 (vS n)) (h2 : EG X Γ Ω e2 (vS m))
    (ht : eval (.Call (.Attribute o "between" apos) [e1, e2] [] pos) X.env = (do
      let ov ← eval o X.env
      standAt apos.atName
      let (f, first) ← holding [ov] (getMethod ov "between" pl)
      callWith pos f first (backTo pos (starEach [e1, e2] X.env)) (backToKw pos (keywordEach [] X.env))) := by rfl)
    (hs1 : starEach [e1, e2] X.env = (false, eval e1 X.env) :: starEach [e2] X.env := by rfl) (hs2 : starEach [e2] X.env = (false, eval e2 X.env) :: starEach [] X.env := by rfl) (hpl : (backTo pos (starEach [e2] X.env)).any (·.1) = false := by rfl) : EG X Γ Ω (.Call (.Attribute o "between" apos) [e1, e2] [] pos) (vLG X.K (z.betL n m)) :=
  eg_meth (C := ga X.K "Orders") (fs := ordF X.K z) (m_between T) hr hk (z, n, m) trivial rfl (by show ("between" : Str) ∉ [("known" : Str), "outlets", "found", "none"]; decide) ho (ag_cons h1 (ag_cons h2 ag_nil hs2) hs1) ht hs1 hpl
end
end Ow
namespace Ow
open PySem PySem.Spec PyProof.Rows L2 He
/-! ### bad lags -/
section
variable {P : Program} {w : World} {K : PySem.W.Frag} {mg : Str → Option Value} {base : Heap}
theorem m_contains (T : Txt K mg) (c : Bool) : FM P w K mg base 2 (cL K c) "__contains__" (fun y : Lg × Nat => FmOk y.1.f BL) (fun y => [vLG K y.1, vIn y.2]) (fun y => vB (y.1.f.has y.2)) := by
  cases c
  · exact (o_contains T).fm T.c_Lags T.m_Lags_contains
  · have h := T.m_FormedLags_contains
    rw [T.sm_contains] at h
    exact (o_contains T).fm T.c_FormedLags h
theorem t_has {X : Cx} {Γ : Cn} {Ω : Om} {a b : Expr} {pos : Pos} {l : Lg} {n : Nat} {k : Nat} (T : Txt X.K X.mg) (hr : Room k X.A) (hk : 2 ≤ k) (ok : FmOk l.f BL) (ha : EG X Γ Ω a (vIn n)) (hb : EG X Γ Ω b (vLG X.K l)) (hm : behindInMarks .In b = false := by rfl) : TG X Γ Ω (.Compare a [.In] [b] pos) (l.f.has n) :=
  tg_inO (C := cL X.K l.c) (fs := [("form", vForm X.K l.f)]) (m_contains T l.c) hr hk (l, n) ok rfl rfl ha hb hm
structure BadY where
  zo : OrdZ
  zt : OrdZ
  n : Str
  m : Str
structure BadOk (y : BadY) : Prop where
  one : LgOk (y.zo.betL y.n y.m, y.zt.betL y.n y.m)
  back : FmOk (y.zt.betL y.m y.n).f BL
  room : max (y.zo.betL y.n y.m).f.s (y.zt.betL y.n y.m).f.s + 1 + Nat.lcm (y.zo.betL y.n y.m).f.p (y.zt.betL y.n y.m).f.p ≤ BL
def BadF (a b c : Fm) (f : Fm) : Prop := FmOk f BL ∧ ∀ k, f.has k = (a.has k && !b.has k && !(c.has 0 && decide (k = 0)))
theorem zero_has {f : Fm} (h : Mem 1 1 [0] f) (k : Nat) : f.has k = decide (k = 0) := by
  obtain ⟨_, _, _, h4⟩ := h
  rw [h4]
  by_cases hk : k < 2
  · rw [flagAt_lo (by omega)]
    have : k = 0 ∨ k = 1 := by omega
    rcases this with rfl | rfl <;> rfl
  · rw [flagAt_hi (by omega), Nat.mod_one]
    have : ¬ k = 0 := by omega
    rw [decide_eq_false this]; rfl
theorem g_bad_lags (T : Txt K mg) : FG P w K mg base 5 "bad_lags" BadOk (fun y => [vOrd K y.zo, vOrd K y.zt, vS y.n, vS y.m]) (fun y => vEx (BadF (y.zo.betL y.n y.m).f (y.zt.betL y.n y.m).f (y.zt.betL y.m y.n).f) (fun f => vLG K ⟨true, f⟩)) := by
  refine (fo T.d_bad_lags sc_bad_lags (fun _ _ => rfl) (fun _ _ _ _ _ _ us hl => match us, hl with | [_, _, _, _], _ => rfl) ?_).fg T.g_bad_lags
  rintro cdv Ar outer s0 H0 E ⟨zo, zt, n, m⟩ G Q σ hr ⟨h1, h2, h3⟩ hs k
  refine s_set hs 4 (eg_call (g_left_of T) hr (by omega) (zo.betL n m, zt.betL n m) h1 (ag_cons (e_betL (z := zo) T hr (by omega) (eg_var (i := 0) rfl rfl) (eg_var (i := 2) rfl rfl) (eg_var (i := 3) rfl rfl)) (ag_cons (e_betL (z := zt) T hr (by omega) (eg_var (i := 1) rfl rfl) (eg_var (i := 2) rfl rfl) (eg_var (i := 3) rfl rfl)) ag_nil))) (fun σ H hs => ?_) sc_bad_lags.nd
  obtain ⟨f, ⟨f1, f2, f3, f4⟩, hs⟩ := hs.ex 4 rfl
  refine s_ret hs (eg_ifExp (P := vEx (BadF (zo.betL n m).f (zt.betL n m).f (zt.betL m n).f) (fun f => vLG K ⟨true, f⟩)) (t_has (l := zt.betL m n) (n := 0) T hr (by omega) h2 eg_int (e_betL (z := zt) T hr (by omega) (eg_var (i := 1) rfl rfl) (eg_var (i := 3) rfl rfl) (eg_var (i := 2) rfl rfl))) (fun h => ?_) (fun h => ?_)) k
  · refine eg_callE (g_left_of T) hr (by omega) (ag_cons (eg_var (P := vLG K ⟨true, f⟩) (i := 4) rfl rfl) (ag_cons (eg_Lags1 T hr (by omega) (eg_tup (ag_cons eg_int ag_nil))) ag_nil)) fun vs G q => ?_
    cases q with
    | cons q1 q => cases q with
      | cons q2 q =>
        cases q
        obtain ⟨g, hg, q2⟩ := q2
        have gs : g.s ≤ 1 := hg.2.1
        have gp : g.p = 1 := Nat.dvd_one.mp hg.2.2.1
        have hlpos : 0 < Nat.lcm (zo.betL n m).f.p (zt.betL n m).f.p := Nat.pos_of_ne_zero (Nat.lcm_ne_zero (by have := h1.a.pos; show (zo.betL n m).f.p ≠ 0; have h : 1 ≤ (zo.betL n m).f.p := this; omega) (by have := h1.b.pos; have h : 1 ≤ (zt.betL n m).f.p := this; show (zt.betL n m).f.p ≠ 0; omega))
        refine ⟨(⟨true, f⟩, ⟨false, g⟩), ⟨f1, hg.1, ?_⟩, .cons q1 (.cons q2 .nil), fun v G' z => ?_⟩
        · show max f.s g.s + Nat.lcm f.p g.p ≤ BL
          rw [gp, Nat.lcm_one_right]
          have := Nat.le_of_dvd hlpos f3
          have f2' : f.s ≤ max (zo.betL n m).f.s (zt.betL n m).f.s := f2
          have h3' : max (zo.betL n m).f.s (zt.betL n m).f.s + 1 + Nat.lcm (zo.betL n m).f.p (zt.betL n m).f.p ≤ BL := h3
          omega
        · obtain ⟨f5, ⟨k1, _, _, k4⟩, z⟩ := z
          refine ⟨f5, ⟨k1, fun j => ?_⟩, z⟩
          rw [k4 j]
          show (f.has j && !g.has j) = _
          rw [zero_has hg, f4 j]
          have h' : (zt.betL m n).f.has 0 = true := h
          rw [h', Bool.true_and]
  · refine (eg_var (P := vLG K ⟨true, f⟩) (i := 4) rfl rfl).to fun v G q => ⟨f, ⟨f1, fun j => ?_⟩, q⟩
    rw [f4 j]
    have h' : (zt.betL m n).f.has 0 = false := h
    rw [h']
    simp
end
end Ow
namespace Ow
open PySem PySem.Spec PyProof.Rows L2 He
/-! ### cases -/
abbrev Tk : Type := Str × Nat
def vTk (t : Tk) : VP := vX [vS t.1, vIn t.2]
def tkD (t : Tk) : PyData := .tuple [.int (t.2 : Nat), .str t.1]
def ordT (a b : Tk) : Tk × Tk := if PySem.W.dataLt (tkD a) (tkD b) then (a, b) else (b, a)
structure Case where
  num : Nat
  tasks : List Tk
def vCase (K : PySem.W.Frag) (c : Case) : VP := vT K [vIn c.num, vT K (c.tasks.map vTk)]
section
variable {X : Cx} {Γ : Cn} {Ω : Om} {pos : Pos} {e : Expr} {t : Tk}
theorem e_tk (i : Int) {P : VP} (h : atI [vS t.1, vIn t.2] i = some P) {b : Expr} (he : EG X Γ Ω e (vTk t)) (hb : EG X Γ Ω b (vI i)) (hs : PlainIx b := by exact fun _ _ => rfl) : EG X Γ Ω (.Subscript e b pos) P := gIxT h (he.to fun v G q => vX_T q) hb hs
end
section
variable {P : Program} {w : World} {K : PySem.W.Frag} {mg : Str → Option Value} {base : Heap}
theorem g_ordered (T : Txt K mg) : FG P w K mg base 1 "ordered" (fun _ : Tk × Tk => True) (fun y => [vTk y.1, vTk y.2]) (fun y => vT K [vTk (ordT y.1 y.2).1, vTk (ordT y.1 y.2).2]) := by
  refine (fo T.d_ordered sc_ordered (fun _ _ => rfl) (fun _ _ _ _ _ _ us hl => match us, hl with | [_, _], _ => rfl) ?_).fg T.g_ordered
  rintro cdv Ar outer s0 H0 E ⟨a, b⟩ G Q σ hr _ hs k
  refine s_ret hs (eg_ifExp (k := PySem.W.dataLt (tkD a) (tkD b)) (P := vT K [vTk (ordT a b).1, vTk (ordT a b).2]) (tg_cmp (op_ltD hr.units) (rg_ltD (d := tkD a) (e := tkD b) (dat_T (.cons dat_I (.cons dat_S .nil))) (dat_T (.cons dat_I (.cons dat_S .nil))) (by simp [tkD, PySem.W.alike, PySem.W.alikeAll]) (by simp [tkD]) (by simp [tkD, PyData.depth, PyData.depthAll])) (eg_tup (ag_cons (e_tk (t := a) 1 rfl (eg_var (i := 0) rfl rfl) eg_int) (ag_cons (e_tk (t := a) 0 rfl (eg_var (i := 0) rfl rfl) eg_int) ag_nil))) (eg_tup (ag_cons (e_tk (t := b) 1 rfl (eg_var (i := 1) rfl rfl) eg_int) (ag_cons (e_tk (t := b) 0 rfl (eg_var (i := 1) rfl rfl) eg_int) ag_nil))) (nomark _)) (fun h => (eg_tup (ag_cons (eg_var (i := 0) rfl rfl) (ag_cons (eg_var (i := 1) rfl rfl) ag_nil))).cast ?_) (fun h => (eg_tup (ag_cons (eg_var (i := 1) rfl rfl) (ag_cons (eg_var (i := 0) rfl rfl) ag_nil))).cast ?_)) k
  · unfold ordT; rw [if_pos h]; rfl
  · unfold ordT; rw [h, if_neg Bool.false_ne_true]; rfl
def vRank (K : PySem.W.Frag) (c : Case) : VP := vT K [vIn c.num, vIn c.tasks.length, vL (c.tasks.map fun t => vT K [vIn t.2, vS t.1])]
def rankD (c : Case) : PyData := .tuple [.int (c.num : Nat), .int (c.tasks.length : Nat), .list (c.tasks.map tkD)]
theorem dat_rank {c : Case} : Dat K (vRank K c) (rankD c) := dat_T (.cons dat_I (.cons dat_I (.cons (dat_L (dat_map (fun _ => dat_T (.cons dat_I (.cons dat_S .nil))) c.tasks)) .nil)))
theorem g_rank_of (T : Txt K mg) : FG P w K mg base 1 "rank_of" (fun c : Case => c.tasks.length ≤ 30) (fun c => [vCase K c]) (fun c => vRank K c) := by
  refine (fo T.d_rank_of sc_rank_of (fun _ _ => rfl) (fun _ _ _ _ _ _ us hl => match us, hl with | [_], _ => rfl) ?_).fg T.g_rank_of
  rintro cdv Ar outer s0 H0 E c G Q σ hr h30 hs k
  replace h30 : c.tasks.length ≤ 30 := h30
  refine s_asg hs (eg_var (i := 0) rfl rfl) (gt_tup (gts_cons (gt_name 1 sc_rank_of.nd) (gts_cons (gt_name 2 sc_rank_of.nd) gts_nil))) fun σ H hs => ?_
  refine s_ret hs ((eg_tup (ag_cons (eg_var (i := 1) rfl rfl) (ag_cons (eg_lenT T.f_len (eg_var (i := 2) rfl rfl)) (ag_cons (eg_lc n_rank_of (defScope s_rank_of) [("task", 3)] (t := fun _ : Tk => true) (R := fun t => vT K [vIn t.2, vS t.1]) (fun t => [some (vCase K c), some (vIn c.num), some (vT K (c.tasks.map vTk)), some (vTk t)]) [3] (ig_tup (xs := c.tasks) (F := vTk) (eg_var (i := 2) rfl rfl)) (sz_of h30)
    (fun _ _ _ _ _ q _ => gt_name 3 sc_rank_of.nd) (fun _ _ _ _ _ q _ => pts_yes) (fun _ _ _ _ _ t _ _ => eg_tup (ag_cons (e_tk (t := t) 1 rfl (eg_var (i := 3) rfl rfl) eg_int) (ag_cons (e_tk (t := t) 0 rfl (eg_var (i := 3) rfl rfl) eg_int) ag_nil))) sc_rank_of.nd) ag_nil)))).cast ?_) k
  rw [filter_true, List.length_map]
  rfl
end
end Ow
namespace Ow
open PySem PySem.Spec PyProof.Rows L2 He
/-! ### cases with one task -/
def Least (p : Nat → Bool) (m : Nat) : Prop := p m = true ∧ ∀ k, k < m → p k = false
theorem first_least {f : Fm} {B : Nat} (o : FmOk f B) {p : Nat → Bool} (h : ∀ k, f.has k = p k) : (∀ m, f.first = some m → Least p m) ∧ (f.first = none → ∀ k, p k = false) := by
  constructor
  · intro m hm
    obtain ⟨h1, h2, _⟩ := first_some o hm
    exact ⟨by rw [← h]; exact h1, fun k hk => by rw [← h]; exact h2 k hk⟩
  · intro hn k
    rw [← h]; exact first_none o hn k
theorem least_one {p : Nat → Bool} {m n : Nat} (h : Least p m) (h' : Least p n) : m = n := by
  rcases Nat.lt_trichotomy m n with z | z | z
  · have := h'.2 m z; rw [h.1] at this; cases this
  · exact z
  · have := h.2 n z; rw [h'.1] at this; cases this
def Sing (zo zt : OrdZ) (whole : Bool) (n : Str) (c : Case) : Prop := c.tasks = [(n, 1)] ∧ (if whole then n ∉ zt.known ∧ c.num = 1 else ∃ m, Least (fun k => (zo.outL n).f.has k && !(zt.outL n).f.has k) m ∧ c.num = m + 1)
structure OrdY where
  zo : OrdZ
  zt : OrdZ
  whole : Bool
structure OrdsOk (y : OrdY) : Prop where
  lo : y.zo.known.length ≤ 3
  out : ∀ n ∈ y.zo.known, LgOk (y.zo.outL n, y.zt.outL n)
  bad : ∀ n ∈ y.zo.known, ∀ m ∈ y.zo.known, BadOk ⟨y.zo, y.zt, n, m⟩
  sm : ∀ n ∈ y.zo.known, (y.zo.outL n).f.s + (y.zo.outL n).f.p ≤ 5000
structure SingAll (y : OrdY) (cs : List Case) : Prop where
  few : cs.length ≤ 3
  to : ∀ c ∈ cs, ∃ n ∈ y.zo.known, Sing y.zo y.zt y.whole n c
  of : ∀ n ∈ y.zo.known, ∀ c, Sing y.zo y.zt y.whole n c → c ∈ cs
  bd : ∀ c ∈ cs, c.num ≤ 4200000
section
variable {P : Program} {w : World} {K : PySem.W.Frag} {mg : Str → Option Value} {base : Heap}
theorem g_single_cases (T : Txt K mg) : FG P w K mg base 6 "single_cases" OrdsOk (fun y => [vOrd K y.zo, vOrd K y.zt, vB y.whole]) (fun y => vEx (SingAll y) (fun cs => vL (cs.map (vCase K)))) := by
  refine (fo T.d_single_cases sc_single_cases (fun _ _ => rfl) (fun _ _ _ _ _ _ us hl => match us, hl with | [_, _, _], _ => rfl) ?_).fg T.g_single_cases
  rintro cdv Ar outer s0 H0 E ⟨zo, zt, wh⟩ G Q σ hr ⟨h1, h2, h3, hsm⟩ hs k
  replace h1 : zo.known.length ≤ 3 := h1
  refine s_if hs (tg_val (eg_var (i := 2) rfl rfl)) (fun hw H hs => ?_) (fun hw H hs => wp_nil ?_)
  · have hw' : wh = true := hw
    subst hw'
    let cs : List Case := (zo.known.filter fun n => !decide (n ∈ zt.known)).map fun n => ⟨1, [(n, 1)]⟩
    refine s_ret hs ((eg_lc n_single_cases (defScope s_single_cases) [("name", 4)] (t := fun n => !decide (n ∈ zt.known)) (R := fun n => vCase K ⟨1, [(n, 1)]⟩) (fun n => [some (vOrd K zo), some (vOrd K zt), some (vB true), none, some (vS n), none]) [4] (ig_tup (xs := zo.known) (F := vS) (eg_fld (C := ga K "Orders") (eg_var (P := vOrd K zo) (i := 0) rfl rfl) T.c_Orders T.na_Orders_known rfl)) (sz_of (by omega))
      (fun _ _ _ _ _ q _ => gt_name 4 sc_single_cases.nd) (fun _ _ _ _ _ n _ => pts_if ((tNotInST (xs := zt.known) (eg_var (i := 4) rfl rfl) (eg_fld (C := ga K "Orders") (eg_var (P := vOrd K zt) (i := 1) rfl rfl) T.c_Orders T.na_Orders_known rfl)).cast (by rw [inS_iff]))) (fun _ _ _ _ _ n _ _ => eg_tup (ag_cons eg_int (ag_cons (eg_tup (ag_cons (eg_tupX (ag_cons (eg_var (i := 4) rfl rfl) (ag_cons eg_int ag_nil))) ag_nil)) ag_nil))) sc_single_cases.nd).to (P' := vEx (SingAll ⟨zo, zt, true⟩) (fun cs => vL (cs.map (vCase K)))) fun v G q => ⟨cs, ⟨?_, fun c hc => ?_, fun n hn c hc => ?_, fun c hc => ?_⟩, by show (vL (((zo.known.filter fun n => !decide (n ∈ zt.known)).map fun n => (⟨1, [(n, 1)]⟩ : Case)).map (vCase K))).p v G; rw [List.map_map]; exact q⟩) k
    · show ((zo.known.filter _).map _).length ≤ 3
      rw [List.length_map]
      have := List.length_filter_le (fun n => !decide (n ∈ zt.known)) zo.known
      omega
    · obtain ⟨n, hn, rfl⟩ := List.mem_map.mp hc
      obtain ⟨h4, h5⟩ := List.mem_filter.mp hn
      refine ⟨n, h4, rfl, ?_⟩
      show (if true = true then _ else _)
      rw [if_pos rfl]
      exact ⟨by simpa using h5, rfl⟩
    · obtain ⟨h4, h5⟩ := hc
      have h5' : n ∉ zt.known ∧ c.num = 1 := h5
      have e : c = ⟨1, [(n, 1)]⟩ := by cases c; simp_all
      rw [e]
      exact List.mem_map.mpr ⟨n, List.mem_filter.mpr ⟨hn, by simp [h5'.1]⟩, rfl⟩
    · obtain ⟨n, hn, rfl⟩ := List.mem_map.mp hc
      show 1 ≤ 4200000
      omega
  · have hw' : wh = false := hw
    subst hw'
    refine s_new hs 3 (ng_lst ag_nil) (fun fa σ H hs => ?_) sc_single_cases.nd
    refine s_for (γ := List Case) hs (ig_tup (xs := zo.known) (F := vS) (eg_fld (C := ga K "Orders") (eg_var (P := vOrd K zo) (i := 0) rfl rfl) T.c_Orders T.na_Orders_known rfl)) (fun _ _ => [some (vOrd K zo), some (vOrd K zt), some (vB false), some (vR fa), none, none]) (fun i y => [(fa, oL (y.map (vCase K)))])
      (fun i y => y.length ≤ i ∧ (∀ c ∈ y, (∃ n ∈ zo.known, Sing zo zt false n c) ∧ c.num ≤ 4200000) ∧ ∀ n ∈ zo.known.take i, ∀ c, Sing zo zt false n c → c ∈ y) (fun _ _ n => [some (vOrd K zo), some (vOrd K zt), some (vB false), some (vR fa), some (vS n), none]) [4] (fun G1 σ H h => ⟨[], ⟨Nat.le_refl _, fun c h => (by cases h), fun n h => (by simp at h)⟩, h⟩) (fun i _ x _ _ => gt_name 4 sc_single_cases.nd) ?_ ?_
    · rintro G1 gg i y n hx ⟨k1, k2, k3⟩ σ H hs
      have hn := List.mem_of_getElem? hx
      have hi := lt_of_some hx
      have tk : zo.known.take (i + 1) = zo.known.take i ++ [n] := by rw [List.take_add_one, hx]; rfl
      have hz := small30
      refine s_set hs 5 (eg_call (g_left_of T) hr (by omega) (zo.outL n, zt.outL n) (h2 n hn) (ag_cons (e_outL (z := zo) T hr (by omega) (eg_var (i := 0) rfl rfl) (eg_var (i := 4) rfl rfl)) (ag_cons (e_outL (z := zt) T hr (by omega) (eg_var (i := 1) rfl rfl) (eg_var (i := 4) rfl rfl)) ag_nil))) (fun σ H hs => ?_) sc_single_cases.nd
      obtain ⟨f, ⟨f1, f2, f3, f4⟩, hs⟩ := hs.ex 5 rfl
      replace f4 : ∀ k, f.has k = ((zo.outL n).f.has k && !(zt.outL n).f.has k) := f4
      obtain ⟨g1, g2⟩ := first_least f1 f4
      cases hf : f.first with
      | none =>
        refine s_skip hs (tg_notN (x := .non) ((eg_first (l := ⟨true, f⟩) T hr (by omega) f1 (eg_var (i := 5) rfl rfl)).cast (by show vOpt f.first = _; rw [hf]; rfl))) rfl fun H hs => wp_nil ⟨y, ⟨by omega, k2, fun m hm c hc => ?_⟩, (hs.drop 4).drop 5⟩
        rw [tk, List.mem_append, List.mem_singleton] at hm
        rcases hm with hm | rfl
        · exact k3 m hm c hc
        · obtain ⟨_, j, hj, _⟩ := hc
          have h5 := g2 hf j
          have h6 := hj.1
          exact absurd (h6.symm.trans h5) (by decide)
      | some m =>
        have he : ∀ {Γ : Cn} {Ω : Om} {e : Expr} {pos : Pos} {X : Cx}, True := fun {_ _ _ _ _} => trivial
        refine s_if hs (tg_notN (x := .int (m : Nat)) ((eg_first (l := ⟨true, f⟩) T hr (by omega) f1 (eg_var (i := 5) rfl rfl)).cast (by show vOpt f.first = _; rw [hf]; rfl))) (fun _ H hs => ?_) (fun h => by cases h)
        have ls := g1 m hf
        refine s_app (Ps := y.map (vCase K)) (P := vCase K ⟨m + 1, [(n, 1)]⟩) 0 hs rfl (by rw [List.length_map]; omega) (eg_var (i := 3) rfl rfl) (eg_tup (ag_cons ((gAdd (i := (m : Nat)) ((eg_first (l := ⟨true, f⟩) T hr (by omega) f1 (eg_var (i := 5) rfl rfl)).cast (by show vOpt f.first = _; rw [hf]; rfl)) eg_int).cast (by show vI ((m : Int) + 1) = vI ((m + 1 : Nat) : Int); congr 1)) (ag_cons (eg_tup (ag_cons (eg_tupX (ag_cons (eg_var (i := 4) rfl rfl) (ag_cons eg_int ag_nil))) ag_nil)) ag_nil))) fun H hs => ?_
        refine wp_nil (wp_nil ⟨y ++ [⟨m + 1, [(n, 1)]⟩], ⟨by rw [List.length_append]; show y.length + 1 ≤ i + 1; omega, fun c hc => ?_, fun q hq c hc => ?_⟩, ?_⟩)
        · rcases List.mem_append.mp hc with hc | hc
          · exact k2 c hc
          · rw [List.mem_singleton.mp hc]
            refine ⟨⟨n, hn, rfl, m, ls, rfl⟩, ?_⟩
            have b1 := (first_some f1 hf).2.2
            have b2 := f1.bd
            show m + 1 ≤ 4200000
            have b3 : BL = 4194304 := rfl
            omega
        · rw [tk, List.mem_append, List.mem_singleton] at hq
          rcases hq with hq | rfl
          · exact List.mem_append_left _ (k3 q hq c hc)
          · obtain ⟨e1, j, hj, e2⟩ := hc
            have := least_one hj ls
            subst this
            exact List.mem_append_right _ (by cases c; simp_all)
        · have hs2 := (hs.drop 4).drop 5
          have e : (y ++ [(⟨m + 1, [(n, 1)]⟩ : Case)]).map (vCase K) = y.map (vCase K) ++ [vCase K ⟨m + 1, [(n, 1)]⟩] := by rw [List.map_append]; rfl
          rw [e]; exact hs2
    · rintro y ⟨k1, k2, k3⟩ σ H hs
      rw [List.take_length] at k3
      exact s_ret (hs.pub 0 3 rfl rfl) (eg_var (i := 3) rfl rfl) fun v G' H' st q => k v G' H' st ⟨y, ⟨by show y.length ≤ 3; omega, fun c hc => (k2 c hc).1, k3, fun c hc => (k2 c hc).2⟩, q⟩
end
end Ow
namespace Ow
open PySem PySem.Spec PyProof.Rows L2 He
/-! ### cases with two tasks -/
def badP (zo zt : OrdZ) (n m : Str) (k : Nat) : Bool := (zo.betL n m).f.has k && !(zt.betL n m).f.has k && !((zt.betL m n).f.has 0 && decide (k = 0))
def LateIs (zo : OrdZ) (wh : Bool) (m : Str) (late : Nat) : Prop := if wh then late = 0 else Least (zo.outL m).f.has late
def pairC (n m : Str) (lag late : Nat) : Case := ⟨lag + 1 + late, [(ordT (n, 1) (m, lag + 1)).1, (ordT (n, 1) (m, lag + 1)).2]⟩
def PairIs (zo zt : OrdZ) (wh : Bool) (n m : Str) (c : Case) : Prop := ∃ late lag, LateIs zo wh m late ∧ Least (badP zo zt n m) lag ∧ c = pairC n m lag late
structure PairAll (y : OrdY) (cs : List Case) : Prop where
  few : cs.length ≤ 9
  to : ∀ c ∈ cs, ∃ n ∈ y.zo.known, ∃ m ∈ y.zo.known, PairIs y.zo y.zt y.whole n m c
  of : ∀ n ∈ y.zo.known, ∀ m ∈ y.zo.known, ∀ c, PairIs y.zo y.zt y.whole n m c → c ∈ cs
  bd : ∀ c ∈ cs, c.num ≤ 4200000
theorem late_one {zo : OrdZ} {wh : Bool} {m : Str} {a b : Nat} (h : LateIs zo wh m a) (h' : LateIs zo wh m b) : a = b := by
  unfold LateIs at h h'
  cases wh with
  | true => rw [if_pos rfl] at h h'; rw [h, h']
  | false => rw [if_neg Bool.false_ne_true] at h h'; exact least_one h h'
section
variable {P : Program} {w : World} {K : PySem.W.Frag} {mg : Str → Option Value} {base : Heap}
theorem eg_firstE {X : Cx} {Γ : Cn} {Ω : Om} {e : Expr} {pos : Pos} {φ : Fm → Prop} {k : Nat} (T : Txt X.K X.mg) (hr : Room k X.A) (hk : 4 ≤ k) (hφ : ∀ f, φ f → FmOk f BL) (he : EG X Γ Ω e (vEx φ fun f => vLG X.K ⟨true, f⟩)) (hb : attributeBase e "first" X.env (eval e X.env) = eval e X.env := by rfl) : EG X Γ Ω (.Attribute e "first" pos) (vEx φ fun f => vOpt f.first) := by
  obtain ⟨g, fd, ps, pp, ok, c, hp, hbd⟩ := (p_first (P := X.prog) (w := X.w) (base := X.base) T true).ex
  refine weak (pe_prop (E := E0) he c hp ok (hr.mono hk) hbd .nil pass0 hb) fun σ H Q ⟨G0, H0, s, k⟩ => ⟨G0, H0, s, fun v G H' g o ⟨f, hf, a, dx, vs, e1, ha, q⟩ => ⟨a, dx, _, e1, o.gh _ _ ha, ⟨true, f⟩, hφ f hf, G, o.gh, .cons ⟨a, dx, vs, rfl, ha, q⟩ .nil, fun v G' H' st q => k v G' H' (g.step st) (o.step st) ⟨f, hf, q⟩⟩⟩
def lateO (zo : OrdZ) (wh : Bool) (m : Str) : Option Nat := if wh then some 0 else (zo.outL m).f.first
theorem g_pair_cases (T : Txt K mg) : FG P w K mg base 7 "pair_cases" OrdsOk (fun y => [vOrd K y.zo, vOrd K y.zt, vB y.whole]) (fun y => vEx (PairAll y) (fun cs => vL (cs.map (vCase K)))) := by
  refine (fo T.d_pair_cases sc_pair_cases (fun _ _ => rfl) (fun _ _ _ _ _ _ us hl => match us, hl with | [_, _, _], _ => rfl) ?_).fg T.g_pair_cases
  rintro cdv Ar outer s0 H0 E ⟨zo, zt, wh⟩ G Q σ hr ⟨h1, h2, h3, hsm⟩ hs k
  replace h1 : zo.known.length ≤ 3 := h1
  have hz := small30
  refine s_new hs 3 (ng_lst ag_nil) (fun fa σ H hs => ?_) sc_pair_cases.nd
  refine s_for (γ := List Case) hs (ig_tup (xs := zo.known) (F := vS) (eg_fld (C := ga K "Orders") (eg_var (P := vOrd K zo) (i := 0) rfl rfl) T.c_Orders T.na_Orders_known rfl)) (fun _ _ => [some (vOrd K zo), some (vOrd K zt), some (vB wh), some (vR fa), none, none, none, none]) (fun i y => [(fa, oL (y.map (vCase K)))])
    (fun i y => y.length ≤ i * 3 ∧ (∀ c ∈ y, (∃ n ∈ zo.known, ∃ m ∈ zo.known, PairIs zo zt wh n m c) ∧ c.num ≤ 4200000) ∧ ∀ n ∈ zo.known.take i, ∀ m ∈ zo.known, ∀ c, PairIs zo zt wh n m c → c ∈ y) (fun _ _ n => [some (vOrd K zo), some (vOrd K zt), some (vB wh), some (vR fa), some (vS n), none, none, none]) [4] (fun G1 σ H h => ⟨[], ⟨Nat.le_refl _, fun c h => (by cases h), fun n h => (by simp at h)⟩, h⟩) (fun i _ x _ _ => gt_name 4 sc_pair_cases.nd) ?_ ?_
  · rintro G1 gg i y n hx ⟨k1, k2, k3⟩ σ H hs
    have hn := List.mem_of_getElem? hx
    have hi := lt_of_some hx
    have hi2 : i * 3 ≤ 6 := Nat.mul_le_mul_right 3 (show i ≤ 2 by omega)
    have tk : zo.known.take (i + 1) = zo.known.take i ++ [n] := by rw [List.take_add_one, hx]; rfl
    refine s_for (γ := List Case) hs (ig_tup (xs := zo.known) (F := vS) (eg_fld (C := ga K "Orders") (eg_var (P := vOrd K zo) (i := 0) rfl rfl) T.c_Orders T.na_Orders_known rfl)) (fun _ _ => [some (vOrd K zo), some (vOrd K zt), some (vB wh), some (vR fa), some (vS n), none, none, none]) (fun j y => [(fa, oL (y.map (vCase K)))])
      (fun j y => y.length ≤ i * 3 + j ∧ (∀ c ∈ y, (∃ n ∈ zo.known, ∃ m ∈ zo.known, PairIs zo zt wh n m c) ∧ c.num ≤ 4200000) ∧ (∀ n ∈ zo.known.take i, ∀ m ∈ zo.known, ∀ c, PairIs zo zt wh n m c → c ∈ y) ∧ ∀ m ∈ zo.known.take j, ∀ c, PairIs zo zt wh n m c → c ∈ y) (fun _ _ m => [some (vOrd K zo), some (vOrd K zt), some (vB wh), some (vR fa), some (vS n), some (vS m), none, none]) [5] (fun G1 σ H h => ⟨y, ⟨k1, k2, k3, fun m h => (by simp at h)⟩, h⟩) (fun i _ x _ _ => gt_name 5 sc_pair_cases.nd) ?_ ?_
    · rintro G2 gg2 j y m hxm ⟨l1, l2, l3, l4⟩ σ H hs
      have hm := List.mem_of_getElem? hxm
      have hj := lt_of_some hxm
      have tkm : zo.known.take (j + 1) = zo.known.take j ++ [m] := by rw [List.take_add_one, hxm]; rfl
      refine s_set hs 6 (eg_ifExp (P := vOpt (lateO zo wh m)) (tg_val (eg_var (i := 2) rfl rfl)) (fun h => eg_int.cast (by unfold lateO; rw [if_pos h]; rfl)) (fun h => (eg_first (l := zo.outL m) T hr (by omega) (h2 m hm).a (e_outL (z := zo) T hr (by omega) (eg_var (i := 0) rfl rfl) (eg_var (i := 5) rfl rfl))).cast (by unfold lateO; rw [h, if_neg Bool.false_ne_true]))) (fun σ H hs => ?_) sc_pair_cases.nd
      refine s_set hs 7 (eg_firstE (φ := BadF (zo.betL n m).f (zt.betL n m).f (zt.betL m n).f) T hr (by omega) (fun f h => h.1) (eg_call (g_bad_lags T) hr (by omega) ⟨zo, zt, n, m⟩ (h3 n hn m hm) (ag_cons (eg_var (i := 0) rfl rfl) (ag_cons (eg_var (i := 1) rfl rfl) (ag_cons (eg_var (i := 4) rfl rfl) (ag_cons (eg_var (i := 5) rfl rfl) ag_nil)))))) (fun σ H hs => ?_) sc_pair_cases.nd
      obtain ⟨f, ⟨f1, f4⟩, hs⟩ := hs.ex 7 rfl
      obtain ⟨g1, g2⟩ := first_least (p := badP zo zt n m) f1 f4
      have late_of : ∀ b, LateIs zo wh m b ↔ lateO zo wh m = some b := fun b => by
        unfold LateIs lateO
        cases wh with
        | true =>
          rw [if_pos rfl, if_pos rfl]
          exact ⟨fun h => by rw [h], fun h => (Option.some.inj h).symm⟩
        | false =>
          rw [if_neg Bool.false_ne_true, if_neg Bool.false_ne_true]
          obtain ⟨q1, q2⟩ := first_least (h2 m hm).a (p := (zo.outL m).f.has) (fun _ => rfl)
          constructor
          · intro h
            cases e : (zo.outL m).f.first with
            | none => exact absurd (h.1.symm.trans (q2 e b)) (by decide)
            | some c => rw [least_one (q1 c e) h]
          · intro h; exact q1 b h
      have keep : (∀ c, ¬ PairIs zo zt wh n m c) → ∀ m' ∈ zo.known.take (j + 1), ∀ c, PairIs zo zt wh n m' c → c ∈ y := fun hno m' hm' c hc => by
        rw [tkm, List.mem_append, List.mem_singleton] at hm'
        rcases hm' with hm' | rfl
        · exact l4 m' hm' c hc
        · exact absurd hc (hno c)
      cases hl : lateO zo wh m with
      | none =>
        refine s_skip hs ((wg_and (k := false) (m := false) ((tg_notN (x := .non) ((eg_var (i := 6) rfl rfl).cast (by rw [hl]; rfl)))) (fun h => by cases h)).tg) rfl fun H hs => wp_nil ⟨y, ⟨by omega, l2, l3, keep fun c ⟨late, lag, h, _⟩ => ?_⟩, ((hs.drop 5).drop 6).drop 7⟩
        rw [late_of, hl] at h; cases h
      | some late =>
        have hlate := (late_of late).mpr hl
        cases hf : f.first with
        | none =>
          refine s_skip hs ((wg_and (k := true) (m := false) ((tg_notN (x := .int (late : Nat)) ((eg_var (i := 6) rfl rfl).cast (by rw [hl]; rfl)))) (fun _ => wg_and1 (tg_notN (x := .non) ((eg_var (i := 7) rfl rfl).cast (by rw [hf]; rfl))))).tg) rfl fun H hs => wp_nil ⟨y, ⟨by omega, l2, l3, keep fun c ⟨late, lag, _, h, _⟩ => ?_⟩, ((hs.drop 5).drop 6).drop 7⟩
          exact absurd (h.1.symm.trans (g2 hf lag)) (by decide)
        | some lag =>
          have hlag := g1 lag hf
          refine s_if hs ((wg_and (k := true) (m := true) ((tg_notN (x := .int (late : Nat)) ((eg_var (i := 6) rfl rfl).cast (by rw [hl]; rfl)))) (fun _ => wg_and1 (tg_notN (x := .int (lag : Nat)) ((eg_var (i := 7) rfl rfl).cast (by rw [hf]; rfl))))).tg) (fun _ H hs => ?_) (fun h => by cases h)
          have v7 : vOpt f.first = vI (lag : Nat) := by rw [hf]; rfl
          have v6 : vOpt (lateO zo wh m) = vI (late : Nat) := by rw [hl]; rfl
          rw [v7, v6] at hs
          refine s_app (Ps := y.map (vCase K)) (P := vCase K (pairC n m lag late)) 0 hs rfl (by rw [List.length_map]; omega) (eg_var (i := 3) rfl rfl) (eg_tup (ag_cons ((gAdd (gAdd (eg_var (i := 7) rfl rfl) eg_int) (eg_var (i := 6) rfl rfl)).cast (P' := vIn (lag + 1 + late)) (by show vI ((lag : Int) + 1 + (late : Int)) = vI ((lag + 1 + late : Nat) : Int); congr 1)) (ag_cons (eg_call (g_ordered T) hr (by omega) ((n, 1), (m, lag + 1)) trivial (ag_cons (eg_tupX (ag_cons (eg_var (i := 4) rfl rfl) (ag_cons eg_int ag_nil))) (ag_cons (eg_tupX (ag_cons (eg_var (i := 5) rfl rfl) (ag_cons ((gAdd (eg_var (i := 7) rfl rfl) eg_int).cast (P' := vIn (lag + 1)) (by show vI ((lag : Int) + 1) = vI ((lag + 1 : Nat) : Int); congr 1)) ag_nil))) ag_nil))) ag_nil))) fun H hs => ?_
          refine wp_nil (wp_nil ⟨y ++ [pairC n m lag late], ⟨by rw [List.length_append]; show y.length + 1 ≤ _; omega, fun c hc => ?_, fun q hq m' hm' c hc => List.mem_append_left _ (l3 q hq m' hm' c hc), fun m' hm' c hc => ?_⟩, ?_⟩)
          · rcases List.mem_append.mp hc with hc | hc
            · exact l2 c hc
            · rw [List.mem_singleton.mp hc]
              refine ⟨⟨n, hn, m, hm, late, lag, hlate, hlag, rfl⟩, ?_⟩
              have b1 := (first_some f1 hf).2.2
              have b2 := f1.bd
              have b3 : BL = 4194304 := rfl
              have b4 : late ≤ 5000 := by
                unfold lateO at hl
                cases wh with
                | true =>
                  rw [if_pos rfl] at hl
                  have := Option.some.inj hl
                  omega
                | false =>
                  rw [if_neg Bool.false_ne_true] at hl
                  have z1 : late < (zo.outL m).f.s + (zo.outL m).f.p := (first_some (h2 m hm).a hl).2.2
                  have z2 : (zo.outL m).f.s + (zo.outL m).f.p ≤ 5000 := hsm m hm
                  omega
              show lag + 1 + late ≤ 4200000
              omega
          · rw [tkm, List.mem_append, List.mem_singleton] at hm'
            rcases hm' with hm' | rfl
            · exact List.mem_append_left _ (l4 m' hm' c hc)
            · obtain ⟨late', lag', e1, e2, e3⟩ := hc
              rw [e3, late_one e1 hlate, least_one e2 hlag]
              exact List.mem_append_right _ (List.mem_singleton.mpr rfl)
          · have hs2 := ((hs.drop 5).drop 6).drop 7
            have e : (y ++ [pairC n m lag late]).map (vCase K) = y.map (vCase K) ++ [vCase K (pairC n m lag late)] := by rw [List.map_append]; rfl
            rw [e]; exact hs2
    · rintro y ⟨l1, l2, l3, l4⟩ σ H hs
      rw [List.take_length] at l4
      refine wp_nil ⟨y, ⟨by rw [Nat.succ_mul]; omega, l2, fun q hq m hm c hc => ?_⟩, hs.drop 4⟩
      rw [tk, List.mem_append, List.mem_singleton] at hq
      rcases hq with hq | rfl
      · exact l3 q hq m hm c hc
      · exact l4 m hm c hc
  · rintro y ⟨k1, k2, k3⟩ σ H hs
    rw [List.take_length] at k3
    exact s_ret (hs.pub 0 3 rfl rfl) (eg_var (i := 3) rfl rfl) fun v G' H' st q => k v G' H' st ⟨y, ⟨by have := Nat.mul_le_mul_right 3 h1; show y.length ≤ 9; omega, fun c hc => (k2 c hc).1, k3, fun c hc => (k2 c hc).2⟩, q⟩
end
end Ow
namespace Ow
open PySem PySem.Spec PyProof.Rows L2 He
/-! ### ways -/
inductive Bw (l : Ln) (a : Str) : Str → Nat → Prop
  | via {s : Stn} {e : Ent} {d : Nat} : s ∈ l.sts → e ∈ l.ents s → Bw l a e.name d → Bw l a s.name (d + e.lag)
  | one {s : Stn} {e : Ent} : s ∈ l.sts → e ∈ l.ents s → e.place = false → e.name = a → Bw l a s.name e.lag
def Ew (l : Ln) (a b : Str) (d : Nat) : Prop := Bw l a b d ∨ (b = a ∧ d = 0)
/-- to the beginning, or to the end -/
def Wy (l : Ln) (pl : Bool) (a b : Str) (d : Nat) : Prop := if pl then Bw l a b d else Ew l a b d
theorem bw_mk {l : Ln} {a : Str} {s : Stn} {e : Ent} {d : Nat} (hs : s ∈ l.sts) (he : e ∈ l.ents s) (h : Wy l e.place a e.name d) : Bw l a s.name (d + e.lag) := by
  unfold Wy at h
  cases hp : e.place with
  | true => rw [hp, if_pos rfl] at h; exact .via hs he h
  | false =>
    rw [hp, if_neg Bool.false_ne_true] at h
    rcases h with h | ⟨h1, h2⟩
    · exact .via hs he h
    · subst h2
      rw [Nat.zero_add]
      exact .one hs he hp h1
theorem bw_inv {l : Ln} {a b : Str} {d : Nat} (h : Bw l a b d) : ∃ s ∈ l.sts, s.name = b ∧ ∃ e ∈ l.ents s, e.lag ≤ d ∧ Wy l e.place a e.name (d - e.lag) := by
  cases h with
  | @via s e d hs he h =>
    refine ⟨s, hs, rfl, e, he, Nat.le_add_left _ _, ?_⟩
    rw [Nat.add_sub_cancel]
    unfold Wy
    cases e.place with
    | true => rw [if_pos rfl]; exact h
    | false => rw [if_neg Bool.false_ne_true]; exact .inl h
  | @one s e hs he hp hn =>
    refine ⟨s, hs, rfl, e, he, Nat.le_refl _, ?_⟩
    rw [Nat.sub_self]
    unfold Wy
    rw [hp, if_neg Bool.false_ne_true]
    exact .inr ⟨hn, rfl⟩
theorem bw_name {l : Ln} {a b : Str} {d : Nat} (h : Bw l a b d) : b ∈ l.names := by
  obtain ⟨s, hs, rfl, _⟩ := bw_inv h
  exact List.mem_map_of_mem hs
/-! rows are ways -/
theorem take_len {α : Type} {rows : List α} {i : Nat} {r : α} (h : rows[i]? = some r) : (rows.take i).length = i := by
  have := lt_of_some h
  rw [List.length_take]; omega
theorem rows_ways {l : Ln} {st : Str} {rows : List Row} (hr : RowsOk l st rows) : ∀ i r, rows[i]? = some r → (∀ s, s ∈ r.2 ↔ Bw l st s i) ∧ ∀ s, s ∈ r.1 ↔ Ew l st s i := by
  intro i
  induction i using Nat.strongRecOn with
  | ind i ih =>
    intro r hi
    have N := hr i r hi
    have hl := take_len hi
    have nil : rows.take i = [] ↔ i = 0 := ⟨fun h => by rw [h] at hl; exact hl.symm, fun h => by subst h; rfl⟩
    have side_at : ∀ (e : Ent), e.lag ≠ 0 → e.lag ≤ i → ∀ s, s ∈ side ((rows.take i).getD ((rows.take i).length - e.lag) ([], [])) e.place ↔ Wy l e.place st s (i - e.lag) := by
      intro e h0 h1 s
      have hlt : i - e.lag < i := by omega
      have hil := lt_of_some hi
      have hx : rows[i - e.lag]? = some (rows[i - e.lag]'(by omega)) := List.getElem?_eq_getElem _
      have e1 : (rows.take i).getD ((rows.take i).length - e.lag) ([], []) = rows[i - e.lag]'(by omega) := by
        rw [hl, List.getD_eq_getElem?_getD, List.getElem?_take_of_lt hlt, hx]; rfl
      rw [e1]
      obtain ⟨h2, h3⟩ := ih _ hlt _ hx
      unfold side Wy
      cases e.place with
      | true => exact h2 s
      | false => exact h3 s
    have key : ∀ s, s ∈ r.2 ↔ Bw l st s i := by
      intro s
      constructor
      · refine fun hs => N.mn (fun s => Bw l st s i) (fun q hq ⟨e, he, h1, h2⟩ => ?_) s hs
        rw [hl] at h1
        by_cases h0 : e.lag = 0
        · rw [if_pos h0] at h2
          have : Wy l e.place st e.name i := by
            unfold Wy
            cases hp : e.place with
            | true => rw [hp, if_pos rfl] at h2; exact h2
            | false =>
              rw [hp, if_neg Bool.false_ne_true] at h2
              rcases h2 with h2 | ⟨h2, h3⟩
              · exact .inl h2
              · exact .inr ⟨h3, nil.mp h2⟩
          have := bw_mk hq he this
          rw [h0] at this; exact this
        · rw [if_neg h0] at h2
          have := bw_mk hq he ((side_at e h0 h1 e.name).mp h2)
          rw [Nat.sub_add_cancel h1] at this
          exact this
      · intro hb
        have gen : ∀ b d, Bw l st b d → d = i → b ∈ r.2 := by
          intro b d h
          induction h with
          | @via q e d hq he h ihd =>
            intro hd
            refine N.cl q hq ⟨e, he, by rw [hl]; omega, ?_⟩
            by_cases h0 : e.lag = 0
            · rw [if_pos h0]
              have := ihd (by omega)
              cases e.place with
              | true => rw [if_pos rfl]; exact this
              | false => rw [if_neg Bool.false_ne_true]; exact .inl this
            · rw [if_neg h0]
              refine (side_at e h0 (by omega) e.name).mpr ?_
              have hd' : i - e.lag = d := by omega
              rw [hd']
              unfold Wy
              cases e.place with
              | true => exact h
              | false => exact .inl h
          | @one q e hq he hp hn =>
            intro hd
            refine N.cl q hq ⟨e, he, by rw [hl]; omega, ?_⟩
            by_cases h0 : e.lag = 0
            · rw [if_pos h0, hp, if_neg Bool.false_ne_true]
              exact .inr ⟨nil.mpr (by omega), hn⟩
            · rw [if_neg h0]
              refine (side_at e h0 (by omega) e.name).mpr ?_
              have hd' : i - e.lag = 0 := by omega
              rw [hd', hp]
              exact .inr ⟨hn, rfl⟩
        exact gen s i hb rfl
    refine ⟨key, fun s => ?_⟩
    rw [N.e, key, nil]
    exact ⟨fun h => h.imp id fun ⟨a, b⟩ => ⟨b, a⟩, fun h => h.imp id fun ⟨a, b⟩ => ⟨b, a⟩⟩
theorem lag_le {l : Ln} {s : Stn} {e : Ent} (hs : s ∈ l.sts) (he : e ∈ l.ents s) : e.lag ≤ l.width := by
  have hm : e.lag ∈ l.sizes := by
    unfold Ln.ents at he
    unfold Ln.sizes
    rcases List.mem_append.mp he with he | he
    · refine List.mem_append_left _ ?_
      unfold Stn.own at he
      cases hh : s.hands with
      | none => rw [hh] at he; cases he
      | some h =>
        rw [hh] at he
        rw [List.mem_singleton.mp he]
        exact List.mem_filterMap.mpr ⟨s, hs, hh⟩
    · refine List.mem_append_right _ ?_
      unfold viaL at he
      obtain ⟨k, hk, rfl⟩ := List.mem_map.mp he
      exact List.mem_map_of_mem (List.mem_filter.mp hk).1
  exact (foldl_max l.sizes 1).1 _ hm
/-! they come again -/
section
variable {y : WalkY} {z : WalkZ}
theorem win_same (h : WalkIs y z) {m : Nat} (h1 : z.b ≤ m) (h2 : m < z.b + y.l.width) (pl : Bool) (s : Str) : Wy y.l pl y.start s m ↔ Wy y.l pl y.start s (m + (z.e - z.b)) := by
  have hw := width_pos y.l
  have hlt := h.lt
  have hlen := h.len
  obtain ⟨i, rfl⟩ := Nat.exists_eq_add_of_le h1
  have hi : i < y.l.width := by omega
  have e := congrArg (fun w => w[i]?) h.eq
  simp only [win_get hi] at e
  have e2 : z.b + i + (z.e - z.b) = z.e + i := by omega
  rw [e2]
  have g1 : z.rows[z.b + i]? = some (z.rows[z.b + i]'(by omega)) := List.getElem?_eq_getElem _
  have g2 : z.rows[z.e + i]? = some (z.rows[z.e + i]'(by omega)) := List.getElem?_eq_getElem _
  have r1 := rows_ways h.rows _ _ g1
  have r2 := rows_ways h.rows _ _ g2
  rw [g1, g2] at e
  have e3 := Option.some.inj e
  rw [e3] at r1
  unfold Wy
  cases pl with
  | true => rw [if_pos rfl, if_pos rfl]; exact (r1.1 s).symm.trans (r2.1 s)
  | false => rw [if_neg Bool.false_ne_true, if_neg Bool.false_ne_true]; exact (r1.2 s).symm.trans (r2.2 s)
theorem bw_fwd (h : WalkIs y z) {s : Str} {m : Nat} (hb : Bw y.l y.start s m) : z.b ≤ m → Bw y.l y.start s (m + (z.e - z.b)) := by
  have hlt := h.lt
  induction hb with
  | @via q e d hq he hb ih =>
    intro hm
    by_cases hw : d + e.lag < z.b + y.l.width
    · exact (win_same h hm hw true _).mp (.via hq he hb)
    · have := lag_le hq he
      have h2 := ih (by omega)
      have h3 := Bw.via hq he h2
      rwa [Nat.add_right_comm] at h3
  | @one q e hq he hp hn =>
    intro hm
    by_cases hw : e.lag < z.b + y.l.width
    · exact (win_same h hm hw true _).mp (.one hq he hp hn)
    · have := lag_le hq he
      have hw0 := width_pos y.l
      have h0 := (win_same h (m := 0) (by omega) (by omega) false e.name).mp (.inr ⟨hn, rfl⟩)
      rcases h0 with h0 | ⟨_, h0⟩
      · have h3 := Bw.via hq he h0
        rw [Nat.zero_add, Nat.add_comm] at h3
        exact h3
      · omega
theorem bw_bwd (h : WalkIs y z) {s : Str} {M : Nat} (hb : Bw y.l y.start s M) : z.e ≤ M → Bw y.l y.start s (M - (z.e - z.b)) := by
  have hlt := h.lt
  have back : ∀ {s : Str} {M : Nat}, Bw y.l y.start s M → z.e ≤ M → M < z.e + y.l.width → Bw y.l y.start s (M - (z.e - z.b)) := fun {s M} hb h1 h2 => by
    refine (win_same h (m := M - (z.e - z.b)) (by omega) (by omega) true s).mpr ?_
    have : M - (z.e - z.b) + (z.e - z.b) = M := by omega
    rw [this]; exact hb
  induction hb with
  | @via q e d hq he hb ih =>
    intro hm
    by_cases hw : d + e.lag < z.e + y.l.width
    · exact back (.via hq he hb) hm hw
    · have := lag_le hq he
      have h2 := ih (by omega)
      have h3 := Bw.via hq he h2
      have e3 : d - (z.e - z.b) + e.lag = d + e.lag - (z.e - z.b) := by omega
      rwa [e3] at h3
  | @one q e hq he hp hn =>
    intro hm
    have := lag_le hq he
    exact back (.one hq he hp hn) hm (by omega)
theorem wy_per (h : WalkIs y z) {m : Nat} (hm : z.b ≤ m) (pl : Bool) (s : Str) : Wy y.l pl y.start s m ↔ Wy y.l pl y.start s (m + (z.e - z.b)) := by
  have hlt := h.lt
  have hb : Bw y.l y.start s m ↔ Bw y.l y.start s (m + (z.e - z.b)) := by
    refine ⟨fun q => bw_fwd h q hm, fun q => ?_⟩
    have := bw_bwd h q (by omega)
    rwa [Nat.add_sub_cancel] at this
  unfold Wy
  cases pl with
  | true => exact hb
  | false =>
    rw [if_neg Bool.false_ne_true, if_neg Bool.false_ne_true]
    constructor
    · rintro (q | ⟨rfl, rfl⟩)
      · exact .inl (hb.mp q)
      · have hw0 := width_pos y.l
        exact (win_same h (m := 0) hm (by omega) false _).mp (.inr ⟨rfl, rfl⟩)
    · rintro (q | ⟨_, q⟩)
      · exact .inl (hb.mpr q)
      · omega
theorem wy_rest (h : WalkIs y z) {k : Nat} (hk : z.b ≤ k) (pl : Bool) (s : Str) : Wy y.l pl y.start s (z.b + (k - z.b) % (z.e - z.b)) ↔ Wy y.l pl y.start s k := by
  have hlt := h.lt
  have gen : ∀ n m, z.b ≤ m → (Wy y.l pl y.start s m ↔ Wy y.l pl y.start s (m + n * (z.e - z.b))) := by
    intro n
    induction n with
    | zero => intro m hm; rw [Nat.zero_mul, Nat.add_zero]
    | succ n ih =>
      intro m hm
      rw [ih m hm, wy_per h (m := m + n * (z.e - z.b)) (by omega), Nat.succ_mul, Nat.add_assoc]
  have := gen ((k - z.b) / (z.e - z.b)) (z.b + (k - z.b) % (z.e - z.b)) (by omega)
  rw [this]
  have e : z.b + (k - z.b) % (z.e - z.b) + (k - z.b) / (z.e - z.b) * (z.e - z.b) = k := by
    have := Nat.mod_add_div (k - z.b) (z.e - z.b)
    rw [Nat.mul_comm] at this
    omega
  rw [e]
theorem col_way (h : WalkIs y z) {m : Nat} (hm : m < z.rows.length) (pl : Bool) (s : Str) : colAt z s pl m = true ↔ Wy y.l pl y.start s m := by
  have g : z.rows[m]? = some z.rows[m] := List.getElem?_eq_getElem hm
  have r := rows_ways h.rows _ _ g
  unfold colAt
  rw [g]
  show decide (s ∈ side z.rows[m] pl) = true ↔ _
  rw [decide_eq_true_iff]
  unfold side Wy
  cases pl with
  | true => exact r.1 s
  | false => exact r.2 s
theorem lags_way (h : WalkIs y z) {s : Str} {pl : Bool} {f : Fm} (hf : LagsOf z s pl f) (k : Nat) : f.has k = true ↔ Wy y.l pl y.start s k := by
  have hlt := h.lt
  have hlen := h.len
  have hw := width_pos y.l
  rw [hf.2.2.2 k]
  by_cases hk : k < z.e
  · rw [if_pos hk]; exact col_way h (by omega) pl s
  · rw [if_neg hk, col_way h (by have := Nat.mod_lt (k - z.b) (show 0 < z.e - z.b by omega); omega)]
    exact wy_rest h (by omega) pl s
end
theorem out_way {l : Ln} {n : Str} {f : Fm} (h : OutF l n f) (k : Nat) : f.has k = true ↔ Ew l n l.out k := by
  obtain ⟨z, hz, hf⟩ := h
  exact lags_way hz hf k
theorem bet_way {l : Ln} {n o : Str} {f : Fm} (h : BetF l n o f) (k : Nat) : f.has k = true ↔ Bw l n o k := by
  obtain ⟨z, hz, hf⟩ := h
  exact lags_way hz hf k
end Ow
namespace Ow
open PySem PySem.Spec PyProof.Rows L2 He
/-! ### what hands on at once leads ahead -/
theorem ent_at {l : Ln} {s : Stn} {e : Ent} (hs : s ∈ l.sts) (he : e ∈ l.ents s) : (∃ h, s.hands = some h ∧ e = ⟨h, s.name, false⟩) ∨ ∃ kk ∈ l.lks, kk.dst = s.name ∧ e = kk.ent := by
  unfold Ln.ents at he
  rcases List.mem_append.mp he with he | he
  · unfold Stn.own at he
    cases hh : s.hands with
    | none => rw [hh] at he; cases he
    | some h => rw [hh] at he; exact .inl ⟨h, rfl, List.mem_singleton.mp he⟩
  · unfold viaL at he
    obtain ⟨k, hk, rfl⟩ := List.mem_map.mp he
    obtain ⟨h1, h2⟩ := List.mem_filter.mp hk
    exact .inr ⟨k, h1, of_decide_eq_true h2, rfl⟩
theorem bw_zero {l : Ln} (ok : LnOk l) {rk : Str → Nat} (hr : ∀ kk ∈ l.lks, kk.stock = 0 → rk kk.src < rk kk.dst) {a b : Str} {d : Nat} (h : Bw l a b d) : d = 0 → rk a < rk b := by
  have step : ∀ {s : Stn} {e : Ent}, s ∈ l.sts → e ∈ l.ents s → e.lag = 0 → rk e.name < rk s.name := fun {s e} hs he h0 => by
    rcases ent_at hs he with ⟨h, hh, rfl⟩ | ⟨kk, hk, hd, rfl⟩
    · have := ((ok.sts s hs).hands h hh).1
      have h0' : h = 0 := h0
      omega
    · rw [← hd]; exact hr kk hk h0
  induction h with
  | via hs he h ih =>
    intro h0
    exact Nat.lt_trans (ih (by omega)) (step hs he (by omega))
  | one hs he hp hn =>
    intro h0
    rw [← hn]; exact step hs he h0
theorem bw_irr {l : Ln} (ok : LnOk l) (ah : Ahead l) {a : Str} : ¬ Bw l a a 0 := fun h => by
  obtain ⟨rk, hr⟩ := ah
  exact Nat.lt_irrefl _ (bw_zero ok hr h rfl)
theorem bw_asym {l : Ln} (ok : LnOk l) (ah : Ahead l) {a b : Str} (h : Bw l a b 0) (k : Bw l b a 0) : False := by
  obtain ⟨rk, hr⟩ := ah
  have := bw_zero ok hr h rfl
  have := bw_zero ok hr k rfl
  omega
/-! ### values of plays -/
open Classical in
noncomputable def lv (p q : Prop) : Nat := if q then 2 else if p then 1 else 0
theorem lv_one {p q : Prop} (h : q → p) : 1 ≤ lv p q ↔ p := by
  unfold lv
  by_cases hq : q
  · rw [if_pos hq]; exact ⟨fun _ => h hq, fun _ => by decide⟩
  · rw [if_neg hq]
    by_cases hp : p
    · rw [if_pos hp]; exact ⟨fun _ => hp, fun _ => by decide⟩
    · rw [if_neg hp]; exact ⟨fun z => absurd z (by decide), fun z => absurd z hp⟩
theorem lv_two {p q : Prop} : 2 ≤ lv p q ↔ q := by
  unfold lv
  by_cases hq : q
  · rw [if_pos hq]; exact ⟨fun _ => hq, fun _ => Nat.le_refl _⟩
  · rw [if_neg hq]
    by_cases hp : p
    · rw [if_pos hp]; exact ⟨fun z => absurd z (by decide), fun z => absurd z hq⟩
    · rw [if_neg hp]; exact ⟨fun z => absurd z (by decide), fun z => absurd z hq⟩
theorem lv_le {p q : Prop} : lv p q ≤ 2 := by
  unfold lv
  split
  · exact Nat.le_refl _
  · split <;> decide
theorem lv_mono {p q p' q' : Prop} (h : q → p) (h' : q' → p') (h1 : p → p') (h2 : q → q') : lv p q ≤ lv p' q' := by
  have a1 := lv_one h
  have a2 := @lv_two p q
  have b1 := lv_one h'
  have b2 := @lv_two p' q'
  have c := @lv_le p q
  rcases Nat.lt_or_ge (lv p q) 1 with z | z
  · omega
  · rcases Nat.lt_or_ge (lv p q) 2 with y | y
    · have := b1.mpr (h1 (a1.mp z)); omega
    · have := b2.mpr (h2 (a2.mp y)); omega
theorem lv_congr {p q p' q' : Prop} (h1 : p ↔ p') (h2 : q ↔ q') : lv p q = lv p' q' := by rw [propext h1, propext h2]
/-- a task -/
def effT (l : Ln) (t : Tk) : Prop := t.1 ∈ l.clocked
def rchT (l : Ln) (pl : Bool) (t : Tk) (s : Str) (k : Nat) : Prop := t.2 ≤ k ∧ Wy l pl t.1 s (k - t.2)
def befT (l : Ln) (t u : Tk) : Prop := t.2 ≤ u.2 ∧ Bw l t.1 u.1 (u.2 - t.2)
def p1 (l : Ln) (T : List Tk) (pl : Bool) (s : Str) (k : Nat) : Prop := ∃ t ∈ T, effT l t ∧ rchT l pl t s k
def p2 (l : Ln) (T : List Tk) (pl : Bool) (s : Str) (k : Nat) : Prop := ∃ t ∈ T, ∃ u ∈ T, effT l t ∧ effT l u ∧ befT l t u ∧ rchT l pl u s k
noncomputable def valT (l : Ln) (T : List Tk) (pl : Bool) (s : Str) (k : Nat) : Nat := lv (p1 l T pl s k) (p2 l T pl s k)
theorem p2_p1 {l : Ln} {T : List Tk} {pl : Bool} {s : Str} {k : Nat} (h : p2 l T pl s k) : p1 l T pl s k := let ⟨_, _, u, hu, _, h2, _, h4⟩ := h; ⟨u, hu, h2, h4⟩
def takenF (T : List Tk) (s : Str) (k : Nat) : Nat := if (s, k) ∈ T then 1 else 0
def endsOf (B E : Str → Nat → Nat) (pl : Bool) : Str → Nat → Nat := if pl then B else E
/-- what a play of a line gives -/
structure Plays (l : Ln) (tk : Str → Nat → Nat) (B E : Str → Nat → Nat) : Prop where
  up : ∀ s ∈ l.sts, ∀ k, ∀ e ∈ l.ents s, e.lag < k → endsOf B E e.place e.name (k - e.lag) ≤ B s.name k
  att : ∀ s ∈ l.sts, ∀ k, B s.name k = 0 ∨ ∃ e ∈ l.ents s, e.lag < k ∧ B s.name k = endsOf B E e.place e.name (k - e.lag)
  tim : ∀ s ∈ l.sts, ∀ k, E s.name k = B s.name k + if s.timed then tk s.name k else 0
theorem sts_one {l : Ln} (ok : LnOk l) {s q : Stn} (hs : s ∈ l.sts) (hq : q ∈ l.sts) (h : s.name = q.name) : s = q := by
  have nd := ok.nd
  unfold Ln.names List.Nodup at nd
  rw [List.pairwise_map] at nd
  obtain ⟨i, hi⟩ := List.mem_iff_getElem?.mp hs
  obtain ⟨j, hj⟩ := List.mem_iff_getElem?.mp hq
  have := List.pairwise_iff_getElem.mp nd
  obtain ⟨li, ei⟩ := List.getElem?_eq_some_iff.mp hi
  obtain ⟨lj, ej⟩ := List.getElem?_eq_some_iff.mp hj
  rcases Nat.lt_trichotomy i j with z | z | z
  · exact absurd (by rw [ei, ej]; exact h) (this i j li lj z)
  · subst z; rw [← ei, ej]
  · exact absurd (by rw [ei, ej]; exact h.symm) (this j i lj li z)
theorem clock_iff {l : Ln} (ok : LnOk l) {s : Stn} (hs : s ∈ l.sts) : s.name ∈ l.clocked ↔ s.timed = true := by
  unfold Ln.clocked
  constructor
  · intro h
    obtain ⟨q, hq, e⟩ := List.mem_map.mp h
    obtain ⟨h1, h2⟩ := List.mem_filter.mp hq
    rw [← sts_one ok h1 hs e]; exact h2
  · intro h
    exact List.mem_map.mpr ⟨s, List.mem_filter.mpr ⟨hs, h⟩, rfl⟩
/-- what reaches a beginning comes through one of its entries -/
theorem rch_bw {l : Ln} (ok : LnOk l) {t : Tk} (h1 : 1 ≤ t.2) {s : Stn} (hs : s ∈ l.sts) {k : Nat} : rchT l true t s.name k ↔ ∃ e ∈ l.ents s, e.lag < k ∧ rchT l e.place t e.name (k - e.lag) := by
  constructor
  · rintro ⟨h2, h3⟩
    have h3' : Bw l t.1 s.name (k - t.2) := h3
    obtain ⟨q, hq, hn, e, he, hl, hw⟩ := bw_inv h3'
    have := sts_one ok hq hs hn
    subst this
    refine ⟨e, he, by omega, by omega, ?_⟩
    have : k - e.lag - t.2 = k - t.2 - e.lag := by omega
    rw [this]; exact hw
  · rintro ⟨e, he, hl, h2, hw⟩
    refine ⟨by omega, ?_⟩
    have := bw_mk hs he hw
    have e2 : k - e.lag - t.2 + e.lag = k - t.2 := by omega
    rw [e2] at this
    exact this
theorem rch_ew {l : Ln} {t : Tk} {s : Str} {k : Nat} : rchT l false t s k ↔ rchT l true t s k ∨ t = (s, k) := by
  unfold rchT
  constructor
  · rintro ⟨h1, h2 | ⟨h2, h3⟩⟩
    · exact .inl ⟨h1, h2⟩
    · refine .inr (Prod.ext h2.symm (by show t.2 = k; omega))
  · rintro (⟨h1, h2⟩ | rfl)
    · exact ⟨h1, .inl h2⟩
    · exact ⟨Nat.le_refl _, .inr ⟨rfl, Nat.sub_self _⟩⟩
theorem val_one {l : Ln} {T : List Tk} {pl : Bool} {s : Str} {k : Nat} : 1 ≤ valT l T pl s k ↔ p1 l T pl s k := lv_one p2_p1
theorem val_two {l : Ln} {T : List Tk} {pl : Bool} {s : Str} {k : Nat} : 2 ≤ valT l T pl s k ↔ p2 l T pl s k := lv_two
theorem two_of {T : List Tk} (hT : T.length ≤ 2) {x t u : Tk} (hx : x ∈ T) (ht : t ∈ T) (hu : u ∈ T) (h : t ≠ u) : x = t ∨ x = u := by
  match T, hT with
  | [], _ => cases hx
  | [a], _ => simp only [List.mem_singleton] at ht hu; exact absurd (ht.trans hu.symm) h
  | [a, b], _ =>
    simp only [List.mem_cons, List.not_mem_nil, or_false] at hx ht hu
    rcases ht with rfl | rfl <;> rcases hu with rfl | rfl
    · exact absurd rfl h
    · exact hx
    · exact hx.symm
    · exact absurd rfl h
  | a :: b :: c :: T, h3 => simp at h3
theorem plays_val {l : Ln} (ok : LnOk l) (ah : Ahead l) {T : List Tk} (hT : T.length ≤ 2) (h1 : ∀ t ∈ T, 1 ≤ t.2) : Plays l (takenF T) (valT l T true) (valT l T false) := by
  have eo : ∀ pl, endsOf (valT l T true) (valT l T false) pl = valT l T pl := fun pl => by cases pl <;> rfl
  have q1 : ∀ s ∈ l.sts, ∀ k, p1 l T true s.name k ↔ ∃ e ∈ l.ents s, e.lag < k ∧ p1 l T e.place e.name (k - e.lag) := fun s hs k => by
    constructor
    · rintro ⟨t, ht, h2, h3⟩
      obtain ⟨e, he, hl, h4⟩ := (rch_bw ok (h1 t ht) hs).mp h3
      exact ⟨e, he, hl, t, ht, h2, h4⟩
    · rintro ⟨e, he, hl, t, ht, h2, h4⟩
      exact ⟨t, ht, h2, (rch_bw ok (h1 t ht) hs).mpr ⟨e, he, hl, h4⟩⟩
  have q2 : ∀ s ∈ l.sts, ∀ k, p2 l T true s.name k ↔ ∃ e ∈ l.ents s, e.lag < k ∧ p2 l T e.place e.name (k - e.lag) := fun s hs k => by
    constructor
    · rintro ⟨t, ht, u, hu, h2, h3, h4, h5⟩
      obtain ⟨e, he, hl, h6⟩ := (rch_bw ok (h1 u hu) hs).mp h5
      exact ⟨e, he, hl, t, ht, u, hu, h2, h3, h4, h6⟩
    · rintro ⟨e, he, hl, t, ht, u, hu, h2, h3, h4, h6⟩
      exact ⟨t, ht, u, hu, h2, h3, h4, (rch_bw ok (h1 u hu) hs).mpr ⟨e, he, hl, h6⟩⟩
  have up : ∀ s ∈ l.sts, ∀ k, ∀ e ∈ l.ents s, e.lag < k → valT l T e.place e.name (k - e.lag) ≤ valT l T true s.name k := fun s hs k e he hl =>
    lv_mono p2_p1 p2_p1 (fun h => (q1 s hs k).mpr ⟨e, he, hl, h⟩) (fun h => (q2 s hs k).mpr ⟨e, he, hl, h⟩)
  refine ⟨fun s hs k e he hl => by rw [eo]; exact up s hs k e he hl, fun s hs k => ?_, fun s hs k => ?_⟩
  · have a1 := @val_one l T true s.name k
    have a2 := @val_two l T true s.name k
    have c : valT l T true s.name k ≤ 2 := lv_le
    rcases Nat.lt_or_ge (valT l T true s.name k) 1 with z | z
    · exact .inl (by omega)
    · right
      rcases Nat.lt_or_ge (valT l T true s.name k) 2 with w | w
      · obtain ⟨e, he, hl, h⟩ := (q1 s hs k).mp (a1.mp z)
        refine ⟨e, he, hl, ?_⟩
        rw [eo]
        have := up s hs k e he hl
        have := val_one.mpr h
        omega
      · obtain ⟨e, he, hl, h⟩ := (q2 s hs k).mp (a2.mp w)
        refine ⟨e, he, hl, ?_⟩
        rw [eo]
        have := up s hs k e he hl
        have := val_two.mpr h
        omega
  · by_cases hx : s.timed = true ∧ (s.name, k) ∈ T
    · obtain ⟨hx1, hx2⟩ := hx
      have ef : effT l (s.name, k) := (clock_iff ok hs).mpr hx1
      rw [if_pos hx1]
      unfold takenF
      rw [if_pos hx2]
      have n2 : ¬ p2 l T true s.name k := by
        rintro ⟨t, ht, u, hu, e1, e2, ⟨b1, b2⟩, ⟨r1, r2⟩⟩
        have r2' : Bw l u.1 s.name (k - u.2) := r2
        have hne : t ≠ u := fun h => by
          subst h
          rw [Nat.sub_self] at b2
          exact bw_irr ok ah b2
        rcases two_of hT hx2 ht hu hne with h | h
        · subst h
          have b1' : k ≤ u.2 := b1
          have e3 : u.2 = k := by omega
          have b2' : Bw l s.name u.1 (u.2 - k) := b2
          rw [e3, Nat.sub_self] at b2' r2'
          exact bw_asym ok ah b2' r2'
        · subst h
          have r2'' : Bw l s.name s.name (k - k) := r2'
          rw [Nat.sub_self] at r2''
          exact bw_irr ok ah r2''
      have e1 : p1 l T false s.name k := ⟨(s.name, k), hx2, ef, rch_ew.mpr (.inr rfl)⟩
      have e2 : p2 l T false s.name k ↔ p1 l T true s.name k := by
        constructor
        · rintro ⟨t, ht, u, hu, e1, e2, b, r⟩
          rcases rch_ew.mp r with r | r
          · exact absurd ⟨t, ht, u, hu, e1, e2, b, r⟩ n2
          · subst r
            exact ⟨t, ht, e1, b⟩
        · rintro ⟨t, ht, e1, r⟩
          exact ⟨t, ht, (s.name, k), hx2, e1, ef, r, rch_ew.mpr (.inr rfl)⟩
      show lv _ _ = lv _ _ + 1
      rw [lv_congr (iff_true_intro e1) e2, lv_congr Iff.rfl (iff_false_intro n2)]
      unfold lv
      by_cases h : p1 l T true s.name k
      · simp [h]
      · simp [h]
    · have z : (if s.timed = true then takenF T s.name k else 0) = 0 := by
        by_cases h : s.timed = true
        · rw [if_pos h]; unfold takenF; exact if_neg fun h2 => hx ⟨h, h2⟩
        · exact if_neg h
      rw [z, Nat.add_zero]
      have no : ∀ t ∈ T, effT l t → t ≠ (s.name, k) := fun t ht he e => by
        subst e
        exact hx ⟨(clock_iff ok hs).mp he, ht⟩
      refine lv_congr ⟨fun ⟨t, ht, he, r⟩ => ⟨t, ht, he, (rch_ew.mp r).resolve_right (no t ht he)⟩, fun ⟨t, ht, he, r⟩ => ⟨t, ht, he, rch_ew.mpr (.inl r)⟩⟩ ⟨fun ⟨t, ht, u, hu, e1, e2, b, r⟩ => ⟨t, ht, u, hu, e1, e2, b, (rch_ew.mp r).resolve_right (no u hu e2)⟩, fun ⟨t, ht, u, hu, e1, e2, b, r⟩ => ⟨t, ht, u, hu, e1, e2, b, rch_ew.mpr (.inl r)⟩⟩
/-! ### ends of plays -/
def q1 (l : Ln) (T : List Tk) (wide : Bool) (n : Nat) : Prop := ∃ t ∈ T, effT l t ∧ if wide then t.2 ≤ n else rchT l false t l.out n
def q2 (l : Ln) (T : List Tk) (wide : Bool) (n : Nat) : Prop := ∃ t ∈ T, ∃ u ∈ T, effT l t ∧ effT l u ∧ befT l t u ∧ if wide then u.2 ≤ n else rchT l false u l.out n
noncomputable def endV (l : Ln) (T : List Tk) (wide : Bool) (n : Nat) : Nat := lv (q1 l T wide n) (q2 l T wide n)
theorem q2_q1 {l : Ln} {T : List Tk} {wide : Bool} {n : Nat} (h : q2 l T wide n) : q1 l T wide n := let ⟨_, _, u, hu, _, h2, _, h4⟩ := h; ⟨u, hu, h2, h4⟩
theorem end_out {l : Ln} {T : List Tk} {n : Nat} : endV l T false n = valT l T false l.out n := rfl
theorem clock_name {l : Ln} {s : Str} (h : s ∈ l.clocked) : s ∈ l.names := by
  obtain ⟨q, hq, rfl⟩ := List.mem_map.mp h
  exact List.mem_map_of_mem (List.mem_filter.mp hq).1
/-- the whole end is the greatest of all ends -/
theorem end_all {l : Ln} {T : List Tk} (h1 : ∀ t ∈ T, 1 ≤ t.2) {n : Nat} : (∀ s k, k ≤ n → valT l T false s k ≤ endV l T true n) ∧ (endV l T true n = 0 ∨ ∃ s ∈ l.names, ∃ k, 1 ≤ k ∧ k ≤ n ∧ valT l T false s k = endV l T true n) := by
  have up : ∀ s k, k ≤ n → valT l T false s k ≤ endV l T true n := fun s k hk => lv_mono p2_p1 q2_q1 (fun ⟨t, ht, he, r⟩ => ⟨t, ht, he, Nat.le_trans r.1 hk⟩) (fun ⟨t, ht, u, hu, e1, e2, b, r⟩ => ⟨t, ht, u, hu, e1, e2, b, Nat.le_trans r.1 hk⟩)
  refine ⟨up, ?_⟩
  have a1 : 1 ≤ endV l T true n ↔ q1 l T true n := lv_one q2_q1
  have a2 : 2 ≤ endV l T true n ↔ q2 l T true n := lv_two
  have c : endV l T true n ≤ 2 := lv_le
  rcases Nat.lt_or_ge (endV l T true n) 1 with z | z
  · exact .inl (by omega)
  · right
    rcases Nat.lt_or_ge (endV l T true n) 2 with w | w
    · obtain ⟨t, ht, he, hk⟩ := a1.mp z
      have hk' : t.2 ≤ n := hk
      refine ⟨t.1, clock_name he, t.2, h1 t ht, hk', ?_⟩
      have := up t.1 t.2 hk'
      have := (val_one (l := l) (T := T) (pl := false) (s := t.1) (k := t.2)).mpr ⟨t, ht, he, rch_ew.mpr (.inr rfl)⟩
      omega
    · obtain ⟨t, ht, u, hu, e1, e2, b, hk⟩ := a2.mp w
      have hk' : u.2 ≤ n := hk
      refine ⟨u.1, clock_name e2, u.2, h1 u hu, hk', ?_⟩
      have := up u.1 u.2 hk'
      have := (val_two (l := l) (T := T) (pl := false) (s := u.1) (k := u.2)).mpr ⟨t, ht, u, hu, e1, e2, b, rch_ew.mpr (.inr rfl)⟩
      omega
end Ow
namespace Ow
open PySem PySem.Spec PyProof.Rows L2 He
/-! ### the order of cases -/
abbrev sLt (a b : Str) : Prop := a.cps.toList < b.cps.toList
def tkLt (a b : Tk) : Prop := a.2 < b.2 ∨ (a.2 = b.2 ∧ sLt a.1 b.1)
def tksLt : List Tk → List Tk → Prop
  | a :: as, b :: bs => tkLt a b ∨ (a = b ∧ tksLt as bs)
  | _, _ => False
def rankLt (c d : Case) : Prop := c.num < d.num ∨ (c.num = d.num ∧ (c.tasks.length < d.tasks.length ∨ (c.tasks.length = d.tasks.length ∧ tksLt c.tasks d.tasks)))
theorem sLt_irr {a : Str} : ¬ sLt a a := List.lt_irrefl _
theorem sLt_trans {a b c : Str} (h : sLt a b) (k : sLt b c) : sLt a c := List.lt_trans h k
theorem sLt_tri (a b : Str) : sLt a b ∨ a = b ∨ sLt b a := by
  by_cases h : sLt a b
  · exact .inl h
  · by_cases k : sLt b a
    · exact .inr (.inr k)
    · refine .inr (.inl (sle_anti ?_ ?_))
      · exact List.not_lt.mp k
      · exact List.not_lt.mp h
theorem tkLt_irr {a : Tk} : ¬ tkLt a a := by
  rintro (h | ⟨_, h⟩)
  · exact Nat.lt_irrefl _ h
  · exact sLt_irr h
theorem tkLt_trans {a b c : Tk} (h : tkLt a b) (k : tkLt b c) : tkLt a c := by
  rcases h with h | ⟨h1, h2⟩ <;> rcases k with k | ⟨k1, k2⟩
  · exact .inl (Nat.lt_trans h k)
  · exact .inl (k1 ▸ h)
  · exact .inl (h1 ▸ k)
  · exact .inr ⟨h1.trans k1, sLt_trans h2 k2⟩
theorem tkLt_tri (a b : Tk) : tkLt a b ∨ a = b ∨ tkLt b a := by
  rcases Nat.lt_trichotomy a.2 b.2 with h | h | h
  · exact .inl (.inl h)
  · rcases sLt_tri a.1 b.1 with k | k | k
    · exact .inl (.inr ⟨h, k⟩)
    · exact .inr (.inl (Prod.ext k h))
    · exact .inr (.inr (.inr ⟨h.symm, k⟩))
  · exact .inr (.inr (.inl h))
theorem tksLt_irr : ∀ {a : List Tk}, ¬ tksLt a a
  | [], h => h
  | a :: as, h => by
    rcases h with h | ⟨_, h⟩
    · exact tkLt_irr h
    · exact tksLt_irr h
theorem tksLt_trans : ∀ {a b c : List Tk}, tksLt a b → tksLt b c → tksLt a c
  | [], _, _, h, _ => h.elim
  | _ :: _, [], _, h, _ => h.elim
  | _ :: _, _ :: _, [], _, k => k.elim
  | a :: as, b :: bs, c :: cs, h, k => by
    rcases h with h | ⟨h1, h2⟩ <;> rcases k with k | ⟨k1, k2⟩
    · exact .inl (tkLt_trans h k)
    · exact .inl (k1 ▸ h)
    · exact .inl (h1 ▸ k)
    · exact .inr ⟨h1.trans k1, tksLt_trans h2 k2⟩
theorem tksLt_tri : ∀ {a b : List Tk}, a.length = b.length → tksLt a b ∨ a = b ∨ tksLt b a
  | [], [], _ => .inr (.inl rfl)
  | [], _ :: _, h => by cases h
  | _ :: _, [], h => by cases h
  | a :: as, b :: bs, h => by
    rcases tkLt_tri a b with k | k | k
    · exact .inl (.inl k)
    · subst k
      rcases tksLt_tri (a := as) (b := bs) (by simpa using h) with j | j | j
      · exact .inl (.inr ⟨rfl, j⟩)
      · exact .inr (.inl (by rw [j]))
      · exact .inr (.inr (.inr ⟨rfl, j⟩))
    · exact .inr (.inr (.inl k))
theorem rank_trans {a b c : Case} (h : rankLt a b) (k : rankLt b c) : rankLt a c := by
  rcases h with h | ⟨h1, h⟩ <;> rcases k with k | ⟨k1, k⟩
  · exact .inl (Nat.lt_trans h k)
  · exact .inl (k1 ▸ h)
  · exact .inl (h1 ▸ k)
  · refine .inr ⟨h1.trans k1, ?_⟩
    rcases h with h | ⟨h2, h⟩ <;> rcases k with k | ⟨k2, k⟩
    · exact .inl (Nat.lt_trans h k)
    · exact .inl (k2 ▸ h)
    · exact .inl (h2 ▸ k)
    · exact .inr ⟨h2.trans k2, tksLt_trans h k⟩
theorem rank_irr {a : Case} : ¬ rankLt a a := by
  rintro (h | ⟨_, h | ⟨_, h⟩⟩)
  · exact Nat.lt_irrefl _ h
  · exact Nat.lt_irrefl _ h
  · exact tksLt_irr h
theorem rank_tri (a b : Case) : rankLt a b ∨ a = b ∨ rankLt b a := by
  rcases Nat.lt_trichotomy a.num b.num with h | h | h
  · exact .inl (.inl h)
  · rcases Nat.lt_trichotomy a.tasks.length b.tasks.length with k | k | k
    · exact .inl (.inr ⟨h, .inl k⟩)
    · rcases tksLt_tri k with j | j | j
      · exact .inl (.inr ⟨h, .inr ⟨k, j⟩⟩)
      · refine .inr (.inl ?_)
        cases a; cases b; simp_all
      · exact .inr (.inr (.inr ⟨h.symm, .inr ⟨k.symm, j⟩⟩))
    · exact .inr (.inr (.inr ⟨h.symm, .inl k⟩))
  · exact .inr (.inr (.inl h))
/-! as data -/
theorem lt_tkD (a b : Tk) : PySem.W.dataLt (tkD a) (tkD b) = true ↔ tkLt a b := by
  unfold tkD tkLt
  rw [PySem.W.dataLt_pair rfl rfl, PySem.W.dataLt_int, PySem.W.dataLt_str]
  have e1 : PyData.eqv (.int (a.2 : Nat)) (.int (b.2 : Nat)) = decide (a.2 = b.2) := by
    show decide (((a.2 : Nat) : Int) = ((b.2 : Nat) : Int)) = _
    rw [Bool.eq_iff_iff, decide_eq_true_iff, decide_eq_true_iff]; omega
  have e2 : PyData.eqv (.str a.1) (.str b.1) = decide (a.1 = b.1) := rfl
  rw [e1, e2]
  by_cases h : a.2 = b.2
  · rw [if_pos (decide_eq_true h)]
    by_cases k : a.1 = b.1
    · rw [if_pos (decide_eq_true k)]
      constructor
      · intro z; cases z
      · rintro (z | ⟨_, z⟩)
        · omega
        · rw [k] at z; exact absurd z sLt_irr
    · rw [if_neg (by simp [k]), decide_eq_true_iff]
      exact ⟨fun z => .inr ⟨h, z⟩, fun z => z.elim (fun z => by omega) fun z => z.2⟩
  · rw [if_neg (by simp [h]), decide_eq_true_iff]
    exact ⟨fun z => .inl (by omega), fun z => z.elim (fun z => by omega) fun z => absurd z.1 h⟩
theorem ordT_of (a b : Tk) : (tkLt a b ∧ ordT a b = (a, b)) ∨ (¬ tkLt a b ∧ ordT a b = (b, a)) := by
  unfold ordT
  by_cases h : tkLt a b
  · rw [if_pos ((lt_tkD a b).mpr h)]; exact .inl ⟨h, rfl⟩
  · rw [if_neg fun z => h ((lt_tkD a b).mp z)]; exact .inr ⟨h, rfl⟩
/-! ### cases that are later -/
structure Valid (l : Ln) (c : Case) : Prop where
  pos : 1 ≤ c.num
  t : ∀ t ∈ c.tasks, effT l t ∧ 1 ≤ t.2 ∧ t.2 ≤ c.num
  sh : (∃ t, c.tasks = [t]) ∨ ∃ t u, c.tasks = [t, u] ∧ tkLt t u
def LaterC (l m : Ln) (wide : Bool) (c : Case) : Prop := endV m c.tasks wide c.num < endV l c.tasks wide c.num
theorem memT {l : Ln} {z : OrdZ} (h : OrdIs l z) (n : Str) : n ∈ z.known ↔ n ∈ l.clocked := h.srt.1.mem_iff
theorem none_has {z : OrdZ} {l : Ln} (h : OrdIs l z) (k : Nat) : z.none.has k = false := by
  obtain ⟨_, _, _, h4⟩ := h.none
  rw [h4]
  have e : ∀ j, (flagsOf [] (0 + 1)).getD j false = false := fun j => by cases j <;> rfl
  unfold flagAt
  split
  · exact e _
  · exact e _
theorem outL_way {l : Ln} {z : OrdZ} (h : OrdIs l z) (n : Str) (k : Nat) : (z.outL n).f.has k = true ↔ n ∈ l.clocked ∧ Ew l n l.out k := by
  rw [← memT h]
  unfold OrdZ.outL
  by_cases hn : n ∈ z.known
  · obtain ⟨f, h1, h2⟩ := (h.out n).1 hn
    rw [h1]
    exact ⟨fun q => ⟨hn, (out_way h2 k).mp q⟩, fun q => (out_way h2 k).mpr q.2⟩
  · rw [(h.out n).2 hn]
    show z.none.has k = true ↔ _
    rw [none_has h]
    exact ⟨fun q => (by cases q), fun q => absurd q.1 hn⟩
theorem betL_way {l : Ln} {z : OrdZ} (h : OrdIs l z) (n o : Str) (k : Nat) : (z.betL n o).f.has k = true ↔ (n ∈ l.clocked ∧ o ∈ l.clocked) ∧ Bw l n o k := by
  rw [← memT h, ← memT h]
  unfold OrdZ.betL
  by_cases hn : n ∈ z.known ∧ o ∈ z.known
  · obtain ⟨f, h1, h2⟩ := (h.bet n o).1 hn
    rw [h1]
    exact ⟨fun q => ⟨hn, (bet_way h2 k).mp q⟩, fun q => (bet_way h2 k).mpr q.2⟩
  · rw [(h.bet n o).2 hn]
    show z.none.has k = true ↔ _
    rw [none_has h]
    exact ⟨fun q => (by cases q), fun q => absurd q.1 hn⟩
theorem badP_way {l m : Ln} {zo zt : OrdZ} (ho : OrdIs l zo) (ht : OrdIs m zt) (a b : Str) (k : Nat) : badP zo zt a b k = true ↔ ((a ∈ l.clocked ∧ b ∈ l.clocked) ∧ Bw l a b k) ∧ ¬ ((a ∈ m.clocked ∧ b ∈ m.clocked) ∧ Bw m a b k) ∧ ¬ (((b ∈ m.clocked ∧ a ∈ m.clocked) ∧ Bw m b a 0) ∧ k = 0) := by
  unfold badP
  rw [Bool.and_eq_true, Bool.and_eq_true, Bool.not_eq_true', Bool.not_eq_true', betL_way ho, Bool.and_eq_false_imp, ← betL_way ht a b, ← betL_way ht b a, Bool.eq_false_iff, decide_eq_false_iff_not, and_assoc]
  exact and_congr_right fun _ => and_congr_right fun _ => ⟨fun h q => h q.1 q.2, fun h q r => h ⟨q, r⟩⟩
theorem singP_way {l m : Ln} {zo zt : OrdZ} (ho : OrdIs l zo) (ht : OrdIs m zt) (a : Str) (k : Nat) : ((zo.outL a).f.has k && !(zt.outL a).f.has k) = true ↔ (a ∈ l.clocked ∧ Ew l a l.out k) ∧ ¬ (a ∈ m.clocked ∧ Ew m a m.out k) := by
  rw [Bool.and_eq_true, Bool.not_eq_true', outL_way ho, ← outL_way ht, Bool.eq_false_iff]
/-- a least place where something holds -/
theorem least_of {p : Nat → Bool} {k : Nat} (h : p k = true) : ∃ m, Least p m ∧ m ≤ k := by
  induction k using Nat.strongRecOn with
  | ind k ih =>
    by_cases q : ∃ j, j < k ∧ p j = true
    · obtain ⟨j, hj, pj⟩ := q
      obtain ⟨m, h1, h2⟩ := ih j hj pj
      exact ⟨m, h1, by omega⟩
    · refine ⟨k, ⟨h, fun j hj => ?_⟩, Nat.le_refl _⟩
      cases e : p j with
      | false => rfl
      | true => exact absurd ⟨j, hj, e⟩ q
section
variable {l m : Ln} {zo zt : OrdZ} {wh : Bool}
theorem endV_one {T : List Tk} {n : Nat} : 1 ≤ endV l T wh n ↔ q1 l T wh n := lv_one q2_q1
theorem endV_two {T : List Tk} {n : Nat} : 2 ≤ endV l T wh n ↔ q2 l T wh n := lv_two
theorem later_of {T : List Tk} {n : Nat} (h : (q1 l T wh n ∧ ¬ q1 m T wh n) ∨ (q2 l T wh n ∧ ¬ q2 m T wh n)) : endV m T wh n < endV l T wh n := by
  have a1 := endV_one (l := l) (T := T) (wh := wh) (n := n)
  have a2 := endV_two (l := l) (T := T) (wh := wh) (n := n)
  have b1 := endV_one (l := m) (T := T) (wh := wh) (n := n)
  have b2 := endV_two (l := m) (T := T) (wh := wh) (n := n)
  rcases h with ⟨h, k⟩ | ⟨h, k⟩
  · have := a1.mpr h
    have : ¬ 1 ≤ endV m T wh n := fun z => k (b1.mp z)
    omega
  · have := a2.mpr h
    have : ¬ 2 ≤ endV m T wh n := fun z => k (b2.mp z)
    omega
theorem of_later {T : List Tk} {n : Nat} (h : endV m T wh n < endV l T wh n) : (q1 l T wh n ∧ ¬ q1 m T wh n) ∨ (q2 l T wh n ∧ ¬ q2 m T wh n) := by
  have a1 := endV_one (l := l) (T := T) (wh := wh) (n := n)
  have a2 := endV_two (l := l) (T := T) (wh := wh) (n := n)
  have b1 := endV_one (l := m) (T := T) (wh := wh) (n := n)
  have b2 := endV_two (l := m) (T := T) (wh := wh) (n := n)
  have c : endV l T wh n ≤ 2 := lv_le
  by_cases h1 : q1 m T wh n
  · right
    have := b1.mpr h1
    exact ⟨a2.mp (by omega), fun z => by have := b2.mpr z; omega⟩
  · left
    exact ⟨a1.mp (by omega), h1⟩
/-- whether a task is told of by the end -/
def rN (l : Ln) (wh : Bool) (t : Tk) (n : Nat) : Prop := effT l t ∧ if wh then t.2 ≤ n else rchT l false t l.out n
theorem bw_trans {a b c : Str} {d d' : Nat} (h : Ew l a b d) (k : Bw l b c d') : Bw l a c (d + d') := by
  induction k with
  | via hs he k ih =>
    rw [← Nat.add_assoc]
    exact .via hs he ih
  | one hs he hp hn =>
    refine bw_mk hs he ?_
    unfold Wy
    rw [hp, if_neg Bool.false_ne_true, hn]
    exact h
theorem rN_before {t u : Tk} {n : Nat} (h : befT l t u) (hu : rN l wh u n) (ht : effT l t) : rN l wh t n := by
  refine ⟨ht, ?_⟩
  have h2 := hu.2
  cases wh with
  | true =>
    have h2' : u.2 ≤ n := h2
    show t.2 ≤ n
    exact Nat.le_trans h.1 h2'
  | false =>
    obtain ⟨h3, h4⟩ : u.2 ≤ n ∧ Ew l u.1 l.out (n - u.2) := h2
    refine ⟨Nat.le_trans h.1 h3, ?_⟩
    show Ew l t.1 l.out (n - t.2)
    have h5 := h.1
    rcases h4 with h4 | ⟨h4, h6⟩
    · have := bw_trans (.inl h.2) h4
      have e : u.2 - t.2 + (n - u.2) = n - t.2 := by omega
      rw [e] at this
      exact .inl this
    · have e : n - t.2 = u.2 - t.2 := by omega
      rw [e, h4]
      exact .inl h.2
/-! each candidate is later -/
theorem sing_ok (ho : OrdIs l zo) (ht : OrdIs m zt) {a : Str} (ha : a ∈ zo.known) {c : Case} (h : Sing zo zt wh a c) : Valid l c ∧ LaterC l m wh c := by
  obtain ⟨h1, h2⟩ := h
  have ha' := (memT ho a).mp ha
  cases wh with
  | true =>
    obtain ⟨h3, h4⟩ : a ∉ zt.known ∧ c.num = 1 := h2
    rw [memT ht] at h3
    refine ⟨⟨by omega, fun t hT => ?_, .inl ⟨_, h1⟩⟩, later_of (.inl ⟨?_, ?_⟩)⟩
    · rw [h1, List.mem_singleton] at hT
      subst hT
      exact ⟨ha', Nat.le_refl _, by rw [h4]; exact Nat.le_refl _⟩
    · rw [h1, h4]
      exact ⟨_, List.mem_singleton.mpr rfl, ha', Nat.le_refl _⟩
    · rw [h1]
      rintro ⟨t, hT, he, _⟩
      rw [List.mem_singleton] at hT
      subst hT
      exact h3 he
  | false =>
    obtain ⟨k, h3, h4⟩ : ∃ k, Least (fun k => (zo.outL a).f.has k && !(zt.outL a).f.has k) k ∧ c.num = k + 1 := h2
    obtain ⟨⟨h5, h6⟩, h7⟩ := (singP_way ho ht a k).mp h3.1
    refine ⟨⟨by omega, fun t hT => ?_, .inl ⟨_, h1⟩⟩, later_of (.inl ⟨?_, ?_⟩)⟩
    · rw [h1, List.mem_singleton] at hT
      subst hT
      exact ⟨ha', Nat.le_refl _, by omega⟩
    · rw [h1, h4]
      refine ⟨_, List.mem_singleton.mpr rfl, ha', Nat.le_add_left _ _, ?_⟩
      show Ew l a l.out (k + 1 - 1)
      exact h6
    · rw [h1, h4]
      rintro ⟨t, hT, he, hr⟩
      rw [List.mem_singleton] at hT
      subst hT
      have hr' : Ew m a m.out (k + 1 - 1) := hr.2
      exact h7 ⟨he, hr'⟩
theorem pair_ok (okl : LnOk l) (ahl : Ahead l) (okm : LnOk m) (ahm : Ahead m) (ho : OrdIs l zo) (ht : OrdIs m zt) {a b : Str} {c : Case} (h : PairIs zo zt wh a b c) : Valid l c ∧ LaterC l m wh c := by
  obtain ⟨late, lag, h1, h2, rfl⟩ := h
  obtain ⟨⟨⟨ha, hb⟩, hw⟩, n1, n2⟩ := (badP_way ho ht a b lag).mp h2.1
  have hmem : ∀ x : Tk, x ∈ (pairC a b lag late).tasks ↔ x = (a, 1) ∨ x = (b, lag + 1) := fun x => by
    unfold pairC
    rcases ordT_of (a, 1) (b, lag + 1) with ⟨_, e⟩ | ⟨_, e⟩ <;> rw [e]
    · simp
    · simp [or_comm]
  have hne : ((a, 1) : Tk) ≠ (b, lag + 1) := fun e => by
    injection e with e1 e2
    have : lag = 0 := by omega
    subst this
    subst e1
    exact bw_irr okl ahl hw
  have bef : befT l (a, 1) (b, lag + 1) := ⟨by show 1 ≤ lag + 1; omega, by show Bw l a b (lag + 1 - 1); exact hw⟩
  refine ⟨⟨by show 1 ≤ lag + 1 + late; omega, fun t hT => ?_, .inr ?_⟩, later_of (.inr ⟨?_, ?_⟩)⟩
  · rcases (hmem t).mp hT with rfl | rfl
    · exact ⟨ha, Nat.le_refl _, by show 1 ≤ lag + 1 + late; omega⟩
    · exact ⟨hb, by show 1 ≤ lag + 1; omega, by show lag + 1 ≤ lag + 1 + late; omega⟩
  · unfold pairC
    rcases ordT_of (a, 1) (b, lag + 1) with ⟨h3, e⟩ | ⟨h3, e⟩ <;> rw [e]
    · exact ⟨_, _, rfl, h3⟩
    · exact ⟨_, _, rfl, ((tkLt_tri _ _).resolve_left h3).resolve_left hne⟩
  · refine ⟨(a, 1), (hmem _).mpr (.inl rfl), (b, lag + 1), (hmem _).mpr (.inr rfl), ha, hb, bef, ?_⟩
    cases wh with
    | true => show lag + 1 ≤ lag + 1 + late; omega
    | false =>
      have h1' : Least (zo.outL b).f.has late := h1
      refine ⟨by show lag + 1 ≤ lag + 1 + late; omega, ?_⟩
      show Ew l b l.out (lag + 1 + late - (lag + 1))
      rw [Nat.add_sub_cancel_left]
      exact ((outL_way ho b late).mp h1'.1).2
  · rintro ⟨t, hT, u, hu, e1, e2, ⟨b1, b2⟩, _⟩
    rcases (hmem t).mp hT with rfl | rfl <;> rcases (hmem u).mp hu with rfl | rfl
    · exact bw_irr okm ahm (by have : Bw m a a (1 - 1) := b2; exact this)
    · exact n1 ⟨⟨e1, e2⟩, by have : Bw m a b (lag + 1 - 1) := b2; exact this⟩
    · have b1' : lag + 1 ≤ 1 := b1
      have h0 : lag = 0 := by omega
      subst h0
      exact n2 ⟨⟨⟨e1, e2⟩, by have : Bw m b a (1 - (0 + 1)) := b2; exact this⟩, rfl⟩
    · have : Bw m b b (lag + 1 - (lag + 1)) := b2
      rw [Nat.sub_self] at this
      exact bw_irr okm ahm this
/-! whatever is later is not below all candidates -/
theorem single_cand (ho : OrdIs l zo) (ht : OrdIs m zt) {x : Tk} {n : Nat} (h1 : 1 ≤ x.2) (hx : rN l wh x n) (hm : ¬ rN m wh x n) : x.1 ∈ zo.known ∧ ∃ c, Sing zo zt wh x.1 c ∧ (rankLt c ⟨n, [x]⟩ ∨ c = ⟨n, [x]⟩) := by
  obtain ⟨he, h2⟩ := hx
  refine ⟨(memT ho _).mpr he, ?_⟩
  have fin : ∀ k, k + 1 ≤ n → (k + 1 = n → x.2 = 1) → rankLt ⟨k + 1, [(x.1, 1)]⟩ ⟨n, [x]⟩ ∨ (⟨k + 1, [(x.1, 1)]⟩ : Case) = ⟨n, [x]⟩ := fun k hk hq => by
    rcases Nat.lt_or_eq_of_le hk with h | h
    · exact .inl (.inl h)
    · right
      have : x = (x.1, 1) := Prod.ext rfl (hq h)
      rw [← this, h]
  cases wh with
  | true =>
    have h2' : x.2 ≤ n := h2
    refine ⟨⟨1, [(x.1, 1)]⟩, ⟨rfl, ?_, rfl⟩, fin 0 (by omega) (by omega)⟩
    rw [memT ht]
    exact fun z => hm ⟨z, h2'⟩
  | false =>
    obtain ⟨h3, h4⟩ : x.2 ≤ n ∧ Ew l x.1 l.out (n - x.2) := h2
    have hp := (singP_way ho ht x.1 (n - x.2)).mpr ⟨⟨he, h4⟩, fun z => hm ⟨z.1, h3, z.2⟩⟩
    obtain ⟨k, k1, k2⟩ := least_of (p := fun k => (zo.outL x.1).f.has k && !(zt.outL x.1).f.has k) hp
    exact ⟨⟨k + 1, [(x.1, 1)]⟩, ⟨rfl, k, k1, rfl⟩, fin k (by omega) (by omega)⟩
theorem cand_below (okl : LnOk l) (ahl : Ahead l) (ho : OrdIs l zo) (ht : OrdIs m zt) {c : Case} (v : Valid l c) (h : LaterC l m wh c) : ∃ c', ((∃ n ∈ zo.known, Sing zo zt wh n c') ∨ ∃ n ∈ zo.known, ∃ q ∈ zo.known, PairIs zo zt wh n q c') ∧ (rankLt c' c ∨ c' = c) := by
  have one : ∀ x ∈ c.tasks, rN l wh x c.num → ¬ rN m wh x c.num → ∃ c', ((∃ n ∈ zo.known, Sing zo zt wh n c') ∨ ∃ n ∈ zo.known, ∃ q ∈ zo.known, PairIs zo zt wh n q c') ∧ (rankLt c' c ∨ c' = c) := fun x hx h1 h2 => by
    obtain ⟨k1, c', k2, k3⟩ := single_cand ho ht (v.t x hx).2.1 h1 h2
    refine ⟨c', .inl ⟨_, k1, k2⟩, ?_⟩
    rcases v.sh with ⟨t, e⟩ | ⟨t, u, e, _⟩
    · rw [e, List.mem_singleton] at hx
      subst hx
      have : c = ⟨c.num, [x]⟩ := by cases c; simp_all
      rw [this]; exact k3
    · left
      have : rankLt ⟨c.num, [x]⟩ c := .inr ⟨rfl, .inl (by rw [e]; show 1 < 2; decide)⟩
      rcases k3 with k3 | k3
      · exact rank_trans k3 this
      · rw [k3]; exact this
  rcases of_later h with ⟨⟨x, hx, h1, h2⟩, h3⟩ | ⟨⟨t, hT, u, hu, e1, e2, b, h1⟩, h3⟩
  · exact one x hx ⟨h1, h2⟩ fun z => h3 ⟨x, hx, z.1, z.2⟩
  · have ru : rN l wh u c.num := ⟨e2, h1⟩
    have rt : rN l wh t c.num := rN_before b ru e1
    by_cases hu2 : rN m wh u c.num
    · by_cases ht2 : rN m wh t c.num
      · have n1 : ¬ befT m t u := fun z => h3 ⟨t, hT, u, hu, ht2.1, hu2.1, z, hu2.2⟩
        have n2 : ¬ befT m u t := fun z => h3 ⟨u, hu, t, hT, hu2.1, ht2.1, z, ht2.2⟩
        obtain ⟨b1, b2⟩ := b
        have hbad : badP zo zt t.1 u.1 (u.2 - t.2) = true := by
          refine (badP_way ho ht t.1 u.1 (u.2 - t.2)).mpr ⟨⟨⟨e1, e2⟩, b2⟩, fun z => n1 ⟨b1, z.2⟩, fun z => n2 ⟨by omega, ?_⟩⟩
          have e0 : t.2 - u.2 = 0 := by omega
          rw [e0]; exact z.1.2
        obtain ⟨lag, l1, l2⟩ := least_of (p := badP zo zt t.1 u.1) hbad
        have hlate : ∃ late, LateIs zo wh u.1 late ∧ late + u.2 ≤ c.num := by
          cases wh with
          | true => exact ⟨0, rfl, by have := ru.2; rw [if_pos rfl] at this; omega⟩
          | false =>
            obtain ⟨h4, h5⟩ : u.2 ≤ c.num ∧ Ew l u.1 l.out (c.num - u.2) := ru.2
            obtain ⟨late, a1, a2⟩ := least_of (p := (zo.outL u.1).f.has) ((outL_way ho u.1 _).mpr ⟨e2, h5⟩)
            exact ⟨late, a1, by omega⟩
        obtain ⟨late, a1, a2⟩ := hlate
        have t1 := (v.t t hT).2.1
        refine ⟨pairC t.1 u.1 lag late, .inr ⟨_, (memT ho _).mpr e1, _, (memT ho _).mpr e2, late, lag, a1, l1, rfl⟩, ?_⟩
        have hnum : lag + 1 + late ≤ c.num := by omega
        rcases Nat.lt_or_eq_of_le hnum with h6 | h6
        · exact .inl (.inl h6)
        · have e3 : t.2 = 1 := by omega
          have e4 : lag = u.2 - t.2 := by omega
          have et : ((t.1, 1) : Tk) = t := Prod.ext rfl e3.symm
          have eu : ((u.1, lag + 1) : Tk) = u := Prod.ext rfl (by show lag + 1 = u.2; omega)
          unfold pairC
          rw [et, eu, h6]
          have hne : t ≠ u := fun e => by
            subst e
            rw [Nat.sub_self] at b2
            exact bw_irr okl ahl b2
          rcases v.sh with ⟨x, e⟩ | ⟨x, y, e, hxy⟩
          · rw [e, List.mem_singleton] at hT hu
            exact absurd (hT.trans hu.symm) hne
          · right
            have hc : c = ⟨c.num, [x, y]⟩ := by cases c; simp_all
            rw [e] at hT hu
            simp only [List.mem_cons, List.not_mem_nil, or_false] at hT hu
            rw [hc]
            rcases hT with rfl | rfl <;> rcases hu with rfl | rfl
            · exact absurd rfl hne
            · rcases ordT_of t u with ⟨_, z⟩ | ⟨z, _⟩
              · rw [z]
              · exact absurd hxy z
            · rcases ordT_of t u with ⟨z, _⟩ | ⟨_, z⟩
              · exact absurd (tkLt_trans hxy z) tkLt_irr
              · rw [z]
            · exact absurd rfl hne
      · exact one t hT rt ht2
    · exact one u hu ru hu2
end
/-! ### what is told, what is found -/
/-- what later_case tells -/
structure ToldC (l m : Ln) (wh : Bool) (r : Option Case) : Prop where
  no : r = none → ∀ c, Valid l c → ¬ LaterC l m wh c
  some : ∀ c, r = some c → Valid l c ∧ LaterC l m wh c ∧ ∀ d, Valid l d → LaterC l m wh d → ¬ rankLt d c
/-- what the law finds among the cases with such numbers -/
structure FirstC (l m : Ln) (wh : Bool) (N : Nat) (r : Option Case) : Prop where
  no : r = none → ∀ c, Valid l c → c.num ≤ N → ¬ LaterC l m wh c
  some : ∀ c, r = some c → Valid l c ∧ c.num ≤ N ∧ LaterC l m wh c ∧ ∀ d, Valid l d → d.num ≤ N → LaterC l m wh d → ¬ rankLt d c
theorem told_first {l m : Ln} {wh : Bool} {N : Nat} {r q : Option Case} (h : ToldC l m wh r) (k : FirstC l m wh N q) : r = q ∨ (q = none ∧ ∃ c, r = some c ∧ N < c.num ∧ Valid l c ∧ LaterC l m wh c) := by
  cases q with
  | none =>
    cases r with
    | none => exact .inl rfl
    | some c =>
      obtain ⟨h1, h2, _⟩ := h.some c rfl
      refine .inr ⟨rfl, c, rfl, ?_, h1, h2⟩
      exact Nat.lt_of_not_le fun z => k.no rfl c h1 z h2
  | some d =>
    obtain ⟨k1, k2, k3, k4⟩ := k.some d rfl
    cases r with
    | none => exact absurd k3 (h.no rfl d k1)
    | some c =>
      obtain ⟨h1, h2, h3⟩ := h.some c rfl
      left
      have n1 := h3 d k1 k3
      have hn : c.num ≤ N := by
        refine Nat.le_trans (Nat.le_of_not_lt fun z => n1 (.inl z)) k2
      have n2 := k4 c h1 hn h2
      rcases rank_tri c d with z | z | z
      · exact absurd z n2
      · rw [z]
      · exact absurd z n1
end Ow
namespace Ow
open PySem PySem.Spec PyProof.Rows L2 He
/-! ### things of ours told by what is not known exactly -/
def oEx {β : Type} (φ : β → Prop) (F : β → OP) : OP := ⟨fun o G => ∃ x, φ x ∧ (F x).p o G, fun s ⟨x, h, q⟩ => ⟨x, h, (F x).mono s q⟩⟩
theorem Ok.setR {H0 G H : Hp} {Γ : Cn} {Ω : Om} {σ : L2.St} {a : Addr} {R R' : OP} {j : Nat} (k : Ok H0 Γ Ω σ G H) (hj : Ω[j]? = some (a, R)) (hr : ∀ u, H a = some u → R.p u G → R'.p u G) : Ok H0 Γ (Ω.set j (a, R')) σ G H := by
  have hm : (a, R) ∈ Ω := List.mem_of_getElem? hj
  obtain ⟨_, _, u, h2, h3⟩ := k.ow _ hm
  have := k.put (R' := R') hj (hr u h2 h3)
  have e : upd H a u = H := by
    funext b
    by_cases hb : b = a
    · subst hb; rw [upd_same]; exact h2.symm
    · rw [upd_ne hb]
  rwa [e] at this
section
variable {G0 H0 H : Hp} {Γ : Cn} {Ω : Om} {σ : L2.St} {a : Addr} {R R' : OP} {β : Type} {φ : β → Prop} {F : β → OP}
theorem Sat.exO (j : Nat) (hs : Sat G0 H0 Γ Ω σ H) (hj : Ω[j]? = some (a, oEx φ F)) : ∃ x, φ x ∧ Sat G0 H0 Γ (Ω.set j (a, F x)) σ H := by
  obtain ⟨G, g, o⟩ := hs
  obtain ⟨_, _, u, h2, x, h3, h4⟩ := o.ow _ (List.mem_of_getElem? hj)
  refine ⟨x, h3, G, g, o.setR hj fun v hv _ => ?_⟩
  rw [h2] at hv
  cases hv
  exact h4
theorem Sat.mkO (j : Nat) {x : β} (hx : φ x) (hs : Sat G0 H0 Γ Ω σ H) (hj : Ω[j]? = some (a, F x)) : Sat G0 H0 Γ (Ω.set j (a, oEx φ F)) σ H := hs.toO j hj fun _ _ _ q => ⟨x, hx, q⟩
/-- less is ours -/
theorem Ok.sub {G : Hp} {Ω' : Om} (k : Ok H0 Γ Ω σ G H) (h : Ω'.Sublist Ω) : Ok H0 Γ Ω' σ G H := ⟨k.gh, k.len, k.im, fun q hq => k.ow q (h.subset hq), k.nd.sublist (h.map _)⟩
theorem Sat.sub {Ω' : Om} (hs : Sat G0 H0 Γ Ω σ H) (h : Ω'.Sublist Ω) : Sat G0 H0 Γ Ω' σ H := let ⟨G, g, o⟩ := hs; ⟨G, g, o.sub h⟩
end
/-! ### a def that changes a thing of its caller -/
def Pm {α : Type} (φ : α → Prop) (A : α → Addr → List VP) (R0 R1 : α → OP) (R : α → VP) : Sp := fun vs H Q _ => ∃ y a G, φ y ∧ PV (A y a) vs G ∧ Same G H ∧ G a = none ∧ (∃ o, H a = some o ∧ (R0 y).p o G) ∧
  ∀ v G' H', Grow G (rmv H a) G' H' → Same G' H' → G' a = none → (∃ o, H' a = some o ∧ (R1 y).p o G') → (R y).p v G' → Q v H'
section
variable {X : Cx} {G0 H0 H : Hp} {Γ : Cn} {Ω : Om} {σ : L2.St} {D : Ends} {rest : List Stmt} {e : Expr} {P : VP} {R : OP} {pos : Pos}
theorem s_retS (hs : Sat G0 H0 Γ Ω σ H) (he : EG X Γ Ω e P) (k : ∀ v G H', Grow G0 H0 G H' → Ok H0 Γ Ω σ G H' → P.p v G → D.rt v H') : wpS X (.Return (some e) pos :: rest) D σ H :=
  wp_cons (ps_ret he) ⟨G0, H0, hs, fun v G H' g o q => k v G H' g o q⟩
theorem s_retM {Ω' : Om} (hs : Sat G0 H0 Γ Ω σ H) (he : MG X Γ Ω e P Ω') (k : ∀ v G H', Grow G0 H0 G H' → Ok H0 Γ Ω' σ G H' → P.p v G → D.rt v H') : wpS X (.Return (some e) pos :: rest) D σ H :=
  wp_cons (ps_ret he) ⟨G0, H0, hs, fun v G H' g o q => k v G H' g o q⟩
/-- return a new thing -/
theorem s_retF (hs : Sat G0 H0 Γ Ω σ H) (he : NG X Γ Ω e R) (k : ∀ a G H', Grow G0 H0 G H' → Ok H0 Γ ((a, R) :: Ω) σ G H' → D.rt (.ref a) H') : wpS X (.Return (some e) pos :: rest) D σ H :=
  wp_cons (ps_ret he) ⟨G0, H0, hs, fun a G H' g o => k a G H' g o⟩
end
section
variable {P : Program} {w : World} {K : PySem.W.Frag} {mg : Str → Option Value} {base : Heap} {x qual : Str} {params : Arguments} {body : List Stmt} {scope : Scope} {dvs : List V} {kws : List (Str × V)} {f : Addr} {fd : FuncData} {N ps : List Str} {k : Nat} {α : Type} {φ : α → Prop} {A : α → Addr → List VP} {R0 R1 : α → OP} {R : α → VP}
theorem fn_pm (F : FunD K x qual params body scope dvs kws f fd) (S : FnScope N ps scope) (hl : ∀ y a, φ y → (A y a).length = ps.length)
    (hb : ∀ (cdv : Value) (Ar : Around) (outer : List Env) (s : Shared) (H0 H : Hp) (E : XK) (y : α) (a : Addr) (G : Hp) (Q : VK) (σ : L2.St), Room k (Ar.deeper (envOfC qual scope s.heap.objs.size f cdv)) → φ y → Sat G H0 (stC N (A y a)) [(a, R0 y)] σ H →
      (∀ Γ' σ' v G' H', Grow G H0 G' H' → Ok H0 Γ' [(a, R1 y)] σ' G' H' → (R y).p v G' → Q v H') → wpS (bodyX P w K mg base N qual scope f cdv Ar outer s H E) body { nx := fun _ H' => Q .non H', rt := Q } σ H) : FnOk P w K mg base CX0 (k + 1) f fd ps (Pm φ A R0 R1 R) := by
  refine F.ok S (fun vs H Q E h => ?_) (fun cdv Ar outer s H vs Q E hr h => ⟨_, PSs.nox pss_wp, ?_⟩)
  · obtain ⟨y, a, G, hy, q, _⟩ := h
    rw [← Paired.length q]; exact hl y a hy
  · obtain ⟨y, a, G, hy, q, sm, hGa, ⟨u, hu, hr0⟩, kk⟩ := h
    have s1 : Same G (rmv H a) := fun b o e => by
      rw [rmv_ne (ne_of_none e hGa)]; exact sm _ _ e
    refine hb cdv Ar outer s (rmv H a) H E y a G Q _ hr hy ⟨G, ⟨Same.refl _, rmv_sub, fun _ _ _ n => n⟩, ?_⟩ ?_
    · have o := start_ok (N := N) (A := A y a) (vs := vs) (H0 := rmv H a) sm q
      refine ⟨o.gh, o.len, o.im, fun r hr => ?_, by simp⟩
      have e := List.mem_singleton.mp hr
      subst e
      exact ⟨rmv_self, hGa, u, hu, hr0⟩
    · intro Γ' σ' v G' H' g o hv
      obtain ⟨_, h1, u', h2, h3⟩ := o.ow _ List.mem_cons_self
      exact kk v G' H' g o.gh h1 ⟨u', h2, h3⟩ hv
end
structure FGm (P : Program) (w : World) (K : PySem.W.Frag) (mg : Str → Option Value) (base : Heap) (k : Nat) (x : Str) {α : Type} (φ : α → Prop) (A : α → Addr → List VP) (R0 R1 : α → OP) (R : α → VP) : Prop where
  ex : ∃ f fd ps, FnOk P w K mg base CX0 k f fd ps (Pm φ A R0 R1 R) ∧ mg x = some (.ref f) ∧ PySem.W.keepIn K (.ref f) = true ∧ Binds K fd ps []
section
variable {P : Program} {w : World} {K : PySem.W.Frag} {mg : Str → Option Value} {base : Heap}
theorem fgm {x : Str} {st : Stmt} {N ps : List Str} {k : Nat} {α : Type} {φ : α → Prop} {A : α → Addr → List VP} {R0 R1 : α → OP} {R : α → VP} (hd : ∃ fd, FunD K x x (defArgs st) (defBody st) (defScope st) [] [] (ga K x) fd) (hm : mg x = some (.ref (ga K x))) (S : FnScope N ps (defScope st)) (hl : ∀ y a, φ y → (A y a).length = ps.length)
    (hbd : ∀ (kV doc pm : Value) (an : Option Addr) (cdv ct : Value) (us : List Value), us.length = ps.length → bindArgs (PySem.W.fnOf x x (defArgs st) (defBody st) (defScope st) .none kV doc pm an cdv ct) ⟨us, []⟩ = pure (ps.zip us))
    (hb : ∀ (cdv : Value) (Ar : Around) (outer : List Env) (s : Shared) (H0 H : Hp) (E : XK) (y : α) (a : Addr) (G : Hp) (Q : VK) (σ : L2.St), Room k (Ar.deeper (envOfC x (defScope st) s.heap.objs.size (ga K x) cdv)) → φ y → Sat G H0 (stC N (A y a)) [(a, R0 y)] σ H →
      (∀ Γ' σ' v G' H', Grow G H0 G' H' → Ok H0 Γ' [(a, R1 y)] σ' G' H' → (R y).p v G' → Q v H') → wpS (bodyX P w K mg base N x (defScope st) (ga K x) cdv Ar outer s H E) (defBody st) { nx := fun _ H' => Q .non H', rt := Q } σ H) : FGm P w K mg base (k + 1) x φ A R0 R1 R := by
  obtain ⟨fd, F⟩ := hd
  exact ⟨_, fd, ps, fn_pm F S hl hb, hm, F.kp, F.bindsN hbd⟩
end
theorem rmv_same {H1 H' : Hp} {a : Addr} (h : Same (rmv H1 a) H') {b : Addr} {o : HO} (e : H1 b = some o) (hb : b ≠ a) : H' b = some o := h _ _ (by rw [rmv_ne hb]; exact e)
section
variable {X : Cx} {Γ : Cn} {Ω : Om} {pos p : Pos} {e : Expr} {es : List Expr} {x : Str} {k j : Nat} {α : Type} {φ : α → Prop} {A : α → Addr → List VP} {R0 R1 : α → OP} {R : α → VP} {a : Addr}
/-- behind such a call -/
theorem pm_out {G0 H0 G1 H1 : Hp} {σ : L2.St} {vs : List V} {y : α} {i : Nat} {Q : VK} {E : XK} (g1 : Grow G0 H0 G1 H1) (o1 : Ok H0 Γ Ω σ G1 H1) (hy : φ y) (hj : Ω[i]? = some (a, R0 y)) (q1 : PV (A y a) vs G1)
    (k : ∀ v G H', Grow G0 H0 G H' → Ok H0 Γ (Ω.set i (a, R1 y)) σ G H' → (R y).p v G → Q v H') : Pm φ A R0 R1 R vs H1 Q E := by
  obtain ⟨h0, h1, u, h2, h3⟩ := o1.ow _ (List.mem_of_getElem? hj)
  refine ⟨y, a, G1, hy, q1, o1.gh, h1, ⟨u, h2, h3⟩, fun v G' H' g s' hn ⟨u', h4, h5⟩ hv => ?_⟩
  have hg : Grow G0 H0 G' H' := ⟨g1.g.trans g.g, fun b o e => rmv_same g.h (g1.h _ _ e) (ne_of_none e h0), fun b o e n => g.out b o (by rw [rmv_ne (ne_of_none e h0)]; exact g1.h _ _ e) (g1.out b o e n)⟩
  have hjl := lt_of_some hj
  have nd := o1.nd
  have key : ∀ i' q, i' ≠ i → Ω[i']? = some q → q.1 ≠ a := fun i' q hi hq e => by
    have e1 : (Ω.map (·.1))[i']? = some a := by rw [List.getElem?_map, hq, ← e]; rfl
    have e2 : (Ω.map (·.1))[i]? = some a := by rw [List.getElem?_map, hj]; rfl
    exact hi ((List.getElem?_inj (lt_of_some e1) nd).mp (e1.trans e2.symm))
  refine k v G' H' hg ⟨s', o1.len, fun i P e => let ⟨v, h1, h2⟩ := o1.im i P e; ⟨v, h1, P.mono g.g h2⟩, fun q hq => ?_, ?_⟩ hv
  · obtain ⟨i', hi⟩ := List.mem_iff_getElem?.mp hq
    by_cases hij : i' = i
    · subst hij
      rw [List.getElem?_set_self hjl] at hi
      cases hi
      exact ⟨h0, hn, u', h4, h5⟩
    · rw [List.getElem?_set_ne (fun z => hij z.symm)] at hi
      obtain ⟨x1, x2, v2, x3, x4⟩ := o1.ow q (List.mem_of_getElem? hi)
      have ne := key i' q hij hi
      exact ⟨x1, g.out q.1 v2 (by rw [rmv_ne ne]; exact x3) x2, v2, rmv_same g.h x3 ne, q.2.mono g.g x4⟩
  · have e : (Ω.set i (a, R1 y)).map (·.1) = Ω.map (·.1) := by
      refine List.ext_getElem? fun i' => ?_
      rw [List.getElem?_map, List.getElem?_map]
      by_cases hij : i' = i
      · subst hij
        rw [List.getElem?_set_self hjl, hj]; rfl
      · rw [List.getElem?_set_ne (fun z => hij z.symm)]
    rw [e]; exact nd
theorem eg_callM (F : FGm X.prog X.w X.K X.mg X.base j x φ A R0 R1 R) (hr : Room k X.A) (hk : j ≤ k) (y : α) (hy : φ y) (i : Nat) (hj : Ω[i]? = some (a, R0 y)) (ha : AG X Γ Ω (e :: es) (A y a)) (hg : Gl X x := by rfl)
    (hdb : (x == ("__debug__" : Str)) = false := by decide) (he : starEach (e :: es) X.env = (false, eval e X.env) :: starEach es X.env := by rfl) (hpl : (backTo pos (starEach es X.env)).any (·.1) = false := by rfl) : MG X Γ Ω (.Call (.Name x p) (e :: es) [] pos) (R y) (Ω.set i (a, R1 y)) := by
  obtain ⟨f, fd, ps, ok, hm, hkp, hb⟩ := F.ex
  refine weak (pe_call (E := E0) ok (hr.mono hk) hg hm hkp hb .nil pass0 ha hdb he hpl) fun σ H Q ⟨G0, H0, s, k⟩ => ⟨G0, H0, s, fun vs G1 H1 g1 o1 q1 => ?_⟩
  show Pm φ A R0 R1 R (vs ++ []) H1 Q E0
  rw [List.append_nil]
  exact pm_out g1 o1 hy hj q1 k
/-- one whose thing is told alike behind it -/
theorem eg_callS (F : FGm X.prog X.w X.K X.mg X.base j x φ A R0 R1 R) (hr : Room k X.A) (hk : j ≤ k) (y : α) (hy : φ y) (i : Nat) (hj : Ω[i]? = some (a, R0 y)) (h01 : R1 y = R0 y) (ha : AG X Γ Ω (e :: es) (A y a)) (hg : Gl X x := by rfl)
    (hdb : (x == ("__debug__" : Str)) = false := by decide) (he : starEach (e :: es) X.env = (false, eval e X.env) :: starEach es X.env := by rfl) (hpl : (backTo pos (starEach es X.env)).any (·.1) = false := by rfl) : EG X Γ Ω (.Call (.Name x p) (e :: es) [] pos) (R y) := by
  have h := eg_callM (pos := pos) (p := p) F hr hk y hy i hj ha hg hdb he hpl
  have e1 : Ω.set i (a, R1 y) = Ω := by
    rw [h01]
    refine List.ext_getElem? fun m => ?_
    by_cases hm : i = m
    · subst hm; rw [List.getElem?_set_self (lt_of_some hj), hj]
    · rw [List.getElem?_set_ne hm]
  rw [e1] at h
  exact h
end
/-! ### what is not known exactly -/
section
variable {r : R2} {α : Type} {φ : α → Prop} {F : α → VP} {Pa Pb P P' : VP}
theorem rg_exL (h : ∀ x, φ x → RG r (F x) Pb P) : RG r (vEx φ F) Pb P := fun x y G H Q s ⟨z, hz, px⟩ py k => h z hz x y G H Q s px py k
theorem rg_exR (h : ∀ x, φ x → RG r Pa (F x) P) : RG r Pa (vEx φ F) P := fun x y G H Q s px ⟨z, hz, py⟩ k => h z hz x y G H Q s px py k
theorem rg_to (h : RG r Pa Pb P) (w : ∀ v G, P.p v G → P'.p v G) : RG r Pa Pb P' := fun x y G H Q s px py k => h x y G H Q s px py fun z G' H' st q => k z G' H' st (w z G' q)
end
section
variable {X : Cx} {G0 H0 H : Hp} {Γ : Cn} {Ω : Om} {σ : L2.St} {D : Ends} {rest : List Stmt} {e : Expr} {pos : Pos}
/-- a test of which only this is known -/
def TGE (X : Cx) (Γ : Cn) (Ω : Om) (e : Expr) (φ : Bool → Prop) : Prop := PT X e (fun σ H Q => ∃ G0 H0, Sat G0 H0 Γ Ω σ H ∧ ∀ b G H', φ b → Grow G0 H0 G H' → Ok H0 Γ Ω σ G H' → Q b H')
theorem tge_val {φ : Bool → Prop} (h : EG X Γ Ω e (vEx φ vB)) (he : ∀ whole, isTrue e X.env whole = (do let v ← whole; standAt e.pos; holding [v] (truthy v)) := by intro _; rfl) : TGE X Γ Ω e φ :=
  weakT (pt_val h he) fun σ H Q ⟨G0, H0, s, w⟩ => ⟨G0, H0, s, fun v G H' g o ⟨b, hb, q⟩ => ⟨b, q, w b G H' hb g o⟩⟩
theorem s_ifU {c : Expr} {a b : List Stmt} {φ : Bool → Prop} (hs : Sat G0 H0 Γ Ω σ H) (hc : TGE X Γ Ω c φ) (ha : φ true → ∀ H', Sat G0 H0 Γ Ω σ H' → wpS X a { D with nx := fun σ' H' => wpS X rest D σ' H' } σ H')
    (hb : φ false → ∀ H', Sat G0 H0 Γ Ω σ H' → wpS X b { D with nx := fun σ' H' => wpS X rest D σ' H' } σ H') : wpS X (.If c a b pos :: rest) D σ H :=
  wp_cons (ps_if hc pss_wp pss_wp) ⟨G0, H0, hs, fun k G H' hk g o => by
    show (if k = true then _ else _)
    cases k with
    | true => rw [if_pos rfl]; exact ha hk H' ⟨G, g, o⟩
    | false => rw [if_neg Bool.false_ne_true]; exact hb hk H' ⟨G, g, o⟩⟩
end
/-- many of which each is known so: many that are known so -/
theorem pv_choose {α β : Type} {φ : β → α → Prop} {F : α → VP} {G : Hp} : ∀ {xs : List β} {vs : List V}, PV (xs.map fun b => vEx (φ b) F) vs G → ∃ ys : List α, Paired φ xs ys ∧ PV (ys.map F) vs G
  | [], _, .nil => ⟨[], .nil, .nil⟩
  | b :: xs, _, .cons r t => by
    obtain ⟨y, h1, h2⟩ := r
    obtain ⟨ys, h3, h4⟩ := pv_choose t
    exact ⟨y :: ys, .cons h1 h3, .cons h2 h4⟩
theorem vL_choose {α β : Type} {φ : β → α → Prop} {F : α → VP} {xs : List β} {v : V} {G : Hp} (h : (vL (xs.map fun b => vEx (φ b) F)).p v G) : (vEx (Paired φ xs) fun ys => vL (ys.map F)).p v G := by
  obtain ⟨a, vs, e, ha, q⟩ := h
  obtain ⟨ys, h1, h2⟩ := pv_choose q
  exact ⟨ys, h1, a, vs, e, ha, h2⟩
/-! ### targets that change what is ours -/
section
variable {X : Cx} {Γ : Cn} {Ω : Om} {P : VP} {Ps : List VP} {pos : Pos} {o i : Expr} {a : Addr}
theorem gtm_name (j : Nat) {x : Str} (hN : X.N.Nodup) (hi : X.N[j]? = some x := by rfl) (hx : Loc X.env.scope x := by first | exact .inl rfl | exact .inr rfl) (hf : X.fn x = true ∨ X.env.scope.names.lookup x = some .local := by first | exact .inl rfl | exact .inr rfl) : TgM X (.Name x pos) P Γ Ω (Γ.set j (some P)) Ω :=
  weakG (pg_name hN hi hx hf) fun v σ H Q ⟨G0, H0, ⟨G, g, ok, p⟩, k⟩ => k _ G H g (ok.set p)
theorem gtm_item {n : Int} {m : Nat} (j : Nat) (hj : Ω[j]? = some (a, oL Ps)) (hn : ixN Ps.length n = some m) (ho : EG X Γ Ω o (vR a)) (hi : EG X Γ Ω i (vI n))
    (ha : ∀ v, assign (.Subscript o i pos) X.env v = (do
      let ov ← holding [v] (eval o X.env)
      let iv ← holding [v, ov] (eval i X.env)
      standAt pos
      holding [v, ov, iv] (setItem ov iv v)
      release [v, ov, iv] []) := by intro _; rfl) : TgM X (.Subscript o i pos) P Γ Ω Γ (Ω.set j (a, oL (Ps.set m P))) :=
  weakG (pg_sub ho hi set_list ha) fun v σ H Q ⟨G0, H0, ⟨G, g, ok, p⟩, k⟩ => ⟨G, H0, ⟨G, g.self, ok⟩, fun x G2 H2 g2 o2 q2 => ⟨G2, H0, ⟨G2, g2.self, o2⟩, fun y G3 H3 g3 o3 q3 => by
    have e1 : x = V.ref a := q2
    have e2 : y = V.int n := q3
    subst e1 e2
    obtain ⟨h0, _, u, h2, vs, rfl, h3⟩ := o3.ow _ (List.mem_of_getElem? hj)
    refine ⟨a, vs, n, m, rfl, rfl, h2, by rw [← Paired.length h3]; exact hn, ?_⟩
    exact k _ _ _ (((g.trans g2).trans g3).put h0) (o3.put hj ⟨_, rfl, PV.set (P.mono (g2.g.trans g3.g) p) m h3⟩)⟩⟩
end
end Ow
namespace Ow
open PySem PySem.Spec PyProof.Rows L2 He
/-! ### comprehensions that change what is ours -/
def tGMT (Γ : Cn) (Ω Ω' : Om) (b : Bool) : TT := fun σ H Q => ∃ G0 H0, Sat G0 H0 Γ Ω σ H ∧ ∀ G H', Grow G0 H0 G H' → Ok H0 Γ Ω' σ G H' → Q b H'
abbrev TM (X : Cx) (Γ : Cn) (Ω : Om) (e : Expr) (b : Bool) (Ω' : Om) : Prop := PT X e (tGMT Γ Ω Ω' b)
theorem tm_val {X : Cx} {Γ : Cn} {Ω Ω' : Om} {a : Expr} {k : Bool} (h : MG X Γ Ω a (vB k) Ω') (he : ∀ whole, isTrue a X.env whole = (do let v ← whole; standAt a.pos; holding [v] (truthy v)) := by intro _; rfl) : TM X Γ Ω a k Ω' :=
  weakT (pt_val h he) fun σ H Q ⟨G0, H0, s, w⟩ => ⟨G0, H0, s, fun v G H' g o q => ⟨k, q, w G H' g o⟩⟩
theorem tm_not {X : Cx} {Γ : Cn} {Ω Ω' : Om} {a : Expr} {k : Bool} {pos : Pos} (h : TM X Γ Ω a k Ω') : TM X Γ Ω (.UnaryOp .Not a pos) (!k) Ω' :=
  weakT (pt_not h) fun σ H Q ⟨G0, H0, s, w⟩ => ⟨G0, H0, s, fun G H' g o => w G H' g o⟩
section
variable {X : Cx} {G0 H0 H : Hp} {Γ : Cn} {σ : L2.St} {α : Type} {xs : List α} {F : α → VP} {tg iter elt : Expr} {ifs : List Expr} {scope : Scope} {own : List (Str × Nat)} {pos : Pos}
theorem wipe_at {τ : L2.St} {j : Nat} : ∀ us : List Nat, j ∈ us → j < τ.length → (L2.wipe τ us)[j]? = some none
  | [], z, _ => by cases z
  | u :: us, z, l => by
    show ((L2.wipe τ us).set u none)[j]? = _
    by_cases hu : u = j
    · subst hu; rw [List.getElem?_set_self (by rw [wipe_length]; exact l)]
    · rw [List.getElem?_set_ne hu]
      exact wipe_at us ((List.mem_cons.mp z).resolve_left fun q => hu q.symm) l
theorem wipe_twice {σ σ2 : L2.St} {vs ts : List Nat} (on : Ow.Only ts (L2.wipe σ vs) σ2) (hts : ∀ i ∈ ts, i ∈ vs) : L2.wipe σ2 vs = L2.wipe σ vs := by
  rw [wipe_only on hts]
  exact wipe_wipe σ vs
/-- what the turns of such a comprehension need -/
theorem lc_in {Ωi : Nat → Om} {t : α → Bool} {R : α → VP} {Γt : α → Cn} {ts : List Nat} (hA : ∀ i, (Ωi i).map (·.1) = (Ωi 0).map (·.1)) (hts : ∀ i ∈ ts, i ∈ own.map (·.2)) (hz : xs.length ≤ sizeLine) {Q : VK} {G1 H1 : Hp} {J : It} (g1 : Grow G0 H0 G1 H1) (o1 : Ok H0 Γ (Ωi 0) σ G1 H1) (w : WalkT J G1 xs F)
    (k : ∀ v G H', Grow G0 H0 G H' → Ok H0 Γ (Ωi xs.length) σ G H' → (vL ((xs.filter t).map R)).p v G → Q v H') : ∀ D, H1 D = Option.none → ∃ W : Nat → Nat → Hp → Prop, (∃ m, W 0 m (upd H1 D (.lst []))) ∧ ∀ i m H, W i m H →
      (J.stop i H ∧ Q (.ref D) H) ∨ (J.go i H ∧ ∃ Nx : Hp → Prop, (∀ H', Nx H' → ∃ m', m' < m ∧ W (i + 1) m' H') ∧ ∀ x H', J.yld i H x H' → (fun v σ H Q => ∃ i x, xs[i]? = some x ∧ tGg (F x) (wipeC Γ (own.map (·.2))) (Ωi i) (Γt x) ts v σ H Q) x (L2.wipe σ (own.map (·.2))) H' fun σ2 H2 => L2.wipe σ2 (own.map (·.2)) = L2.wipe σ (own.map (·.2)) ∧
        (fun σ H Q => ∃ i x, xs[i]? = some x ∧ tGMT (Γt x) (Ωi i) (Ωi (i + 1)) (t x) σ H Q) σ2 H2 fun b H3 => if b = true then (fun σ H Q => ∃ i x, xs[i]? = some x ∧ t x = true ∧ tG (Γt x) (Ωi (i + 1)) (R x) σ H Q) σ2 H3 fun y H4 => ∃ acc, H4 D = some (.lst acc) ∧ acc.length < sizeLine ∧ Nx (upd H4 D (.lst (acc ++ [y]))) else Nx H3) := by
  intro D hD
  have hD0 : H0 D = Option.none := g1.h.free hD
  have fr : ∀ i, ∀ q ∈ Ωi i, q.1 ≠ D := fun i q hq e => by
    have hm : q.1 ∈ (Ωi 0).map (·.1) := by rw [← hA i]; exact List.mem_map_of_mem hq
    obtain ⟨q', hq', e'⟩ := List.mem_map.mp hm
    obtain ⟨_, _, o, h2, _⟩ := o1.ow q' hq'
    rw [e', e, hD] at h2; cases h2
  let Pv : Nat → Hp → Prop := fun i H => ∃ G vs, Grow G1 H0 G H ∧ Ok H0 Γ (Ωi i) σ G H ∧ G D = none ∧ H D = some (.lst vs) ∧ PV (((xs.take i).filter t).map R) vs G
  have key := lc_it (J := J) (n := xs.length) (G := fun H => Same G1 H) (Y := fun i H x H' => J.yld i H x H') ⟨fun i H hi s => w.goes i H hi s, fun H s => w.stops H s, fun i H x H' _ _ y => y⟩ (g := fun v σ H Q => ∃ i x, xs[i]? = some x ∧ tGg (F x) (wipeC Γ (own.map (·.2))) (Ωi i) (Γt x) ts v σ H Q) (tt := fun σ H Q => ∃ i x, xs[i]? = some x ∧ tGMT (Γt x) (Ωi i) (Ωi (i + 1)) (t x) σ H Q) (te := fun σ H Q => ∃ i x, xs[i]? = some x ∧ t x = true ∧ tG (Γt x) (Ωi (i + 1)) (R x) σ H Q) (vs := own.map (·.2)) (σ := σ) (H1 := H1) (D := D) (Qd := fun H => Q (.ref D) H) Pv ?h0 ?hG ?hs ?hd
  · exact key
  case h0 =>
    refine ⟨G1, [], ⟨Same.refl _, fun b o e => ?_, fun _ _ _ n => n⟩, ⟨fun b o e => ?_, o1.len, o1.im, fun q hq => ?_, o1.nd⟩, o1.gh.free hD, upd_same, .nil⟩
    · rw [upd_ne (ne_of_none e hD0)]; exact g1.h _ _ e
    · rw [upd_ne (ne_of_none e (o1.gh.free hD))]; exact o1.gh _ _ e
    · obtain ⟨a, b, o, h2, h3⟩ := o1.ow q hq
      exact ⟨a, b, o, by rw [upd_ne (fr 0 q hq)]; exact h2, h3⟩
  case hG =>
    rintro i H _ ⟨G, vs, g, o, _⟩
    exact g.g.trans o.gh
  case hs =>
    rintro i v H H' hi ⟨G, vs, g, o, nD, hDl, pv⟩ y
    have hx : xs[i]? = some xs[i] := by simp [hi]
    obtain ⟨G2, st, fv⟩ := w.yields i H v H' xs[i] G hx g.g o.gh y
    have o2 := (o.step st).wipe (own.map (·.2))
    have hD2 : H' D = some (.lst vs) := st.h _ _ hDl
    have nD2 : G2 D = Option.none := st.out _ _ hDl nD
    have okD : ∀ {j : Nat} {Γ' : Cn} {σ' : L2.St} {G' K' : Hp} {u : HO}, Ok H0 Γ' (Ωi j) σ' G' K' → Ok (upd H0 D u) Γ' (Ωi j) σ' G' K' := fun {j Γ' σ' G' K' u} o => ⟨o.gh, o.len, o.im, fun q hq => by
      obtain ⟨a, b⟩ := o.ow q hq
      exact ⟨by rw [upd_ne (fr j q hq)]; exact a, b⟩, o.nd⟩
    have gD : ∀ {G' K' : Hp}, Grow G2 (upd H0 D (.lst vs)) G' K' → Grow G1 H0 G' K' ∧ G' D = none ∧ K' D = some (.lst vs) := fun {G' K'} g' => ⟨(g.step st).unframe hD0 g', g'.out _ _ upd_same nD2, g'.h _ _ upd_same⟩
    have o3 := o.step st
    -- the slots of the def itself, carried along
    have carry : ∀ {j : Nat} {Γ' : Cn} {σ' : L2.St} {G' K' : Hp} {u : HO}, Grow G2 (upd H0 D (.lst vs)) G' K' → Ok (upd H0 D u) Γ' (Ωi j) σ' G' K' → Ok H0 Γ (Ωi j) σ G' K' := fun {j Γ' σ' G' K' u} g' o' =>
      ⟨o'.gh, o3.len, fun m S e => let ⟨u, h1, h2⟩ := o3.im m S e; ⟨u, h1, S.mono g'.g h2⟩, fun q hq => by
        obtain ⟨a, b⟩ := o'.ow q hq
        exact ⟨by rw [upd_ne (fr j q hq)] at a; exact a, b⟩, o'.nd⟩
    refine ⟨i, xs[i], hx, G2, upd H0 D (.lst vs), ⟨G2, Grow.frame ((g.step st).h) hD2, okD o2, fv⟩, fun σ2 G3 H3 on g3 o3' => ⟨wipe_twice on hts, i, xs[i], hx, G3, _, ⟨G3, g3.self, o3'⟩, fun G4 H4 g4 o4 => ?_⟩⟩
    have g34 := g3.trans g4
    have ft := filter_take (t := t) hx
    cases ht : t xs[i] with
    | true =>
      show (if true = true then _ else _)
      rw [if_pos rfl]
      refine ⟨i, xs[i], hx, ht, G4, _, ⟨G4, g4.self, o4⟩, fun y G5 H5 g5 o5 ry => ?_⟩
      have g35 := g34.trans g5
      obtain ⟨gg, nD5, hD5⟩ := gD g35
      have ok5 := carry g35 o5
      have pv5 : PV (((xs.take i).filter t).map R) vs G5 := PV.mono (st.g.trans g35.g) pv
      have hlen : vs.length < sizeLine := by
        have h1 := Paired.length pv
        rw [List.length_map] at h1
        have h2 := List.length_filter_le t (xs.take i)
        rw [List.length_take] at h2
        omega
      refine ⟨vs, hD5, hlen, G5, vs ++ [y], ⟨gg.g, fun b o e => ?_, gg.out⟩, ⟨fun b o e => ?_, ok5.len, ok5.im, fun q hq => ?_, ok5.nd⟩, nD5, upd_same, ?_⟩
      · rw [upd_ne (ne_of_none e hD0)]; exact gg.h _ _ e
      · rw [upd_ne (ne_of_none e nD5)]; exact ok5.gh _ _ e
      · obtain ⟨a, b, o, h2, h3⟩ := ok5.ow q hq
        exact ⟨a, b, o, by rw [upd_ne (fr _ q hq)]; exact h2, h3⟩
      · rw [ft, ht, if_pos rfl, List.map_append]
        exact PV.append pv5 (.cons ry .nil)
    | false =>
      show (if false = true then _ else _)
      rw [if_neg Bool.false_ne_true]
      obtain ⟨gg, nD4, hD4⟩ := gD g34
      refine ⟨G4, vs, gg, carry g34 o4, nD4, hD4, ?_⟩
      rw [ft, ht, if_neg Bool.false_ne_true, List.append_nil]
      exact PV.mono (st.g.trans g34.g) pv
  case hd =>
    rintro H ⟨G, vs, g, o, nD, hDl, pv⟩
    rw [List.take_length] at pv
    have sm : Same G (upd G D (.lst vs)) := fun b u e => by rw [upd_ne (ne_of_none e nD)]; exact e
    refine k (.ref D) (upd G D (.lst vs)) H ⟨g1.g.trans (g.g.trans sm), g.h, fun b u e n => ?_⟩ ⟨fun b u e => ?_, o.len, fun j S e => let ⟨u, h1, h2⟩ := o.im j S e; ⟨u, h1, S.mono sm h2⟩, fun q hq => ?_, o.nd⟩ ⟨D, vs, rfl, upd_same, PV.mono sm pv⟩
    · rw [upd_ne (ne_of_none e hD0)]
      exact g.out b u e (g1.out b u e n)
    · by_cases hb : b = D
      · subst hb; rw [upd_same] at e; rw [hDl]; exact e
      · rw [upd_ne hb] at e; exact o.gh _ _ e
    · obtain ⟨a, b, u, h2, h3⟩ := o.ow q hq
      exact ⟨a, by rw [upd_ne (fr _ q hq)]; exact b, u, h2, q.2.mono sm h3⟩
variable {D : Ends} {rest : List Stmt} {spos py : Pos} {y : Str}
/-- y = [.. if ..], the tests change what is ours -/
theorem s_setLcS (N : List Str) (sc : Scope) (own : List (Str × Nat)) {Ωi : Nat → Om} {t : α → Bool} {R : α → VP} (Γt : α → Cn) (ts : List Nat) (hst : Sat G0 H0 Γ (Ωi 0) σ H) (hA : ∀ i, (Ωi i).map (·.1) = (Ωi 0).map (·.1)) (i : Nat) (hi : IG X tg iter Γ (Ωi 0) xs F) (hz : xs.length ≤ sizeLine)
    (hg : ∀ s H C cl fp, ∀ i x, xs[i]? = some x → TgG (bX X s H scope C cl fp) tg (F x) (wipeC Γ (own.map (·.2))) (Ωi i) (Γt x) ts)
    (ht : ∀ s H C cl fp, ∀ i x, xs[i]? = some x → PTs (bX X s H scope C cl fp) ifs (tGMT (Γt x) (Ωi i) (Ωi (i + 1)) (t x)))
    (he : ∀ s H C cl fp, ∀ i x, xs[i]? = some x → t x = true → EG (bX X s H scope C cl fp) (Γt x) (Ωi (i + 1)) elt (R x))
    (k : ∀ σ' H', Sat G0 H0 (Γ.set i (some (vL ((xs.filter t).map R)))) (Ωi xs.length) σ' H' → wpS X rest D σ' H')
    (hN : X.N.Nodup) (hy : X.N[i]? = some y := by rfl) (ok : blkC N sc scope own = true := by decide +kernel) (hX : X.N = N ∧ X.env.scope = sc := by exact ⟨rfl, rfl⟩) (hts : ∀ i ∈ ts, i ∈ own.map (·.2) := by decide) (hc : X.calm = true := by rfl) (hyl : X.env.scope.names.lookup y = some .local := by rfl)
    (hsw : swapsWith (.ListComp elt [⟨tg, iter, ifs, 0⟩] scope pos) (some (.Name y py)) spos.line X.env = pure true := by exact sw_true rfl rfl rfl (by decide +kernel)) (hs : ∀ x, foldedSetIterable iter X.env x = pure x := by intro _; rfl) :
    wpS X (.Assign [.Name y py] (.ListComp elt [⟨tg, iter, ifs, 0⟩] scope pos) spos :: rest) D σ H := by
  refine wp_cons (ps_setLc (own := own) (i := i) (g := fun v σ H Q => ∃ i x, xs[i]? = some x ∧ tGg (F x) (wipeC Γ (own.map (·.2))) (Ωi i) (Γt x) ts v σ H Q) (tt := fun σ H Q => ∃ i x, xs[i]? = some x ∧ tGMT (Γt x) (Ωi i) (Ωi (i + 1)) (t x) σ H Q) (te := fun σ H Q => ∃ i x, xs[i]? = some x ∧ t x = true ∧ tG (Γt x) (Ωi (i + 1)) (R x) σ H Q) hc hN hy hyl hsw hi (blkOk_by (by rw [hX.1, hX.2]; exact ok)) ?_ ?_ ?_ hs) ?_
  · exact fun s H C cl fp => ⟨fun pins s' σ H' v u Q I r ⟨i, x, hx, h⟩ => (hg s H C cl fp i x hx).run pins s' σ H' v u Q I r h⟩
  · exact fun s H C cl fp => ⟨fun pins s' σ H' Q I ⟨i, x, hx, h⟩ => (ht s H C cl fp i x hx).run pins s' σ H' Q I h⟩
  · exact fun s H C cl fp => ⟨fun pins s' σ H' Q I ⟨i, x, hx, hb, h⟩ => (he s H C cl fp i x hx hb).run pins s' σ H' Q I h⟩
  · exact ⟨G0, H0, hst, fun J G1 H1 g1 o1 w => lc_in hA hts hz g1 o1 w fun v G H' g o q => k _ H' ⟨G, g, o.set q⟩⟩
/-- y = [..] over what is known only once it is there -/
theorem s_setLcE {Ω : Om} {ψ : List α → Prop} (N : List Str) (sc : Scope) (own : List (Str × Nat)) {R : α → VP} (Γt : α → Cn) (ts : List Nat) (hst : Sat G0 H0 Γ Ω σ H) (i : Nat) (hi : IGE X tg iter Γ Ω ψ F) (hz : ∀ xs, ψ xs → xs.length ≤ sizeLine)
    (hg : ∀ s H C cl fp, ∀ x, TgG (bX X s H scope C cl fp) tg (F x) (wipeC Γ (own.map (·.2))) Ω (Γt x) ts)
    (he : ∀ s H C cl fp, ∀ x, EG (bX X s H scope C cl fp) (Γt x) Ω elt (R x))
    (k : ∀ xs, ψ xs → ∀ σ' H', Sat G0 H0 (Γ.set i (some (vL (xs.map R)))) Ω σ' H' → wpS X rest D σ' H')
    (hN : X.N.Nodup) (hy : X.N[i]? = some y := by rfl) (ok : blkC N sc scope own = true := by decide +kernel) (hX : X.N = N ∧ X.env.scope = sc := by exact ⟨rfl, rfl⟩) (hts : ∀ i ∈ ts, i ∈ own.map (·.2) := by decide) (hc : X.calm = true := by rfl) (hyl : X.env.scope.names.lookup y = some .local := by rfl)
    (hsw : swapsWith (.ListComp elt [⟨tg, iter, [], 0⟩] scope pos) (some (.Name y py)) spos.line X.env = pure true := by exact sw_true rfl rfl rfl (by decide +kernel)) (hs : ∀ x, foldedSetIterable iter X.env x = pure x := by intro _; rfl) :
    wpS X (.Assign [.Name y py] (.ListComp elt [⟨tg, iter, [], 0⟩] scope pos) spos :: rest) D σ H := by
  refine wp_cons (ps_setLc (own := own) (i := i) (g := fun v σ H Q => ∃ x, tGg (F x) (wipeC Γ (own.map (·.2))) Ω (Γt x) ts v σ H Q) (tt := fun σ H Q => ∃ x, tGMT (Γt x) Ω Ω true σ H Q) (te := fun σ H Q => ∃ x, tG (Γt x) Ω (R x) σ H Q) hc hN hy hyl hsw hi (blkOk_by (by rw [hX.1, hX.2]; exact ok)) ?_ ?_ ?_ hs) ?_
  · exact fun s H C cl fp => ⟨fun pins s' σ H' v u Q I r ⟨x, h⟩ => (hg s H C cl fp x).run pins s' σ H' v u Q I r h⟩
  · exact fun s H C cl fp => ⟨fun pins s' σ H' Q I ⟨x, h⟩ => pts_yes.run pins s' σ H' Q I h⟩
  · exact fun s H C cl fp => ⟨fun pins s' σ H' Q I ⟨x, h⟩ => (he s H C cl fp x).run pins s' σ H' Q I h⟩
  · refine ⟨G0, H0, hst, fun J G1 H1 g1 o1 ⟨xs, hx, w⟩ D' hD => ?_⟩
    obtain ⟨W, h0, hW⟩ := lc_in (own := own) (Ωi := fun _ => Ω) (t := fun _ => true) (R := R) (Γt := Γt) (Q := fun v H' => wpS X rest D (σ.set i (some v)) H') (fun _ => rfl) hts (hz xs hx) g1 o1 w (fun v G H' g o q => k xs hx _ H' ⟨G, g, o.set (by rw [List.filter_eq_self.mpr (fun _ _ => rfl)] at q; exact q)⟩) D' hD
    refine ⟨W, h0, fun j m H hw => ?_⟩
    rcases hW j m H hw with h | ⟨hgo, Nx, h1, h2⟩
    · exact .inl h
    · refine .inr ⟨hgo, Nx, h1, fun x H' hy => ?_⟩
      obtain ⟨j', x', _, G2, H2, h3, h4⟩ := h2 x H' hy
      refine ⟨x', G2, H2, h3, fun σ' G' H'' on g o => ?_⟩
      obtain ⟨h5, j2, x2, _, G3, H3, h6, h7⟩ := h4 σ' G' H'' on g o
      refine ⟨h5, x2, G3, H3, h6, fun G'' H''' g' o' => ?_⟩
      have h8 := h7 G'' H''' g' o'
      dsimp only at h8
      rw [if_pos rfl] at h8
      show (if true = true then _ else _)
      rw [if_pos rfl]
      obtain ⟨j3, x3, _, _, h9⟩ := h8
      exact ⟨x3, h9⟩
end
/-- for .. in range(n), n known only once it is there -/
theorem ige_range1 {X : Cx} {Γ : Cn} {Ω : Om} {tg a : Expr} {p pos : Pos} {φ : Nat → Prop} (ha : EG X Γ Ω a (vEx φ fun n => vI (n : Int))) (hn : ∀ n, φ n → n < 2 ^ 62) (hm : X.mg "range" = none) (hg : Gl X "range" := by rfl) (hs : starEach [a] X.env = [(false, eval a X.env)] := by rfl) :
    IGE X tg (.Call (.Name "range" p) [a] [] pos) Γ Ω (fun xs => ∃ n : Nat, φ n ∧ xs = upTo 0 (n : Int)) vI := weakI (pi_range1 hg hm (ag_cons ha ag_nil hs) hs) fun σ H R ⟨G0, H0, s, k⟩ => ⟨G0, H0, s, fun vs G H' g o q => by
  cases q with
  | cons q t =>
    cases t
    obtain ⟨n, hφ, q⟩ := q
    have e : _ = V.int (n : Int) := q
    subst e
    have := hn n hφ
    refine ⟨n, rfl, by omega, by omega, k _ G H' g o ⟨_, ⟨n, hφ, rfl⟩, ?_⟩⟩
    have := walk_ints (lo := 0) (hi := (n : Int)) (G := G)
    rw [Int.sub_zero] at this
    exact this⟩
/-- a call whose case is known only once its arguments are, and whose thing is told alike behind it -/
theorem eg_callSE {X : Cx} {Γ : Cn} {Ω : Om} {pos p : Pos} {e : Expr} {es : List Expr} {x : Str} {k j : Nat} {α : Type} {φ : α → Prop} {A : α → Addr → List VP} {R0 R1 : α → OP} {R : α → VP} {a : Addr} {As : List VP} {R' : OP} {P' : VP} (F : FGm X.prog X.w X.K X.mg X.base j x φ A R0 R1 R) (hr : Room k X.A) (hk : j ≤ k) (i : Nat) (hj : Ω[i]? = some (a, R')) (ha : AG X Γ Ω (e :: es) As)
    (sel : ∀ vs G, PV As vs G → ∃ y, φ y ∧ PV (A y a) vs G ∧ R0 y = R' ∧ R1 y = R' ∧ ∀ v G', (R y).p v G' → P'.p v G') (hg : Gl X x := by rfl)
    (hdb : (x == ("__debug__" : Str)) = false := by decide) (he : starEach (e :: es) X.env = (false, eval e X.env) :: starEach es X.env := by rfl) (hpl : (backTo pos (starEach es X.env)).any (·.1) = false := by rfl) : EG X Γ Ω (.Call (.Name x p) (e :: es) [] pos) P' := by
  obtain ⟨f, fd, ps, ok, hm, hkp, hb⟩ := F.ex
  refine weak (pe_call (E := E0) ok (hr.mono hk) hg hm hkp hb .nil pass0 ha hdb he hpl) fun σ H Q ⟨G0, H0, s, k⟩ => ⟨G0, H0, s, fun vs G1 H1 g1 o1 q1 => ?_⟩
  obtain ⟨y, hy, hA, e0, e1, hR⟩ := sel vs G1 q1
  show Pm φ A R0 R1 R (vs ++ []) H1 Q E0
  rw [List.append_nil]
  refine pm_out (Γ := Γ) (Ω := Ω) (i := i) (a := a) g1 o1 hy (by rw [e0]; exact hj) hA fun v G H' g o q => k v G H' g ?_ (hR v G q)
  have e2 : Ω.set i (a, R1 y) = Ω := by
    rw [e1]
    refine List.ext_getElem? fun m => ?_
    by_cases hm : i = m
    · subst hm; rw [List.getElem?_set_self (lt_of_some hj), hj]
    · rw [List.getElem?_set_ne hm]
  rw [e2] at o
  exact o
end Ow
namespace Ow
open PySem PySem.Spec PyProof.Rows L2 He
/-! ### two ways that meet -/
section
variable {X : Cx} {G0 H0 H : Hp} {Γ : Cn} {Ω : Om} {σ : L2.St} {D : Ends} {rest : List Stmt} {pos : Pos}
theorem wpS_nx {J J' : L2.St → Hp → Prop} {sts : List Stmt} (h : ∀ σ H, J σ H → J' σ H) (w : wpS X sts { D with nx := J } σ H) : wpS X sts { D with nx := J' } σ H := fun pins s I => by
  refine wpAny_mono (w pins s I) (fun fl s' q => ?_) fun _ _ q => q
  cases fl with
  | ret u => exact q
  | next => obtain ⟨σ', H', I', q⟩ := q; exact ⟨σ', H', I', h _ _ q⟩
  | brk => exact q
  | cont => exact q
theorem s_ifJ {c : Expr} {a b : List Stmt} {φ : Bool → Prop} (J : L2.St → Hp → Prop) (hs : Sat G0 H0 Γ Ω σ H) (hc : TGE X Γ Ω c φ) (ha : φ true → ∀ H', Sat G0 H0 Γ Ω σ H' → wpS X a { D with nx := J } σ H')
    (hb : φ false → ∀ H', Sat G0 H0 Γ Ω σ H' → wpS X b { D with nx := J } σ H') (k : ∀ σ H, J σ H → wpS X rest D σ H) : wpS X (.If c a b pos :: rest) D σ H :=
  s_ifU hs hc (fun h H' s => wpS_nx k (ha h H' s)) (fun h H' s => wpS_nx k (hb h H' s))
theorem tge_cmp {a b : Expr} {Pa Pb : VP} {op : CmpOp} {r : R2} {φ : Bool → Prop} (ho : OpR X (compareOp op) r) (hr : RG r Pa Pb (vEx φ vB)) (ha : EG X Γ Ω a Pa) (hb : EG X Γ Ω b Pb) (hm : behindInMarks op b = false) : TGE X Γ Ω (.Compare a [op] [b] pos) φ :=
  weakT (pt_cmpR ho ha hb hm) fun σ H Q ⟨G0, H0, s, w⟩ => tOp_g (ta := tC .non) (tb := tC .non) hr σ H _ ⟨G0, H0, s, fun v G H' g o ⟨k, hk, q⟩ => ⟨k, q, w k G H' hk g o⟩⟩
theorem tge_of {c : Expr} {k : Bool} (h : TG X Γ Ω c k) : TGE X Γ Ω c (· = k) := weakT h fun σ H Q ⟨G0, H0, s, w⟩ => ⟨G0, H0, s, fun G H' g o => w k G H' rfl g o⟩
end
end Ow
namespace Ow
open PySem PySem.Spec PyProof.Rows L2 He
/-! ### a def that hands over a new thing -/
def Pn {α β : Type} (φ : α → Prop) (A : α → List VP) (ψ : α → β → Prop) (R : β → OP) : Sp := fun vs H Q _ => ∃ y G, φ y ∧ PV (A y) vs G ∧ Same G H ∧ ∀ z a G' H', ψ y z → Step G H G' H' → H a = none → G' a = none → (∃ o, H' a = some o ∧ (R z).p o G') → Q (.ref a) H'
structure FGn (P : Program) (w : World) (K : PySem.W.Frag) (mg : Str → Option Value) (base : Heap) (k : Nat) (x : Str) {α β : Type} (φ : α → Prop) (A : α → List VP) (ψ : α → β → Prop) (R : β → OP) : Prop where
  ex : ∃ f fd ps, FnOk P w K mg base CX0 k f fd ps (Pn φ A ψ R) ∧ mg x = some (.ref f) ∧ PySem.W.keepIn K (.ref f) = true ∧ Binds K fd ps []
section
variable {P : Program} {w : World} {K : PySem.W.Frag} {mg : Str → Option Value} {base : Heap}
theorem fgn {x : Str} {st : Stmt} {N ps : List Str} {k : Nat} {α β : Type} {φ : α → Prop} {A : α → List VP} {ψ : α → β → Prop} {R : β → OP} (hd : ∃ fd, FunD K x x (defArgs st) (defBody st) (defScope st) [] [] (ga K x) fd) (hm : mg x = some (.ref (ga K x))) (S : FnScope N ps (defScope st)) (hl : ∀ y, φ y → (A y).length = ps.length)
    (hbd : ∀ (kV doc pm : Value) (an : Option Addr) (cdv ct : Value) (us : List Value), us.length = ps.length → bindArgs (PySem.W.fnOf x x (defArgs st) (defBody st) (defScope st) .none kV doc pm an cdv ct) ⟨us, []⟩ = pure (ps.zip us))
    (hb : ∀ (cdv : Value) (Ar : Around) (outer : List Env) (s : Shared) (H : Hp) (E : XK) (y : α) (G : Hp) (Q : VK) (σ : L2.St), Room k (Ar.deeper (envOfC x (defScope st) s.heap.objs.size (ga K x) cdv)) → φ y → Sat G H (stC N (A y)) [] σ H →
      (∀ z Γ' σ' a G' H', ψ y z → Grow G H G' H' → Ok H Γ' [(a, R z)] σ' G' H' → Q (.ref a) H') → wpS (bodyX P w K mg base N x (defScope st) (ga K x) cdv Ar outer s H E) (defBody st) { nx := fun _ H' => Q .non H', rt := Q } σ H) : FGn P w K mg base (k + 1) x φ A ψ R := by
  obtain ⟨fd, F⟩ := hd
  refine ⟨_, fd, ps, F.ok S (fun vs H Q E h => ?_) (fun cdv Ar outer s H vs Q E hr h => ⟨_, PSs.nox pss_wp, ?_⟩), hm, F.kp, F.bindsN hbd⟩
  · obtain ⟨y, G, hy, q, _⟩ := h
    rw [← Paired.length q]; exact hl y hy
  · obtain ⟨y, G, hy, q, sm, kk⟩ := h
    refine hb cdv Ar outer s H E y G Q _ hr hy ⟨G, Grow.refl, start_ok sm q⟩ fun z Γ' σ' a G' H' hz g o => ?_
    obtain ⟨h0, h1, u, h2, h3⟩ := o.ow _ List.mem_cons_self
    exact kk z a G' H' hz (g.toStep o.gh) h0 h1 ⟨u, h2, h3⟩
end
section
variable {X : Cx} {Γ : Cn} {Ω : Om} {pos p : Pos} {e : Expr} {es : List Expr} {x : Str} {k j : Nat} {α β : Type} {φ : α → Prop} {A : α → List VP} {ψ : α → β → Prop} {R : β → OP}
theorem ng_call (F : FGn X.prog X.w X.K X.mg X.base j x φ A ψ R) (hr : Room k X.A) (hk : j ≤ k) (y : α) (hy : φ y) (ha : AG X Γ Ω (e :: es) (A y)) (hg : Gl X x := by rfl)
    (hdb : (x == ("__debug__" : Str)) = false := by decide) (he : starEach (e :: es) X.env = (false, eval e X.env) :: starEach es X.env := by rfl) (hpl : (backTo pos (starEach es X.env)).any (·.1) = false := by rfl) : NG X Γ Ω (.Call (.Name x p) (e :: es) [] pos) (oEx (ψ y) R) := by
  obtain ⟨f, fd, ps, ok, hm, hkp, hb⟩ := F.ex
  refine weak (pe_call (E := E0) ok (hr.mono hk) hg hm hkp hb .nil pass0 ha hdb he hpl) fun σ H Q ⟨G0, H0, s, k⟩ => ⟨G0, H0, s, fun vs G1 H1 g1 o1 q1 => ?_⟩
  show Pn φ A ψ R (vs ++ []) H1 Q E0
  rw [List.append_nil]
  refine ⟨y, G1, hy, q1, o1.gh, fun z a G' H' hz st ha hn ⟨u, hu, hr⟩ => k a G' H' (g1.step st) ?_⟩
  have o2 := o1.step st
  refine ⟨o2.gh, o2.len, o2.im, fun q hq => ?_, ?_⟩
  · rcases List.mem_cons.mp hq with rfl | hq
    · exact ⟨g1.h.free ha, hn, u, hu, z, hz, hr⟩
    · exact o2.ow q hq
  · rw [List.map_cons, List.nodup_cons]
    refine ⟨fun hm => ?_, o2.nd⟩
    obtain ⟨q, hq, e⟩ := List.mem_map.mp hm
    obtain ⟨_, _, v, hv, _⟩ := o1.ow q hq
    rw [e, ha] at hv; cases hv
end
/-! ### [d[k][1] for k in d], d a dict of ours -/
theorem valV_of {β : Type} {F : β → VP} {d : List (List Key × β)} {us : List (List Key × V)} {G : Hp} (pd : PD F d us G) {i : Nat} {k : List Key} {v : V} (h : us[i]? = some (k, v)) : ∃ x, d[i]? = some (k, x) := by
  induction pd generalizing i with
  | nil => simp at h
  | @cons q u d us r t ih =>
    cases i with
    | zero =>
      simp at h
      subst h
      have e : q.1 = k := r.1
      exact ⟨q.2, by rw [← e]; rfl⟩
    | succ i =>
      obtain ⟨x, hx⟩ := ih (by simpa using h)
      exact ⟨x, by simpa using hx⟩
theorem dG_some {β : Type} {d : List (List Key × β)} {i : Nat} {k : List Key} {x : β} (h : d[i]? = some (k, x)) : ∃ y, dG d k = some y := by
  unfold dG
  have hm := List.mem_of_getElem? h
  cases e : d.find? fun q => decide (q.1 = k) with
  | some q => exact ⟨q.2, rfl⟩
  | none =>
    have := List.find?_eq_none.mp e (k, x) hm
    simp at this
section
variable {X : Cx} {Γ : Cn} {Ω : Om} {pos : Pos} {tg iter elt : Expr} {scope : Scope} {a : Addr} {d : List (List Key × (Nat × Nat))}
theorem eg_dvals (N : List Str) (sc : Scope) (own : List (Str × Nat)) (i m j : Nat) (hi : Γ[i]? = some (some (vR a))) (hj : Ω[j]? = some (a, oDT (fun q => vT X.K [vI q.1, vI q.2]) d)) (hz : d.length ≤ sizeLine) (hit : PE X iter (tVar i)) (hm : m ∈ own.map (·.2)) (hml : m < Γ.length) (hio : i ∉ own.map (·.2))
    (hg : ∀ s H C cl fp, PG (bX X s H scope C cl fp) tg (gName m)) (he : ∀ s H C cl fp, PE (bX X s H scope C cl fp) elt (tOp (rIxT X.K) (tDGet (tVar i) (tVar m)) (tC (.int 1))))
    (hN : X.N.Nodup) (ok : blkC N sc scope own = true := by decide +kernel) (hX : X.N = N ∧ X.env.scope = sc := by exact ⟨rfl, rfl⟩) (hc : X.calm = true := by rfl) (hs : ∀ x, foldedSetIterable iter X.env x = pure x := by intro _; rfl) :
    EG X Γ Ω (.ListComp elt [⟨tg, iter, [], 0⟩] scope pos) (vL ((d.map fun q => ((((dG d q.1).getD (0, 0)).2 : Nat) : Int)).map vI)) := by
  refine weak (pe_lock (pe_lc (own := own) hc hN (pi_keys hit) (blkOk_by (by rw [hX.1, hX.2]; exact ok)) hg (fun _ _ _ _ _ => pts_nil) he hs)) fun σ H Q ⟨G0, H0, ⟨G, g, o⟩, k⟩ => ?_
  obtain ⟨h0, hGa, u, hu, us, rfl, pd⟩ := o.ow _ (List.mem_of_getElem? hj)
  obtain ⟨va, hva, ea⟩ := o.im i _ hi
  have ea' : va = V.ref a := ea
  subst ea'
  have lud : us.length = d.length := (Paired.length pd).symm
  refine ⟨a, .dT us, hu, True.intro, fun od => ⟨.ref a, hva, a, od, rfl, .inr ⟨us, upd_same, fun D hD => ?_⟩⟩⟩
  have hDa : D ≠ a := fun e => by subst e; rw [upd_same] at hD; cases hD
  have hHD : H D = Option.none := by rw [upd_ne hDa] at hD; exact hD
  let L : List Int := d.map fun q => ((((dG d q.1).getD (0, 0)).2 : Nat) : Int)
  let HL : Hp := upd H a (.frz od (.dT us))
  have key := lc_it (J := Itkt a od us) (n := us.length) (walk_keysT (d := a) (o := od) (kvs := us)) (g := gName m) (tt := tYes) (te := tOp (rIxT X.K) (tDGet (tVar i) (tVar m)) (tC (.int 1))) (vs := own.map (·.2)) (σ := σ) (H1 := HL) (D := D) (Qd := fun H' => H' a = some (.frz od (.dT us)) ∧ Q (.ref D) (upd H' a (.dT us))) (fun n H' => H' = upd HL D (.lst ((L.take n).map V.int))) ?h0 ?hG ?hs ?hd
  · exact key
  case h0 => rfl
  case hG =>
    rintro n H' _ rfl
    rw [upd_ne (fun e => hDa e.symm)]
    exact upd_same
  case hs =>
    rintro n x H1 H2 hn rfl ⟨rfl, kk, v, q, hk, rfl, hq⟩
    refine ⟨?_, ?_⟩
    · refine wipe_twice (ts := [m]) ⟨by rw [List.length_set], fun t ht => List.getElem?_set_ne (show m ≠ t from fun e => ht (by rw [e]; exact List.mem_singleton.mpr rfl))⟩ fun t ht => by rw [List.mem_singleton.mp ht]; exact hm
    · dsimp only [tYes]
      rw [if_pos rfl]
      have hsl : m < (L2.wipe σ (own.map (·.2))).length := by rw [wipe_length, o.len]; exact hml
      have hil : m ≠ i := fun e => hio (by rw [← e]; exact hm)
      obtain ⟨x0, hd⟩ := valV_of pd hk
      obtain ⟨be, hbe⟩ := dG_some hd
      obtain ⟨v', hv', t, vs, et, ht, qt⟩ := pd.get.1 be hbe
      subst et
      have hrd : Rd (upd HL D (.lst ((L.take n).map V.int))) a (.dT us) := .inr ⟨od, by rw [upd_ne (fun e => hDa e.symm)]; exact upd_same⟩
      refine ⟨.ref a, ?_, .ref q, ?_, a, .ref t, rfl, .inr ⟨us, kk, q, hrd, rfl, hq, hv'.symm⟩, ?_⟩
      · rw [List.getElem?_set_ne hil, wipe_out hio]; exact hva
      · rw [List.getElem?_set_self hsl]
      · have sm : Same G (upd HL D (.lst ((L.take n).map V.int))) := fun b w e => by
          have hba : b ≠ a := ne_of_none e hGa
          rw [upd_ne (ne_of_none (o.gh _ _ e) hHD)]
          show upd H a _ b = some w
          rw [upd_ne hba]; exact o.gh _ _ e
        have evs : vs = [V.int be.1, V.int be.2] := PV.ints (ns := [(be.1 : Int), (be.2 : Int)]) qt
        subst evs
        refine ⟨t, _, 1, .int (be.2 : Nat), rfl, rfl, SqT.same sm ht, rfl, _, upd_same, ?_, ?_⟩
        · rw [List.length_map, List.length_take]
          show min n L.length < sizeLine
          omega
        · have eL : L[n]? = some ((be.2 : Nat) : Int) := by
            show (d.map _)[n]? = _
            rw [List.getElem?_map, hd]
            show some ((((dG d kk).getD (0, 0)).2 : Nat) : Int) = _
            rw [hbe]; rfl
          have eT : L.take (n + 1) = L.take n ++ [((be.2 : Nat) : Int)] := by rw [List.take_add_one, eL]; rfl
          rw [eT, List.map_append]
          funext b
          by_cases hb : b = D
          · subst hb; rw [upd_same, upd_same]; rfl
          · rw [upd_ne hb, upd_ne hb, upd_ne hb]
  case hd =>
    rintro H' rfl
    have lL : L.take us.length = L := by rw [lud]; exact List.take_of_length_le (by show (d.map _).length ≤ _; rw [List.length_map]; exact Nat.le_refl _)
    rw [lL]
    refine ⟨by rw [upd_ne (fun e => hDa e.symm)]; exact upd_same, ?_⟩
    have eH : upd (upd HL D (.lst (L.map V.int))) a (.dT us) = upd H D (.lst (L.map V.int)) := by
      funext b
      by_cases hb : b = a
      · subst hb
        rw [upd_same, upd_ne (fun e => hDa e.symm)]; exact hu.symm
      · rw [upd_ne hb]
        by_cases hb2 : b = D
        · subst hb2; rw [upd_same, upd_same]
        · rw [upd_ne hb2, upd_ne hb2]
          show upd H a _ b = H b
          rw [upd_ne hb]
    rw [eH]
    have st := Step.new (o := .lst (L.map V.int)) o.gh hHD
    refine k (.ref D) _ _ (g.step st) (o.step st) ⟨D, _, rfl, upd_same, ?_⟩
    have : ∀ ns : List Int, PV (ns.map vI) (ns.map V.int) (upd G D (.lst (L.map V.int))) := fun ns => by
      induction ns with
      | nil => exact .nil
      | cons n ns ih => exact .cons rfl ih
    exact this L
end
end Ow
namespace Ow
open PySem PySem.Spec PyProof.Rows L2 He
/-! ### numbers drawn -/
def oPu : OP := oEx (fun _ : Int × Int => True) (fun q => oL [vI q.1, vI q.2])
theorem boot_divmod : bootBuiltins "divmod" = some (.builtin "divmod") := by first | rfl | kernel_rfl
theorem boot_abs : bootBuiltins "abs" = some (.builtin "abs") := by first | rfl | kernel_rfl
section
variable {X : Cx} {Γ : Cn} {Ω : Om} {pos p : Pos} {e a b : Expr} {i j : Int}
theorem ru_divmod {K : PySem.W.Frag} (h : CDiv i j) : RU (fun xs H Q => ∃ i j, xs = [V.int i, V.int j] ∧ CDiv i j ∧ ∀ p, H p = none → Q (.ref p) (upd H p (.tup [.int (i / j), .int (i % j)]))) [vI i, vI j] (vT K [vI (i / j), vI (i % j)]) := fun vs G H Q sm q k => by
  have e : vs = [V.int i, V.int j] := PV.ints (ns := [i, j]) q
  subst e
  exact ⟨i, j, rfl, h, fun p hp => k _ _ _ (Step.new sm hp) ⟨p, _, rfl, SqT.of upd_same, .cons rfl (.cons rfl .nil)⟩⟩
theorem eg_divmod (h : CDiv i j) (hm : X.mg "divmod" = none) (ha : EG X Γ Ω a (vI i)) (hb : EG X Γ Ω b (vI j)) (hg : Gl X "divmod" := by rfl) (h1 : starEach [a, b] X.env = (false, eval a X.env) :: starEach [b] X.env := by rfl) (h2 : starEach [b] X.env = (false, eval b X.env) :: starEach [] X.env := by rfl) (h3 : (backTo pos (starEach [b] X.env)).any (·.1) = false := by rfl) : EG X Γ Ω (.Call (.Name "divmod" p) [a, b] [] pos) (vT X.K [vI (i / j), vI (i % j)]) :=
  eg_callB call_divmod (ru_divmod h) hg hm boot_divmod (ag_cons ha (ag_cons hb ag_nil h2) h1) (by decide) (by decide) h1 h3
theorem ru_int1 : RU (fun xs H Q => (∃ i, xs = [V.int i] ∧ Q (.int i) H) ∨ ∃ k, xs = [V.bl k] ∧ Q (.int (if k then 1 else 0)) H) [vI i] (vI i) := fun vs G H Q sm q k => by
  have e : vs = [V.int i] := PV.ints (ns := [i]) q
  subst e
  exact .inl ⟨i, rfl, k _ _ _ (Step.refl sm) rfl⟩
theorem eg_int1 (hm : X.mg "int" = none) (ha : EG X Γ Ω a (vI i)) (hg : Gl X "int" := by rfl) (h1 : starEach [a] X.env = (false, eval a X.env) :: starEach [] X.env := by rfl) (h3 : (backTo pos (starEach [] X.env)).any (·.1) = false := by rfl) : EG X Γ Ω (.Call (.Name "int" p) [a] [] pos) (vI i) :=
  eg_callTy call_int1 ru_int1 hg hm boot_int (ag_cons ha ag_nil h1) (by decide) (by decide) h1 h3
theorem ru_abs : RU (fun xs H Q => ∃ i, xs = [V.int i] ∧ Q (.int (if i < 0 then -i else i)) H) [vI i] (vI (if i < 0 then -i else i)) := fun vs G H Q sm q k => by
  have e : vs = [V.int i] := PV.ints (ns := [i]) q
  subst e
  exact ⟨i, rfl, k _ _ _ (Step.refl sm) rfl⟩
theorem eg_abs (hm : X.mg "abs" = none) (ha : EG X Γ Ω a (vI i)) (hg : Gl X "abs" := by rfl) (h1 : starEach [a] X.env = (false, eval a X.env) :: starEach [] X.env := by rfl) (h3 : (backTo pos (starEach [] X.env)).any (·.1) = false := by rfl) : EG X Γ Ω (.Call (.Name "abs" p) [a] [] pos) (vI (if i < 0 then -i else i)) :=
  eg_callB call_abs ru_abs hg hm boot_abs (ag_cons ha ag_nil h1) (by decide) (by decide) h1 h3
end
section
variable {P : Program} {w : World} {K : PySem.W.Frag} {mg : Str → Option Value} {base : Heap}
theorem g_law_dig (T : Txt K mg) : FGm P w K mg base 1 "_law_dig" (fun n : Nat => 0 < n ∧ n ≤ 1000) (fun n a => [vR a, vIn n]) (fun _ => oPu) (fun _ => oPu) (fun n => vEx (fun r : Nat => r < n) vIn) := by
  refine fgm T.d_law_dig T.g_law_dig sc_law_dig (fun _ _ _ => rfl) (fun _ _ _ _ _ _ us hl => match us, hl with | [_, _], _ => rfl) ?_
  rintro cdv Ar outer s0 H0 H1 E n a G Q σ hr ⟨h1, h2⟩ hs k
  obtain ⟨⟨i, d⟩, _, hs⟩ := hs.exO 0 rfl
  have rd : ∀ {Γ : Cn} {e : Expr} {pos : Pos}, True := fun {_ _ _} => trivial
  have cd : CDiv d (n : Int) := ⟨by omega, by omega⟩
  have fin : ∀ (m : Int), ∃ r : Nat, r < n ∧ m % (n : Int) = (r : Int) := fun m => by
    have l1 := Int.emod_nonneg m (b := (n : Int)) (by omega)
    have l2 := Int.emod_lt_of_pos m (b := (n : Int)) (by omega)
    exact ⟨(m % (n : Int)).toNat, by omega, by omega⟩
  refine s_if hs (tGt (i := d) (j := 0) (eg_borrow [some (vL [vI i, vI d]), some (vIn n), none] (BC.ok (bc_list List.mem_cons_self (.same (.same .nil)))) (mut_L mut_nil) surv_is (gIxL rfl (eg_var (i := 0) rfl rfl) eg_int)) eg_int) (fun hd H hs => ?_) (fun hd H hs => ?_)
  · refine s_asgT (P := vT K [vI (d / n), vI (d % n)]) (Γ1 := [some (vR a), some (vIn n), some (vI (d % n))]) (Ω1 := [(a, oL [vI i, vI (d / n)])]) hs ?he ?hg ?hk
    case he => exact eg_divmod cd T.f_divmod (eg_borrow [some (vL [vI i, vI d]), some (vIn n), none] (BC.ok (bc_list List.mem_cons_self (.same (.same .nil)))) (mut_L mut_nil) surv_is (gIxL rfl (eg_var (i := 0) rfl rfl) eg_int)) (eg_var (i := 1) rfl rfl)
    case hg => exact gtm_tup (gtms_cons (gtm_item (a := a) 0 rfl rfl (eg_var (i := 0) rfl rfl) eg_int) (gtms_cons (gtm_name 2 sc_law_dig.nd) gtms_nil))
    case hk =>
      intro σ H hs
      have hs2 : Sat G H0 [some (vR a), some (vIn n), some (vI (d % n))] [(a, oPu)] σ H := hs.mkO (φ := fun _ : Int × Int => True) (F := fun q => oL [vI q.1, vI q.2]) (x := (i, d / n)) 0 trivial rfl
      refine s_retS hs2 (eg_var (i := 2) rfl rfl) fun v G' H' g o q => k _ _ v G' H' g o ?_
      obtain ⟨r, h3, h4⟩ := fin d
      exact ⟨r, h3, by rw [h4] at q; exact q⟩
  · have hm : CMul i 69621 := .inr ⟨by decide, by decide⟩
    refine wp_nil (s_item (P := vI ((i * 69621 + 17) % 2147483629)) 0 hs rfl rfl (gMod (by decide) (eg_int1 T.f_int (gAdd (gMul hm (eg_borrow [some (vL [vI i, vI d]), some (vIn n), none] (BC.ok (bc_list List.mem_cons_self (.same (.same .nil)))) (mut_L mut_nil) surv_is (gIxL rfl (eg_var (i := 0) rfl rfl) eg_int)) eg_int) eg_int)) eg_int) (eg_var (i := 0) rfl rfl) eg_int (fun H hs => ?_))
    generalize (i * 69621 + 17) % 2147483629 = i2 at hs
    have hs : Sat G H0 [some (vR a), some (vIn n), none] [(a, oL [vI i2, vI d])] σ H := hs
    have cd2 : CDiv i2 512 := ⟨by decide, by decide⟩
    have hs2 : Sat G H0 [some (vR a), some (vIn n), none] [(a, oPu)] σ H := hs.mkO (φ := fun _ : Int × Int => True) (F := fun q => oL [vI q.1, vI q.2]) (x := (i2, d)) 0 trivial rfl
    refine s_retS hs (gMod (i := i2 / 512) (by omega) (eg_int1 T.f_int (gDiv cd2 (eg_borrow [some (vL [vI i2, vI d]), some (vIn n), none] (BC.ok (bc_list List.mem_cons_self (.same (.same .nil)))) (mut_L mut_nil) surv_is (gIxL rfl (eg_var (i := 0) rfl rfl) eg_int)) eg_int)) (eg_var (i := 1) rfl rfl)) fun v G' H' g o q => ?_
    have o2 : Ok H0 [some (vR a), some (vIn n), none] [(a, oPu)] σ G' H' := o.setR (j := 0) rfl fun u _ hu => ⟨(i2, d), trivial, hu⟩
    refine k _ _ v G' H' g o2 ?_
    obtain ⟨r, h3, h4⟩ := fin (i2 / 512)
    exact ⟨r, h3, by rw [h4] at q; exact q⟩
end
end Ow
namespace Ow
open PySem PySem.Spec PyProof.Rows L2 He
/-! ### drawn things -/
section
variable {X : Cx} {Γ : Cn} {Ω : Om} {pos p : Pos} {e a b : Expr}
theorem gIxLE {α : Type} {xs : List α} {F : α → VP} {n : Nat} (hn : n = xs.length) (ha : EG X Γ Ω a (vL (xs.map F))) (hb : EG X Γ Ω b (vEx (fun r : Nat => r < n) vIn)) (hs : PlainIx b := by exact fun _ _ => rfl) : EG X Γ Ω (.Subscript a b pos) (vEx (· ∈ xs) F) :=
  eg_ix ix_list (rg_exR fun r hr => by
    subst hn
    refine rg_to (rg_ixL (P := F xs[r]) ?_) fun v G q => ⟨xs[r], List.getElem_mem hr, q⟩
    have : atI (xs.map F) ((r : Nat) : Int) = (xs.map F)[r]? := by
      unfold atI ixN
      rw [List.length_map, if_pos (by omega), if_pos (by omega)]
      rfl
    rw [this, List.getElem?_map, List.getElem?_eq_getElem hr]; rfl) ha hb hs
end
section
variable {X : Cx} {Γ : Cn} {Ω : Om} {pos p1 p2 p3 p4 p5 p6 p7 p8 p9 p10 p11 p12 : Pos} {j1 j2 j3 j4 j5 j6 j7 j8 j9 j10 j11 j12 : Nat}
theorem ag_strs : ∀ cs : List (Str × Nat × Pos), AG X Γ Ω (cs.map fun c => .Constant (.str c.1) c.2.1 c.2.2) (cs.map fun c => vS c.1)
  | [] => ag_nil
  | c :: cs => ag_cons eg_str (ag_strs cs) (by rfl)
theorem eg_menu : EG X Γ Ω (.List [.Constant (.str "a") j1 p1, .Constant (.str "b") j2 p2, .Constant (.str "cut") j3 p3, .Constant (.str "weld") j4 p4, .Constant (.str "z9") j5 p5, .Constant (.str "link") j6 p6, .Constant (.str "no") j7 p7, .Constant (.str "k1") j8 p8, .Constant (.str "x") j9 p9, .Constant (.str "station") j10 p10, .Constant (.str "any") j11 p11, .Constant (.str "aa") j12 p12] pos) (vL (menu.map vS)) :=
  eg_lst (Ps := menu.map vS) (ag_strs [("a", j1, p1), ("b", j2, p2), ("cut", j3, p3), ("weld", j4, p4), ("z9", j5, p5), ("link", j6, p6), ("no", j7, p7), ("k1", j8, p8), ("x", j9, p9), ("station", j10, p10), ("any", j11, p11), ("aa", j12, p12)])
end
theorem atI_map {α β : Type} [Inhabited α] {f : α → β} {xs : List α} {m : Nat} {d : α} (h : m < xs.length) : atI (xs.map f) ((m : Nat) : Int) = some (f (xs.getD m d)) := by
  have : atI (xs.map f) ((m : Nat) : Int) = (xs.map f)[m]? := by
    unfold atI ixN
    rw [List.length_map, if_pos (by omega), if_pos (by omega)]
    rfl
  rw [this, List.getElem?_map, List.getD_eq_getElem?_getD, List.getElem?_eq_getElem h]; rfl
section
variable {P : Program} {w : World} {K : PySem.W.Frag} {mg : Str → Option Value} {base : Heap}
theorem words_nd : ∀ b : Fin 12, ∀ s ∈ [1, 5, 7, 11], ∀ n : Fin 4, ((List.range n.1).map fun k => menu.getD ((b.1 + s * k) % 12) "").Nodup := by decide +kernel
def WordsOk (n : Nat) (ws : List Str) : Prop := ws.length = n ∧ ws.Nodup ∧ ∀ s ∈ ws, s ∈ menu
theorem g_law_words (T : Txt K mg) : FGm P w K mg base 2 "_law_words" (fun n : Nat => 1 ≤ n ∧ n ≤ 3) (fun n a => [vR a, vIn n]) (fun _ => oPu) (fun _ => oPu) (fun n => vEx (WordsOk n) (fun ws => vL (ws.map vS))) := by
  refine fgm T.d_law_words T.g_law_words sc_law_words (fun _ _ _ => rfl) (fun _ _ _ _ _ _ us hl => match us, hl with | [_, _], _ => rfl) ?_
  rintro cdv Ar outer s0 H0 H1 E n a G Q σ hr ⟨h1, h2⟩ hs k
  have dg : ∀ {Γ : Cn} {m : Nat}, True := fun {_ _} => trivial
  refine wp_cons (t := tAsg (tG (stC n_law_words [vR a, vIn n]) [(a, oPu)] (vL (menu.map vS))) (gName 2)) ?h ?q
  case h => exact ps_set (x := "_law_menu") sc_law_words.nd rfl (.inr rfl) eg_menu (by kernel_rfl) (.inl rfl)
  refine ⟨G, H0, hs, fun v G1 H' g o q => ?_⟩
  have hs : Sat G H0 [some (vR a), some (vIn n), some (vL (menu.map vS)), none, none, none] [(a, oPu)] (σ.set 2 (some v)) H' := ⟨G1, g, o.set (i := 2) q⟩
  refine s_asg hs (P := vT K [vEx (fun r : Nat => r < 12) vIn, vEx (· ∈ [1, 5, 7, 11]) vIn]) (eg_tup (ag_cons (eg_callS (g_law_dig T) hr (by omega) 12 ⟨by omega, by omega⟩ 0 rfl rfl (ag_cons (eg_var (i := 0) rfl rfl) (ag_cons eg_int ag_nil))) (ag_cons (gIxLE (n := 4) (xs := [1, 5, 7, 11]) (F := vIn) rfl (eg_lst (ag_cons eg_int (ag_cons eg_int (ag_cons eg_int (ag_cons eg_int ag_nil))))) (eg_callS (g_law_dig T) hr (by omega) 4 ⟨by omega, by omega⟩ 0 rfl rfl (ag_cons (eg_var (i := 0) rfl rfl) (ag_cons eg_int ag_nil)))) ag_nil))) (gt_tup (gts_cons (gt_name 3 sc_law_words.nd) (gts_cons (gt_name 4 sc_law_words.nd) gts_nil))) (fun σ H hs => ?_)
  obtain ⟨b, hb, hs⟩ := hs.ex 3 rfl
  obtain ⟨st, hst, hs⟩ := hs.ex 4 rfl
  let wd : Int → Str := fun kk => menu.getD ((b + st * kk.toNat) % 12) ""
  refine s_retS hs (eg_lc n_law_words (defScope s_law_words) [("_law_k", 5)] (t := fun _ => true) (R := fun kk => vS (wd kk)) (fun kk => [some (vR a), some (vIn n), some (vL (menu.map vS)), some (vIn b), some (vIn st), some (vI kk)]) [5] (ig_range1 (n := (n : Int)) (ag_cons (eg_var (i := 1) rfl rfl) ag_nil) ⟨by omega, by omega⟩ T.f_range) (by rw [ints_length]; have := small30; omega)
    (fun _ _ _ _ _ q _ => gt_name 5 sc_law_words.nd) (fun _ _ _ _ _ q _ => pts_yes) (fun _ _ _ _ _ kk hk _ => gIxL (i := ((b : Int) + st * kk) % 12) ?_ (eg_var (i := 2) rfl rfl) (gMod (by decide) (eg_int1 T.f_int (gAdd (eg_var (i := 3) rfl rfl) (gMul ?_ (eg_var (i := 4) rfl rfl) (eg_var (i := 5) rfl rfl)))) eg_int)) sc_law_words.nd) fun v G' H' g o q => k _ _ v G' H' g o ?_
  · obtain ⟨k1, k2⟩ := upTo_mem hk
    have e1 : ((b : Int) + st * kk) % 12 = (((b + st * kk.toNat) % 12 : Nat) : Int) := by
      have : (kk.toNat : Int) = kk := Int.toNat_of_nonneg k1
      have h2 : (b : Int) + st * kk = ((b + st * kk.toNat : Nat) : Int) := by rw [Int.natCast_add, Int.natCast_mul, this]
      rw [h2]
      generalize b + st * kk.toNat = x
      omega
    rw [e1]
    have l12 : (b + st * kk.toNat) % 12 < menu.length := Nat.mod_lt _ (by decide)
    exact atI_map l12
  · refine .inl ?_
    simp only [List.mem_cons, List.not_mem_nil, or_false] at hst
    rcases hst with rfl | rfl | rfl | rfl <;> exact ⟨by decide, by decide⟩
  · have e1 : ((upTo 0 (n : Int)).filter (fun _ => true)).map (fun kk => vS (wd kk)) = ((List.range n).map fun k => menu.getD ((b + st * k) % 12) "").map vS := by
      rw [filter_true, upTo_nat, List.map_map, List.map_map]; rfl
    rw [e1] at q
    refine ⟨_, ⟨by rw [List.length_map, List.length_range], words_nd ⟨b, hb⟩ st hst ⟨n, by omega⟩, fun s hs => ?_⟩, q⟩
    obtain ⟨m, _, rfl⟩ := List.mem_map.mp hs
    have l12 : (b + st * m) % 12 < menu.length := Nat.mod_lt _ (by decide)
    rw [List.getD_eq_getElem?_getD, List.getElem?_eq_getElem l12]
    exact List.getElem_mem l12
/-! posts and ties -/
def vPost (K : PySem.W.Frag) (s : Stn) : VP := vT K [vS s.name, vOpt s.hands, vB s.timed]
def vTie (K : PySem.W.Frag) (t : Lnk) : VP := vT K [vS t.src, vS t.dst, vIn t.stock, vB t.early]
structure TieOk (W : Nat) (ws : List Str) (t : Lnk) : Prop where
  src : t.src ∈ ws
  dst : t.dst ∈ ws
  stock : t.stock ≤ W
  go : t.stock = 0 → ws.idxOf t.src < ws.idxOf t.dst
def PostOk (W : Nat) (nm : Str) (s : Stn) : Prop := s.name = nm ∧ ∀ h, s.hands = some h → 1 ≤ h ∧ h ≤ W
def handMenu : List (Option Nat) := [some 1, some 1, some 1, some 2, some 2, some 3, none]
theorem g_law_post (T : Txt K mg) : FGm P w K mg base 2 "_law_post" (fun _ : Str => True) (fun s a => [vR a, vS s]) (fun _ => oPu) (fun _ => oPu) (fun s => vEx (PostOk 3 s) (vPost K)) := by
  refine fgm T.d_law_post T.g_law_post sc_law_post (fun _ _ _ => rfl) (fun _ _ _ _ _ _ us hl => match us, hl with | [_, _], _ => rfl) ?_
  rintro cdv Ar outer s0 H0 H1 E nm a G Q σ hr _ hs k
  refine s_set hs 2 (P := vEx (· ∈ handMenu) vOpt) (gIxLE (n := 7) (xs := handMenu) (F := vOpt) rfl (eg_lst (ag_cons eg_int (ag_cons eg_int (ag_cons eg_int (ag_cons eg_int (ag_cons eg_int (ag_cons eg_int (ag_cons eg_non ag_nil)))))))) (eg_callS (g_law_dig T) hr (by omega) 7 ⟨by omega, by omega⟩ 0 rfl rfl (ag_cons (eg_var (i := 0) rfl rfl) (ag_cons eg_int ag_nil)))) (fun σ H hs => ?_) sc_law_post.nd
  obtain ⟨hd, hh, hs⟩ := hs.ex 2 rfl
  refine s_retS hs (eg_tup (ag_cons (eg_var (i := 1) rfl rfl) (ag_cons (eg_var (i := 2) rfl rfl) (ag_cons (P := vEx (fun _ : Bool => True) vB) (eg_cmp op_gt (rg_exL fun r hr => rg_to rg_I0 fun v G q => ⟨_, trivial, q⟩) (eg_callS (g_law_dig T) hr (by omega) 6 ⟨by omega, by omega⟩ 0 rfl rfl (ag_cons (eg_var (i := 0) rfl rfl) (ag_cons eg_int ag_nil))) eg_int rfl) ag_nil)))) fun v G' H' g o q => k _ _ v G' H' g o ?_
  obtain ⟨b, vs, e, ha, q⟩ := q
  cases q with
  | cons q1 q =>
    cases q with
    | cons q2 q =>
      cases q with
      | cons q3 q =>
        cases q
        obtain ⟨t, _, q3⟩ := q3
        refine ⟨⟨nm, hd, t⟩, ⟨rfl, fun h e => ?_⟩, b, _, e, ha, .cons q1 (.cons q2 (.cons q3 .nil))⟩
        subst e
        simp only [handMenu, List.mem_cons, List.not_mem_nil, or_false, Option.some.injEq, reduceCtorEq] at hh
        omega
theorem g_law_tie (T : Txt K mg) : FGm P w K mg base 2 "_law_tie" (fun ws : List Str => 1 ≤ ws.length ∧ ws.length ≤ 3 ∧ ws.Nodup) (fun ws a => [vR a, vL (ws.map vS)]) (fun _ => oPu) (fun _ => oPu) (fun ws => vEx (TieOk 3 ws) (vTie K)) := by
  refine fgm T.d_law_tie T.g_law_tie sc_law_tie (fun _ _ _ => rfl) (fun _ _ _ _ _ _ us hl => match us, hl with | [_, _], _ => rfl) ?_
  rintro cdv Ar outer s0 H0 H1 E ws a G Q σ hr ⟨h1, h2, nd⟩ hs k
  have dl : ∀ {X : Cx} {Γ : Cn} {Ω : Om} {e : Expr} {pos : Pos}, True := fun {_ _ _ _ _} => trivial
  refine s_par hs (P1 := vEx (fun r : Nat => r < ws.length) vIn) (P2 := vEx (fun r : Nat => r < ws.length) vIn) (i := 2) (j := 3) (ag_cons (eg_callS (g_law_dig T) hr (by omega) ws.length ⟨by omega, by omega⟩ 0 rfl rfl (ag_cons (eg_var (i := 0) rfl rfl) (ag_cons ((eg_lenL T.f_len (eg_var (i := 1) rfl rfl)).cast (by rw [List.length_map])) ag_nil))) (ag_cons (eg_callS (g_law_dig T) hr (by omega) ws.length ⟨by omega, by omega⟩ 0 rfl rfl (ag_cons (eg_var (i := 0) rfl rfl) (ag_cons ((eg_lenL T.f_len (eg_var (i := 1) rfl rfl)).cast (by rw [List.length_map])) ag_nil))) ag_nil)) (fun σ H hs => ?_) sc_law_tie.nd rfl rfl
  obtain ⟨at_, hat, hs⟩ := hs.ex 2 rfl
  obtain ⟨to, hto, hs⟩ := hs.ex 3 rfl
  refine s_set hs 4 (P := vEx (fun h : Nat => h ≤ 3 ∧ (h = 0 → at_ < to)) vIn) (eg_ifExp (tLt (eg_var (i := 2) rfl rfl) (eg_var (i := 3) rfl rfl)) (fun h => (eg_callS (g_law_dig T) hr (by omega) 4 ⟨by omega, by omega⟩ 0 rfl rfl (ag_cons (eg_var (i := 0) rfl rfl) (ag_cons eg_int ag_nil))).to fun v G ⟨r, hr, q⟩ => ⟨r, ⟨by omega, fun _ => by have := of_decide_eq_true h; omega⟩, q⟩) (fun h => eg_op op_add (rg_exR fun r hr => rg_to rg_I0 fun v G q => ⟨1 + r, ⟨by omega, fun z => by omega⟩, by show v = _; rw [show v = _ from q]; congr 1⟩) eg_int (eg_callS (g_law_dig T) hr (by omega) 3 ⟨by omega, by omega⟩ 0 rfl rfl (ag_cons (eg_var (i := 0) rfl rfl) (ag_cons eg_int ag_nil))))) (fun σ H hs => ?_) sc_law_tie.nd
  obtain ⟨hl, ⟨hl3, hl0⟩, hs⟩ := hs.ex 4 rfl
  refine s_retS hs (eg_tup (ag_cons (gIxL (atI_map (f := vS) (xs := ws) (d := "") hat) (eg_var (i := 1) rfl rfl) (eg_var (i := 2) rfl rfl)) (ag_cons (gIxL (atI_map (f := vS) (xs := ws) (d := "") hto) (eg_var (i := 1) rfl rfl) (eg_var (i := 3) rfl rfl)) (ag_cons (eg_var (i := 4) rfl rfl) (ag_cons (P := vEx (fun _ : Bool => True) vB) (eg_cmp op_eq (rg_exL fun r hr => rg_to (rg_eq rfl) fun v G q => ⟨_, trivial, q⟩) (eg_callS (g_law_dig T) hr (by omega) 4 ⟨by omega, by omega⟩ 0 rfl rfl (ag_cons (eg_var (i := 0) rfl rfl) (ag_cons eg_int ag_nil))) eg_int rfl) ag_nil))))) fun v G' H' g o q => k _ _ v G' H' g o ?_
  obtain ⟨b, vs, e, ha, q⟩ := q
  cases q with
  | cons q1 q =>
    cases q with
    | cons q2 q =>
      cases q with
      | cons q3 q =>
        cases q with
        | cons q4 q =>
          cases q
          obtain ⟨t, _, q4⟩ := q4
          have ix : ∀ m, m < ws.length → ws.idxOf (ws.getD m "") = m := fun m hm => by
            rw [List.getD_eq_getElem?_getD, List.getElem?_eq_getElem hm]
            exact List.Nodup.idxOf_getElem nd m hm
          have mm : ∀ m, m < ws.length → ws.getD m "" ∈ ws := fun m hm => by
            rw [List.getD_eq_getElem?_getD, List.getElem?_eq_getElem hm]
            exact List.getElem_mem hm
          exact ⟨⟨ws.getD at_ "", ws.getD to "", hl, t⟩, ⟨mm _ hat, mm _ hto, hl3, fun h0 => by show ws.idxOf (ws.getD at_ "") < ws.idxOf (ws.getD to ""); rw [ix _ hat, ix _ hto]; exact hl0 h0⟩, b, _, e, ha, .cons q1 (.cons q2 (.cons q3 (.cons q4 .nil)))⟩
end
end Ow
namespace Ow
open PySem PySem.Spec PyProof.Rows L2 He
/-! ### plans -/
structure Pl where
  l : Ln
  ws : List Str
def vPlan (K : PySem.W.Frag) (p : Pl) : VP := vL [vL (p.l.sts.map (vPost K)), vL (p.l.lks.map (vTie K)), vS p.l.out, vL (p.ws.map vS)]
structure PlanOk (W L : Nat) (p : Pl) : Prop where
  perm : p.l.names.Perm p.ws
  nd : p.ws.Nodup
  ne : 1 ≤ p.ws.length
  few : p.ws.length ≤ 3
  menu : ∀ s ∈ p.ws, s ∈ menu
  hands : ∀ s ∈ p.l.sts, ∀ h, s.hands = some h → 1 ≤ h ∧ h ≤ W
  ties : ∀ t ∈ p.l.lks, TieOk W p.ws t
  fewL : p.l.lks.length ≤ L
  out : p.l.out ∈ p.ws
def chainL (ws : List Str) : List Lnk := (List.range (ws.length - 1)).map fun k => ⟨ws.getD k "", ws.getD (k + 1) "", 0, false⟩
theorem getD_mem {ws : List Str} {m : Nat} (h : m < ws.length) : ws.getD m "" ∈ ws := by
  rw [List.getD_eq_getElem?_getD, List.getElem?_eq_getElem h]
  exact List.getElem_mem h
theorem getD_idx {ws : List Str} (nd : ws.Nodup) {m : Nat} (h : m < ws.length) : ws.idxOf (ws.getD m "") = m := by
  rw [List.getD_eq_getElem?_getD, List.getElem?_eq_getElem h]
  exact List.Nodup.idxOf_getElem nd m h
theorem chain_ok {ws : List Str} (nd : ws.Nodup) {W : Nat} : ∀ t ∈ chainL ws, TieOk W ws t := fun t ht => by
  obtain ⟨k, hk, rfl⟩ := List.mem_map.mp ht
  have hk' := List.mem_range.mp hk
  exact ⟨getD_mem (by omega), getD_mem (by omega), Nat.zero_le _, fun _ => by
    show ws.idxOf (ws.getD k "") < ws.idxOf (ws.getD (k + 1) "")
    rw [getD_idx nd (by omega), getD_idx nd (by omega)]; omega⟩
section
variable {P : Program} {w : World} {K : PySem.W.Frag} {mg : Str → Option Value} {base : Heap}
theorem g_law_chained (T : Txt K mg) : FG P w K mg base 1 "_law_chained" (fun ws : List Str => 1 ≤ ws.length ∧ ws.length ≤ 3) (fun ws => [vL (ws.map vS)]) (fun ws => vL ((chainL ws).map (vTie K))) := by
  refine (fo T.d_law_chained sc_law_chained (fun _ _ => rfl) (fun _ _ _ _ _ _ us hl => match us, hl with | [_], _ => rfl) ?_).fg T.g_law_chained
  rintro cdv Ar outer s0 H0 E ws G Q σ hr ⟨h1, h2⟩ hs k
  have hsz := small30
  refine s_ret hs ((eg_lc n_law_chained (defScope s_law_chained) [("_law_k", 1)] (t := fun _ => true) (R := fun kk : Int => vTie K ⟨ws.getD kk.toNat "", ws.getD (kk.toNat + 1) "", 0, false⟩) (fun kk => [some (vL (ws.map vS)), some (vI kk)]) [1] (ig_range1 (n := ((ws.length - 1 : Nat) : Int)) (ag_cons ((gSub (eg_lenL T.f_len (eg_var (i := 0) rfl rfl)) eg_int).cast (by rw [List.length_map]; congr 1; omega)) ag_nil) ⟨by omega, by omega⟩ T.f_range) (by rw [ints_length]; omega)
    (fun _ _ _ _ _ q _ => gt_name 1 sc_law_chained.nd) (fun _ _ _ _ _ q _ => pts_yes) (fun _ _ _ _ _ kk hk _ => ?_) sc_law_chained.nd).cast ?_) k
  · obtain ⟨k1, k2⟩ := upTo_mem hk
    have e0 : kk = ((kk.toNat : Nat) : Int) := by omega
    refine eg_tup (ag_cons (gIxL (i := kk) ?_ (eg_var (i := 0) rfl rfl) (eg_var (i := 1) rfl rfl)) (ag_cons (gIxL (i := kk + 1) ?_ (eg_var (i := 0) rfl rfl) (gAdd (eg_var (i := 1) rfl rfl) eg_int)) (ag_cons eg_int (ag_cons eg_bl ag_nil))))
    · have := atI_map (f := vS) (xs := ws) (d := "") (m := kk.toNat) (by omega)
      rw [← e0] at this; exact this
    · have := atI_map (f := vS) (xs := ws) (d := "") (m := kk.toNat + 1) (by omega)
      have e1 : kk + 1 = ((kk.toNat + 1 : Nat) : Int) := by omega
      rw [e1]; exact this
  · congr 1
    rw [filter_true, upTo_nat, List.map_map]
    unfold chainL
    rw [List.map_map]; rfl
end
end Ow
namespace Ow
open PySem PySem.Spec PyProof.Rows L2 He
/-! ### the first line -/
theorem perm_rot {α : Type} (xs : List α) (n : Nat) : (xs.drop n ++ xs.take n).Perm xs := by
  have h := List.perm_append_comm (l₁ := xs.drop n) (l₂ := xs.take n)
  rw [List.take_append_drop] at h
  exact h
theorem paired_names {W : Nat} : ∀ {ws : List Str} {ps : List Stn}, Paired (PostOk W) ws ps → ps.map Stn.name = ws ∧ ∀ s ∈ ps, ∀ h, s.hands = some h → 1 ≤ h ∧ h ≤ W
  | [], _, .nil => ⟨rfl, fun s hs => by cases hs⟩
  | w :: ws, p :: ps, .cons r t => by
    obtain ⟨h1, h2⟩ := paired_names t
    refine ⟨by rw [List.map_cons, h1, r.1], fun s hs => ?_⟩
    rcases List.mem_cons.mp hs with rfl | hs
    · exact r.2
    · exact h2 s hs
theorem paired_all {α β : Type} {φ : β → Prop} : ∀ {xs : List α} {ys : List β}, Paired (fun _ y => φ y) xs ys → ys.length = xs.length ∧ ∀ y ∈ ys, φ y
  | [], _, .nil => ⟨rfl, fun s hs => by cases hs⟩
  | _ :: _, _ :: _, .cons r t => by
    obtain ⟨h1, h2⟩ := paired_all t
    refine ⟨by rw [List.length_cons, List.length_cons, h1], fun y hy => ?_⟩
    rcases List.mem_cons.mp hy with rfl | hy
    · exact r
    · exact h2 y hy
section
variable {P : Program} {w : World} {K : PySem.W.Frag} {mg : Str → Option Value} {base : Heap}
def GoodWs (ws : List Str) : Prop := 1 ≤ ws.length ∧ ws.length ≤ 3 ∧ ws.Nodup ∧ ∀ s ∈ ws, s ∈ menu
theorem g_law_plan (T : Txt K mg) : FGm P w K mg base 3 "_law_plan" (fun _ : Unit => True) (fun _ a => [vR a, vIn 3, vIn 3]) (fun _ => oPu) (fun _ => oPu) (fun _ => vEx (PlanOk 3 5) (vPlan K)) := by
  refine fgm T.d_law_plan T.g_law_plan sc_law_plan (fun _ _ _ => rfl) (fun _ _ _ _ _ _ us hl => match us, hl with | [_, _, _], _ => rfl) ?_
  rintro cdv Ar outer s0 H0 H1 E _ a G Q σ hr _ hs k
  have hsz := small30
  refine s_set hs 3 (P := vEx GoodWs (fun ws => vL (ws.map vS))) (eg_callSE (g_law_words T) hr (by omega) 0 rfl (As := [vR a, vEx (fun r : Nat => 1 ≤ r ∧ r ≤ 3) vIn]) (ag_cons (eg_var (i := 0) rfl rfl) (ag_cons (eg_op op_add (rg_exR fun r hr => rg_to rg_I0 fun v G q => ⟨1 + r, ⟨by omega, by omega⟩, by show v = _; rw [show v = _ from q]; congr 1⟩) eg_int (eg_callS (g_law_dig T) hr (by omega) 3 ⟨by omega, by omega⟩ 0 rfl rfl (ag_cons (eg_var (i := 0) rfl rfl) (ag_cons (eg_var (i := 1) rfl rfl) ag_nil)))) ag_nil)) (fun vs G q => ?_)) (fun σ H hs => ?_) sc_law_plan.nd
  · cases q with
    | cons q1 q =>
      cases q with
      | cons q2 q =>
        cases q
        obtain ⟨n, hn, q2⟩ := q2
        exact ⟨n, hn, .cons q1 (.cons q2 .nil), rfl, rfl, fun v G' ⟨ws, ⟨h1, h2, h3⟩, q⟩ => ⟨ws, ⟨by omega, by omega, h2, h3⟩, q⟩⟩
  obtain ⟨ws, ⟨w1, w2, w3, w4⟩, hs⟩ := hs.ex 3 rfl
  have hs : Sat G H0 [some (vR a), some (vIn 3), some (vIn 3), some (vL (ws.map vS)), none, none, none, none, none, none] [(a, oPu)] σ H := hs
  refine s_setLc n_law_plan (defScope s_law_plan) [("_law_word", 8)] (t := fun _ => true) (R := fun s => vEx (PostOk 3 s) (vPost K)) (fun s => [some (vR a), some (vIn 3), some (vIn 3), some (vL (ws.map vS)), none, none, none, none, some (vS s), none]) [8] hs 4 (ig_list (xs := ws) (F := vS) (eg_var (i := 3) rfl rfl)) (by omega)
    (fun _ _ _ _ _ s _ => gt_name 8 sc_law_plan.nd) (fun _ _ _ _ _ s _ => pts_yes) (fun _ _ _ _ _ s _ _ => eg_callS (g_law_post T) hr (by omega) s trivial 0 rfl rfl (ag_cons (eg_var (i := 0) rfl rfl) (ag_cons (eg_var (i := 8) rfl rfl) ag_nil))) (fun σ H hs => ?_) sc_law_plan.nd
  rw [filter_true] at hs
  have hs := hs.to 4 rfl (P' := vEx (Paired (PostOk 3) ws) fun ys => vL (ys.map (vPost K))) fun v G q => vL_choose q
  obtain ⟨ps, hps, hs⟩ := hs.ex 4 rfl
  obtain ⟨n1, n2⟩ := paired_names hps
  have hl : ps.length = ws.length := (Paired.length hps).symm
  have hs : Sat G H0 [some (vR a), some (vIn 3), some (vIn 3), some (vL (ws.map vS)), some (vL (ps.map (vPost K))), none, none, none, none, none] [(a, oPu)] σ H := hs
  refine s_setLcE n_law_plan (defScope s_law_plan) [("_law_k", 9)] (R := fun _ => vEx (TieOk 3 ws) (vTie K)) (fun kk => [some (vR a), some (vIn 3), some (vIn 3), some (vL (ws.map vS)), some (vL (ps.map (vPost K))), none, none, none, none, some (vI kk)]) [9] hs 5 (ige_range1 (φ := fun r => r < 4) (eg_callS (g_law_dig T) hr (by omega) 4 ⟨by omega, by omega⟩ 0 rfl rfl (ag_cons (eg_var (i := 0) rfl rfl) (ag_cons (EG.cast (P := vI (((3 : Nat) : Int) + 1)) (gAdd (eg_var (i := 2) rfl rfl) eg_int) rfl) ag_nil))) (fun n hn => by omega) T.f_range) (fun xs ⟨n, hn, e⟩ => by rw [e, ints_length]; omega)
    (fun _ _ _ _ _ x => gt_name 9 sc_law_plan.nd) (fun _ _ _ _ _ x => eg_callS (g_law_tie T) hr (by omega) ws ⟨w1, w2, w3⟩ 0 rfl rfl (ag_cons (eg_var (i := 0) rfl rfl) (ag_cons (eg_var (i := 3) rfl rfl) ag_nil))) (fun xs hxs σ H hs => ?_) sc_law_plan.nd
  have hs := hs.to 5 rfl (P' := vEx (Paired (fun _ t => TieOk 3 ws t) xs) fun ys => vL (ys.map (vTie K))) fun v G q => vL_choose (φ := fun _ t => TieOk 3 ws t) q
  obtain ⟨ts, hts, hs⟩ := hs.ex 5 rfl
  obtain ⟨t1, t2⟩ := paired_all hts
  have t3 : ts.length ≤ 3 := by
    obtain ⟨n, hn, e⟩ := hxs
    rw [t1, e, ints_length]; omega
  have hs : Sat G H0 [some (vR a), some (vIn 3), some (vIn 3), some (vL (ws.map vS)), some (vL (ps.map (vPost K))), some (vL (ts.map (vTie K))), none, none, none, none] [(a, oPu)] σ H := hs
  refine s_ifJ (φ := fun _ => True) (fun σ H => ∃ lk : List Lnk, (∀ t ∈ lk, TieOk 3 ws t) ∧ lk.length ≤ 5 ∧ Sat G H0 [some (vR a), some (vIn 3), some (vIn 3), some (vL (ws.map vS)), some (vL (ps.map (vPost K))), some (vL (lk.map (vTie K))), none, none, none, none] [(a, oPu)] σ H) hs (tge_cmp op_gt (rg_exL fun r hr => rg_to rg_I0 fun v G q => ⟨_, trivial, q⟩) (eg_callS (g_law_dig T) hr (by omega) 3 ⟨by omega, by omega⟩ 0 rfl rfl (ag_cons (eg_var (i := 0) rfl rfl) (ag_cons eg_int ag_nil))) eg_int rfl) (fun _ H hs => ?_) (fun _ H hs => wp_nil ⟨ts, t2, by omega, hs⟩) ?_
  · have lc : (chainL ws).length = ws.length - 1 := by unfold chainL; rw [List.length_map, List.length_range]
    refine s_set hs 5 (eg_op op_cat (rg_cat (Ps := (chainL ws).map (vTie K)) (Qs := ts.map (vTie K)) (by rw [List.length_map, List.length_map]; omega)) (eg_call (g_law_chained T) hr (by omega) ws ⟨w1, w2⟩ (ag_cons (eg_var (i := 3) rfl rfl) ag_nil)) (eg_var (i := 5) rfl rfl)) (fun σ H hs => wp_nil ⟨chainL ws ++ ts, fun t ht => ?_, by rw [List.length_append]; omega, by rw [List.map_append]; exact hs⟩) sc_law_plan.nd
    rcases List.mem_append.mp ht with ht | ht
    · exact chain_ok w3 t ht
    · exact t2 t ht
  rintro σ H ⟨lk, k1, k2, hs⟩
  refine s_par hs (P1 := vEx (fun r : Nat => r < ws.length) vIn) (P2 := vEx (· ∈ ws) vS) (i := 6) (j := 7) (ag_cons (eg_callS (g_law_dig T) hr (by omega) ws.length ⟨by omega, by omega⟩ 0 rfl rfl (ag_cons (eg_var (i := 0) rfl rfl) (ag_cons ((eg_lenL T.f_len (eg_var (i := 3) rfl rfl)).cast (by rw [List.length_map])) ag_nil))) (ag_cons (EG.to (P := vS (ws.getD (ws.length - 1) "")) (gIxL (i := ((ws.length - 1 : Nat) : Int)) (atI_map (f := vS) (xs := ws) (d := "") (by omega)) (eg_var (i := 3) rfl rfl) (EG.cast (P := vI (((ws.map vS).length : Int) - 1)) (gSub (eg_lenL T.f_len (eg_var (i := 3) rfl rfl)) eg_int) (by rw [List.length_map]; congr 1; omega))) fun v G q => ⟨_, getD_mem (by omega), q⟩) ag_nil)) (fun σ H hs => ?_) sc_law_plan.nd rfl rfl
  obtain ⟨tn, htn, hs⟩ := hs.ex 6 rfl
  have hs : Sat G H0 [some (vR a), some (vIn 3), some (vIn 3), some (vL (ws.map vS)), some (vL (ps.map (vPost K))), some (vL (lk.map (vTie K))), some (vIn tn), some (vEx (· ∈ ws) vS), none, none] [(a, oPu)] σ H := hs
  refine s_ifJ (φ := fun _ => True) (fun σ H => Sat G H0 [some (vR a), some (vIn 3), some (vIn 3), some (vL (ws.map vS)), some (vL (ps.map (vPost K))), some (vL (lk.map (vTie K))), some (vIn tn), some (vEx (· ∈ ws) vS), none, none] [(a, oPu)] σ H) hs (tge_cmp op_eq (rg_exL fun r hr => rg_to (rg_eq rfl) fun v G q => ⟨_, trivial, q⟩) (eg_callS (g_law_dig T) hr (by omega) 3 ⟨by omega, by omega⟩ 0 rfl rfl (ag_cons (eg_var (i := 0) rfl rfl) (ag_cons eg_int ag_nil))) eg_int rfl) (fun _ H hs => ?_) (fun _ H hs => wp_nil hs) ?_
  · exact s_set hs 7 (gIxLE (n := ws.length) (xs := ws) (F := vS) rfl (eg_var (i := 3) rfl rfl) (eg_callS (g_law_dig T) hr (by omega) ws.length ⟨by omega, by omega⟩ 0 rfl rfl (ag_cons (eg_var (i := 0) rfl rfl) (ag_cons ((eg_lenL T.f_len (eg_var (i := 3) rfl rfl)).cast (by rw [List.length_map])) ag_nil)))) (fun σ H hs => wp_nil hs) sc_law_plan.nd
  intro σ H hs
  obtain ⟨goal, hgo, hs⟩ := hs.ex 7 rfl
  refine s_retS hs ((eg_lst (ag_cons (eg_op op_cat (rg_cat (Ps := (ps.drop tn).map (vPost K)) (Qs := (ps.take tn).map (vPost K)) (by rw [List.length_map, List.length_map, List.length_drop, List.length_take]; omega)) ((eg_slL (Ps := ps.map (vPost K)) (eg_var (i := 4) rfl rfl) (og_some (eg_var (i := 6) rfl rfl)) og_none).cast (by rw [cutG_map, cutG_from (by omega)])) ((eg_slL (Ps := ps.map (vPost K)) (eg_var (i := 4) rfl rfl) og_none (og_some (eg_var (i := 6) rfl rfl))).cast (by rw [cutG_map, cutG_to (by omega)]))) (ag_cons (eg_var (i := 5) rfl rfl) (ag_cons (eg_var (i := 7) rfl rfl) (ag_cons (eg_var (i := 3) rfl rfl) ag_nil))))).cast (P' := vPlan K ⟨⟨ps.drop tn ++ ps.take tn, lk, goal⟩, ws⟩) (by unfold vPlan; rw [List.map_append])) fun v G' H' g o q => k _ _ v G' H' g o ⟨_, ⟨?_, w3, w1, w2, w4, fun s hs => n2 s ?_, k1, k2, hgo⟩, q⟩
  · show ((ps.drop tn ++ ps.take tn).map Stn.name).Perm ws
    rw [← n1]
    exact (perm_rot ps tn).map _
  · exact (perm_rot ps tn).mem_iff.mp hs
end
end Ow
namespace Ow
open PySem PySem.Spec PyProof.Rows L2 He
/-! ### two names exchanged -/
section
variable {X : Cx} {Γ : Cn} {Ω : Om} {e k1 k2 v1 v2 : Expr} {pos : Pos} {β : Type} {F : β → VP} {d : List (Key × β)}
/-- a new dict, handed over at once -/
theorem eg_pubK (h : NG X Γ Ω e (oDK F d)) : EG X Γ Ω e (vDK F d) := weak h fun σ H Q ⟨G0, H0, s, k⟩ => ⟨G0, H0, s, fun a G H' g o => by
  obtain ⟨G1, u, gg, hu, ⟨us, e1, pd⟩, h0, ⟨G2, g2, o2⟩⟩ := Sat.pubG 0 (show Sat G0 H0 Γ ((a, oDK F d) :: Ω) σ H' from ⟨G, g, o⟩) rfl
  subst e1
  exact k (.ref a) G2 H' (gg.low g2) o2 ⟨a, us, rfl, g2.g _ _ hu, PD.mono g2.g pd⟩⟩
def d2 (x y : Str) : List (Key × Str) := dP (dP [] (.inr x) y) (.inr y) x
theorem ng_dict2 {x y : Str} (h1 : EG X Γ Ω k1 (vS x)) (h2 : EG X Γ Ω v1 (vS y)) (h3 : EG X Γ Ω k2 (vS y)) (h4 : EG X Γ Ω v2 (vS x)) : NG X Γ Ω (.Dict [some k1, some k2] [v1, v2] pos) (oDK vS (d2 x y)) := by
  have up : ∀ {e : Expr} {P : VP}, EG X Γ Ω e P → PE X e (fun σ H Q => ∃ p, tG Γ ((p, oDK vS []) :: Ω) P σ H Q) := fun h => ⟨fun pins s σ H Q I ⟨p, q⟩ => (h.frame (q := (p, oDK vS []))).run pins s σ H Q I q⟩
  refine weak (pe_disp (pps_cons (up h1) (up h2) (pps_cons (up h3) (up h4) pps_nil)) (by rfl) (by rfl) (fun z => by cases z) (by show 2 ≤ 15; omega)) fun σ H Q ⟨G0, H0, ⟨G, g, o⟩, k⟩ => fun p hp => ?_
  have o1 := o.new (R := oDK vS []) g.h hp ⟨[], rfl, .nil⟩
  have g1 := g.new (o := .dK []) hp
  refine ⟨p, G, H0, ⟨G, g1.self, o1⟩, fun x1 G2 H2 g2 o2 q2 => ⟨p, G2, H0, ⟨G2, (g1.trans g2).self, o2⟩, fun x2 G3 H3 g3 o3 q3 => ⟨p, G3, H0, ⟨G3, ((g1.trans g2).trans g3).self, o3⟩, fun x3 G4 H4 g4 o4 q4 => ⟨p, G4, H0, ⟨G4, (((g1.trans g2).trans g3).trans g4).self, o4⟩, fun x4 G5 H5 g5 o5 q5 => ?_⟩⟩⟩⟩
  have e1 : x1 = V.str x := q2
  have e2 : x2 = V.str y := q3
  have e3 : x3 = V.str y := q4
  have e4 : x4 = V.str x := q5
  subst e1 e2 e3 e4
  obtain ⟨h0, _, u, hu, us, rfl, pd⟩ := o5.ow _ List.mem_cons_self
  have eu : us = [] := by cases pd; rfl
  subst eu
  refine ⟨hu, [(.inr x, .str y), (.inr y, .str x)], rfl, by show 2 ≤ 15; omega, ?_⟩
  have pd2 : PD vS (d2 x y) (mergeK [] [(.inr x, .str y), (.inr y, .str x)]) G5 := PD.put (PD.put .nil rfl) rfl
  exact k p G5 _ (((((g1.trans g2).trans g3).trans g4).trans g5).put h0) (o5.put (j := 0) rfl ⟨_, rfl, pd2⟩)
end
def sw (x y s : Str) : Str := (dG (d2 x y) (.inr s)).getD s
theorem sw_is (x y s : Str) : sw x y s = if s = y then x else if s = x then y else s := by
  unfold sw d2
  by_cases h : s = y
  · rw [if_pos h, h, dG_put_same]; rfl
  · rw [if_neg h, dG_put_ne (fun e => h (Sum.inr.inj e))]
    by_cases h2 : s = x
    · rw [if_pos h2, h2, dG_put_same]; rfl
    · rw [if_neg h2, dG_put_ne (fun e => h2 (Sum.inr.inj e))]; rfl
theorem sw_sw (x y s : Str) : sw x y (sw x y s) = s := by
  rw [sw_is, sw_is x y s]
  by_cases h : s = y
  · subst h
    rw [if_pos rfl]
    by_cases h2 : x = s
    · rw [if_pos h2]; exact h2
    · rw [if_neg h2, if_pos rfl]
  · rw [if_neg h]
    by_cases h2 : s = x
    · rw [if_pos h2, if_pos rfl]; exact h2.symm
    · rw [if_neg h2, if_neg h, if_neg h2]
theorem sw_inj {x y s t : Str} (h : sw x y s = sw x y t) : s = t := by rw [← sw_sw x y s, h, sw_sw]
def swT (x y : Str) (t : Lnk) : Lnk := ⟨sw x y t.src, sw x y t.dst, t.stock, t.early⟩
def swP (p : Pl) (x y : Str) : Pl := ⟨⟨p.l.sts, p.l.lks.map (swT x y), p.l.out⟩, p.ws.map (sw x y)⟩
theorem idx_map {f : Str → Str} (hf : ∀ a b, f a = f b → a = b) (s : Str) : ∀ ws : List Str, (ws.map f).idxOf (f s) = ws.idxOf s
  | [] => rfl
  | w :: ws => by
    rw [List.map_cons, List.idxOf_cons, List.idxOf_cons, idx_map hf s ws]
    have : (f w == f s) = (w == s) := by
      rw [Bool.eq_iff_iff, beq_iff_eq, beq_iff_eq]
      exact ⟨hf _ _, fun h => by rw [h]⟩
    rw [this]
theorem sw_mem {x y : Str} {ws : List Str} (hx : x ∈ ws) (hy : y ∈ ws) (s : Str) : s ∈ ws.map (sw x y) ↔ s ∈ ws := by
  have to : ∀ t ∈ ws, sw x y t ∈ ws := fun t ht => by
    rw [sw_is]
    by_cases h : t = y
    · rw [if_pos h]; exact hx
    · rw [if_neg h]
      by_cases h2 : t = x
      · rw [if_pos h2]; exact hy
      · rw [if_neg h2]; exact ht
  constructor
  · intro h
    obtain ⟨t, ht, rfl⟩ := List.mem_map.mp h
    exact to t ht
  · intro h
    exact List.mem_map.mpr ⟨sw x y s, to s h, sw_sw x y s⟩
theorem nodup_inj {f : Str → Str} (hf : ∀ a b, f a = f b → a = b) {l : List Str} (nd : l.Nodup) : (l.map f).Nodup := by
  unfold List.Nodup at nd ⊢
  rw [List.pairwise_map]
  exact nd.imp fun h e => h (hf _ _ e)
theorem swP_ok {W L : Nat} {p : Pl} (ok : PlanOk W L p) {x y : Str} (hx : x ∈ p.ws) (hy : y ∈ p.ws) : PlanOk W L (swP p x y) := by
  have nd2 : (p.ws.map (sw x y)).Nodup := nodup_inj (fun a b h => sw_inj h) ok.nd
  refine ⟨?_, nd2, ?_, ?_, fun s hs => ok.menu s ((sw_mem hx hy s).mp hs), ok.hands, fun t ht => ?_, ?_, (sw_mem hx hy _).mpr ok.out⟩
  · show p.l.names.Perm (p.ws.map (sw x y))
    refine ok.perm.trans ?_
    exact (List.perm_ext_iff_of_nodup ok.nd nd2).mpr fun s => (sw_mem hx hy s).symm
  · show 1 ≤ (p.ws.map (sw x y)).length
    rw [List.length_map]; exact ok.ne
  · show (p.ws.map (sw x y)).length ≤ 3
    rw [List.length_map]; exact ok.few
  · obtain ⟨q, hq, rfl⟩ := List.mem_map.mp ht
    have h := ok.ties q hq
    refine ⟨List.mem_map_of_mem h.src, List.mem_map_of_mem h.dst, h.stock, fun h0 => ?_⟩
    show (p.ws.map (sw x y)).idxOf (sw x y q.src) < (p.ws.map (sw x y)).idxOf (sw x y q.dst)
    rw [idx_map (fun a b h => sw_inj h), idx_map (fun a b h => sw_inj h)]
    exact h.go h0
  · show (p.l.lks.map (swT x y)).length ≤ L
    rw [List.length_map]; exact ok.fewL
section
variable {P : Program} {w : World} {K : PySem.W.Frag} {mg : Str → Option Value} {base : Heap}
theorem g_law_swapped (T : Txt K mg) : FG P w K mg base 1 "_law_swapped" (fun y : Pl × Str × Str => y.1.l.lks.length ≤ 30 ∧ y.1.ws.length ≤ 30) (fun y => [vPlan K y.1, vS y.2.1, vS y.2.2]) (fun y => vPlan K (swP y.1 y.2.1 y.2.2)) := by
  refine (fo T.d_law_swapped sc_law_swapped (fun _ _ => rfl) (fun _ _ _ _ _ _ us hl => match us, hl with | [_, _, _], _ => rfl) ?_).fg T.g_law_swapped
  rintro cdv Ar outer s0 H0 E ⟨p, x, y⟩ G Q σ hr ⟨h1, h2⟩ hs k
  replace h1 : p.l.lks.length ≤ 30 := h1
  replace h2 : p.ws.length ≤ 30 := h2
  have hsz := small30
  have hs : Sat G H0 [some (vPlan K p), some (vS x), some (vS y), none, none, none, none, none, none, none] [] σ H0 := hs
  refine s_set hs 3 (eg_pubK (ng_dict2 (eg_var (i := 1) rfl rfl) (eg_var (i := 2) rfl rfl) (eg_var (i := 2) rfl rfl) (eg_var (i := 1) rfl rfl))) (fun σ H hs => ?_) sc_law_swapped.nd
  have hs : Sat G H0 [some (vPlan K p), some (vS x), some (vS y), some (vDK vS (d2 x y)), none, none, none, none, none, none] [] σ H := hs
  have get1 : ∀ {s z : Str}, dG (d2 x y) (.inr s) = some z → ∀ v G, (vS z).p v G → (vS (sw x y s)).p v G := fun {s z} e v G q => by
    have : sw x y s = z := by unfold sw; rw [e]; rfl
    rw [this]; exact q
  have get2 : ∀ {s : Str}, dG (d2 x y) (.inr s) = none → ∀ v G, (vS s).p v G → (vS (sw x y s)).p v G := fun {s} e v G q => by
    have : sw x y s = s := by unfold sw; rw [e]; rfl
    rw [this]; exact q
  refine s_setLc n_law_swapped (defScope s_law_swapped) [("_law_at", 5), ("_law_to", 6), ("_law_held", 7), ("_law_soon", 8)] (t := fun _ => true) (R := fun t => vTie K (swT x y t)) (fun t => [some (vPlan K p), some (vS x), some (vS y), some (vDK vS (d2 x y)), none, some (vS t.src), some (vS t.dst), some (vIn t.stock), some (vB t.early), none]) [5, 6, 7, 8] hs 4 (ig_list (xs := p.l.lks) (F := vTie K) (gIxL rfl (eg_var (i := 0) rfl rfl) eg_int)) (by omega)
    (fun _ _ _ _ _ t _ => gt_tup (gts_cons (gt_name 5 sc_law_swapped.nd) (gts_cons (gt_name 6 sc_law_swapped.nd) (gts_cons (gt_name 7 sc_law_swapped.nd) (gts_cons (gt_name 8 sc_law_swapped.nd) gts_nil))))) (fun _ _ _ _ _ t _ => pts_yes)
    (fun _ _ _ _ _ t _ _ => eg_tup (ag_cons (eg_dget2 hr (DAsk.k (F := vS) (d := d2 x y) (q := .inr t.src)) (eg_var (i := 3) rfl rfl) (eg_var (i := 5) rfl rfl) (eg_var (i := 5) rfl rfl) (fun z e v G q => get1 e v G q) (fun e v G q => get2 e v G q)) (ag_cons (eg_dget2 hr (DAsk.k (F := vS) (d := d2 x y) (q := .inr t.dst)) (eg_var (i := 3) rfl rfl) (eg_var (i := 6) rfl rfl) (eg_var (i := 6) rfl rfl) (fun z e v G q => get1 e v G q) (fun e v G q => get2 e v G q)) (ag_cons (eg_var (i := 7) rfl rfl) (ag_cons (eg_var (i := 8) rfl rfl) ag_nil))))) (fun σ H hs => ?_) sc_law_swapped.nd
  refine s_ret hs ((eg_lst (ag_cons (gIxL rfl (eg_var (i := 0) rfl rfl) eg_int) (ag_cons (eg_var (i := 4) rfl rfl) (ag_cons (gIxL rfl (eg_var (i := 0) rfl rfl) eg_int) (ag_cons (eg_lc n_law_swapped (defScope s_law_swapped) [("_law_word", 9)] (t := fun _ => true) (R := fun s => vS (sw x y s)) (fun s => [some (vPlan K p), some (vS x), some (vS y), some (vDK vS (d2 x y)), some (vL ((p.l.lks.filter fun _ => true).map fun t => vTie K (swT x y t))), none, none, none, none, some (vS s)]) [9] (ig_list (xs := p.ws) (F := vS) (gIxL rfl (eg_var (i := 0) rfl rfl) eg_int)) (by omega)
    (fun _ _ _ _ _ s _ => gt_name 9 sc_law_swapped.nd) (fun _ _ _ _ _ s _ => pts_yes) (fun _ _ _ _ _ s _ _ => eg_dget2 hr (DAsk.k (F := vS) (d := d2 x y) (q := .inr s)) (eg_var (i := 3) rfl rfl) (eg_var (i := 9) rfl rfl) (eg_var (i := 9) rfl rfl) (fun z e v G q => get1 e v G q) (fun e v G q => get2 e v G q)) sc_law_swapped.nd) ag_nil))))).cast (P' := vPlan K (swP p x y)) ?_) k
  show vL _ = vL _
  rw [filter_true, filter_true]
  unfold swP
  simp only [List.map_map]
  rfl
end
end Ow
namespace Ow
open PySem PySem.Spec PyProof.Rows L2 He
/-! ### a line near it -/
section
variable {X : Cx} {Γ Γ1 : Cn} {Ω : Om} {Ps : List VP} {pos : Pos} {ts : List Nat} {e a : Expr} {es : List Expr}
theorem gt_unl {k : Nat} {n : Nat} (h : TgsG X es Ps Γ Ω Γ1 ts) (hc : X.calm = true := by rfl) (hl : Ps.length = n := by rfl) (hn : (assignEach es X.env).length = n := by rfl) (hst : (assignEach es X.env).findIdx? (·.1) = none := by rfl) : TgG X (.Tuple es k pos) (vL Ps) Γ Ω Γ1 ts :=
  weakG (pg_unl hc h hn hst) fun v σ H Q ⟨G0, H0, ⟨G, g, o, a, vs, e, hq, q⟩, k⟩ => ⟨a, vs, e, SqL.of (o.gh _ _ hq), by rw [← Paired.length q]; exact hl, G0, H0, ⟨G, g, o, q⟩, k⟩
theorem eg_revL {k : Nat} {p1 p2 p3 : Pos} (he : EG X Γ Ω e (vL Ps)) : EG X Γ Ω (.Subscript e (.Slice none none (some (.UnaryOp .USub (.Constant (.int 1) k p1) p2)) p3) pos) (vL Ps.reverse) :=
  weak (pe_revL he) fun σ H Q ⟨G0, H0, s, k⟩ => ⟨G0, H0, s, fun v G H' g o ⟨a, vs, e, ha, q⟩ => ⟨a, vs, e, SqL.of (o.gh _ _ ha), fun p hp => by
    have st := Step.new (o := .lst vs.reverse) o.gh hp
    exact k _ _ _ (g.step st) (o.step st) ⟨p, _, rfl, upd_same, (PV.reverse q).mono st.g⟩⟩⟩
end
theorem rg_catE {α : Type} {φ : α → Prop} {F : α → VP} {Ps : List VP} (hl : Ps.length + 1 ≤ sizeLine) : RG rCat (vL Ps) (vL [vEx φ F]) (vEx φ fun t => vL (Ps ++ [F t])) := fun x y G H Q sm px py kk => by
  obtain ⟨b, vs, e, hb, q⟩ := py
  cases q with
  | cons r t =>
    cases t
    obtain ⟨t, ht, r⟩ := r
    exact rg_cat (Ps := Ps) (Qs := [F t]) hl x y G H Q sm px ⟨b, _, e, hb, .cons r .nil⟩ fun z G' H' st q => kk z G' H' st ⟨t, ht, q⟩
theorem atI_get {α β : Type} {f : α → β} {xs : List α} {m : Nat} {x : α} (h : xs[m]? = some x) : atI (xs.map f) ((m : Nat) : Int) = some (f x) := by
  have hl := lt_of_some h
  have : atI (xs.map f) ((m : Nat) : Int) = (xs.map f)[m]? := by
    unfold atI ixN
    rw [List.length_map, if_pos (by omega), if_pos (by omega)]
    rfl
  rw [this, List.getElem?_map, h]; rfl
theorem lay_all {α : Type} {f : α → PyData} {n : Nat} : ∀ {xs : List α}, (∀ x ∈ xs, (f x).canLay0 = true ∧ (f x).depth ≤ n) → PyData.canLayAll0 (xs.map f) = true ∧ PyData.depthAll (xs.map f) ≤ n
  | [], _ => by simp [PyData.canLayAll0, PyData.depthAll]
  | x :: xs, h => by
    obtain ⟨h1, h2⟩ := lay_all (f := f) (n := n) (xs := xs) fun y hy => h y (List.mem_cons_of_mem _ hy)
    obtain ⟨h3, h4⟩ := h x List.mem_cons_self
    refine ⟨by simp [PyData.canLayAll0, h1, h3], ?_⟩
    rw [List.map_cons, PyData.depthAll]
    omega
theorem shaped_list {α : Type} {f : α → PyData} {n : Nat} (hn : n ≤ 60) {xs : List α} (h : ∀ x ∈ xs, (f x).canLay0 = true ∧ (f x).depth ≤ n) : SeqAt.shaped (.list (xs.map f)) = true := by
  obtain ⟨h1, h2⟩ := lay_all h
  unfold SeqAt.shaped
  rw [PyData.canLay0, h1, PyData.depth, Bool.true_and, decide_eq_true_iff]
  omega
theorem eqv_nil {ds : List PyData} : PyData.eqv (.list ds) (.list []) = decide (ds = []) := by
  cases ds with
  | nil => simp [PyData.eqv, PyData.eqvAll]
  | cons d ds => simp [PyData.eqv, PyData.eqvAll]
theorem menu_str : ∀ s ∈ menu, PyData.strOk s = true := by decide +kernel
section
variable {K : PySem.W.Frag}
def tieD (t : Lnk) : PyData := .tuple [.str t.src, .str t.dst, .int (t.stock : Nat), .bool t.early]
theorem dat_tie {t : Lnk} : Dat K (vTie K t) (tieD t) := dat_T (.cons dat_S (.cons dat_S (.cons dat_I (.cons dat_B .nil))))
theorem lay_tie {t : Lnk} (h1 : t.src ∈ menu) (h2 : t.dst ∈ menu) : (tieD t).canLay0 = true ∧ (tieD t).depth ≤ 1 := by
  unfold tieD
  simp [PyData.canLay0, PyData.canLayAll0, PyData.depth, PyData.depthAll, menu_str _ h1, menu_str _ h2]
end
theorem PlanOk.mono {W W' L L' : Nat} {p : Pl} (h : PlanOk W L p) (hW : W ≤ W') (hL : L ≤ L') : PlanOk W' L' p :=
  ⟨h.perm, h.nd, h.ne, h.few, h.menu, fun s hs k hk => let ⟨a, b⟩ := h.hands s hs k hk; ⟨a, Nat.le_trans b hW⟩, fun t ht => let q := h.ties t ht; ⟨q.src, q.dst, Nat.le_trans q.stock hW, q.go⟩, Nat.le_trans h.fewL hL, h.out⟩
theorem TieOk.mono {W W' : Nat} {ws : List Str} {t : Lnk} (q : TieOk W ws t) (hW : W ≤ W') : TieOk W' ws t := ⟨q.src, q.dst, Nat.le_trans q.stock hW, q.go⟩
theorem set_mid {α : Type} {xs : List α} {m : Nat} {x : α} (h : m < xs.length) : xs.take m ++ [x] ++ xs.drop (m + 1) = xs.set m x := by
  rw [List.set_eq_take_append_cons_drop, if_pos h, List.append_assoc]; rfl
theorem set_names {sts : List Stn} {m : Nat} {s s' : Stn} (h : sts[m]? = some s) (hn : s'.name = s.name) : (sts.set m s').map Stn.name = sts.map Stn.name := by
  rw [List.map_set, hn]
  refine List.ext_getElem? fun i => ?_
  by_cases hi : m = i
  · subst hi
    rw [List.getElem?_set_self (by rw [List.length_map]; exact lt_of_some h), List.getElem?_map, h]; rfl
  · rw [List.getElem?_set_ne hi]
theorem mem_set {α : Type} {xs : List α} {m : Nat} {x y : α} (h : y ∈ xs.set m x) : y = x ∨ y ∈ xs := (List.mem_or_eq_of_mem_set h).symm
section
variable {P : Program} {w : World} {K : PySem.W.Frag} {mg : Str → Option Value} {base : Heap}
theorem post_set {p : Pl} (ok : PlanOk 3 5 p) {m : Nat} {s s' : Stn} (h : p.l.sts[m]? = some s) (hn : s'.name = s.name) (hh : ∀ k, s'.hands = some k → 1 ≤ k ∧ k ≤ 4) : PlanOk 4 6 ⟨⟨p.l.sts.set m s', p.l.lks, p.l.out⟩, p.ws⟩ := by
  have ok4 := ok.mono (W' := 4) (L' := 6) (by omega) (by omega)
  refine ⟨?_, ok.nd, ok.ne, ok.few, ok.menu, fun q hq k hk => ?_, ok4.ties, ok4.fewL, ok.out⟩
  · show ((p.l.sts.set m s').map Stn.name).Perm p.ws
    rw [set_names h hn]; exact ok.perm
  · rcases mem_set hq with rfl | hq
    · exact hh k hk
    · exact ok4.hands q hq k hk
theorem tie_set {p : Pl} (ok : PlanOk 3 5 p) {m : Nat} {t' : Lnk} (ht : TieOk 4 p.ws t') : PlanOk 4 6 ⟨⟨p.l.sts, p.l.lks.set m t', p.l.out⟩, p.ws⟩ := by
  have ok4 := ok.mono (W' := 4) (L' := 6) (by omega) (by omega)
  refine ⟨ok.perm, ok.nd, ok.ne, ok.few, ok.menu, ok4.hands, fun q hq => ?_, ?_, ok.out⟩
  · rcases mem_set hq with rfl | hq
    · exact ht
    · exact ok4.ties q hq
  · show (p.l.lks.set m t').length ≤ 6
    rw [List.length_set]; exact ok4.fewL
section
variable {X : Cx} {Γ : Cn} {Ω : Om} {e1 e2 e3 e4 e5 : Expr} {p1 p2 p3 p4 p5 p6 : Pos} {α : Type} {xs : List α} {F : α → VP} {m : Nat} {x : α}
theorem eg_mid (hm : m < xs.length) (hz : xs.length ≤ 28) (h1 : EG X Γ Ω e1 (vL (xs.map F))) (h2 : EG X Γ Ω e2 (vIn m)) (h3 : EG X Γ Ω e3 (vL [F x])) (h4 : EG X Γ Ω e4 (vL (xs.map F))) (h5 : EG X Γ Ω e5 (vI ((m : Int) + 1))) :
    EG X Γ Ω (.BinOp (.BinOp (.Subscript e1 (.Slice none (some e2) none p1) p2) .Add e3 p3) .Add (.Subscript e4 (.Slice (some e5) none none p4) p5) p6) (vL ((xs.set m x).map F)) := by
  have hsz := small30
  have k1 : EG X Γ Ω (.Subscript e1 (.Slice none (some e2) none p1) p2) (vL ((xs.take m).map F)) := (eg_slL h1 og_none (og_some h2)).cast (by rw [cutG_map, cutG_to (by omega)])
  have k2 : EG X Γ Ω (.Subscript e4 (.Slice (some e5) none none p4) p5) (vL ((xs.drop (m + 1)).map F)) := (eg_slL h4 (og_some h5) og_none).cast (by
    have e : ((m : Int) + 1) = ((m + 1 : Nat) : Int) := by omega
    rw [cutG_map, e, cutG_from (by omega)])
  refine (eg_op op_cat (rg_cat (Ps := (xs.take m).map F ++ [F x]) (Qs := (xs.drop (m + 1)).map F) (by simp; omega)) (eg_op op_cat (rg_cat (by simp; omega)) k1 h3) k2).cast ?_
  rw [← set_mid hm, List.map_append, List.map_append]; rfl
theorem eg_cutOut (hm : m < xs.length) (hz : xs.length ≤ 28) (h1 : EG X Γ Ω e1 (vL (xs.map F))) (h2 : EG X Γ Ω e2 (vIn m)) (h4 : EG X Γ Ω e4 (vL (xs.map F))) (h5 : EG X Γ Ω e5 (vI ((m : Int) + 1))) :
    EG X Γ Ω (.BinOp (.Subscript e1 (.Slice none (some e2) none p1) p2) .Add (.Subscript e4 (.Slice (some e5) none none p4) p5) p6) (vL ((xs.eraseIdx m).map F)) := by
  have hsz := small30
  have k1 : EG X Γ Ω (.Subscript e1 (.Slice none (some e2) none p1) p2) (vL ((xs.take m).map F)) := (eg_slL h1 og_none (og_some h2)).cast (by rw [cutG_map, cutG_to (by omega)])
  have k2 : EG X Γ Ω (.Subscript e4 (.Slice (some e5) none none p4) p5) (vL ((xs.drop (m + 1)).map F)) := (eg_slL h4 (og_some h5) og_none).cast (by
    have e : ((m : Int) + 1) = ((m + 1 : Nat) : Int) := by omega
    rw [cutG_map, e, cutG_from (by omega)])
  refine (eg_op op_cat (rg_cat (Ps := (xs.take m).map F) (Qs := (xs.drop (m + 1)).map F) (by simp; omega)) k1 k2).cast ?_
  rw [List.eraseIdx_eq_take_drop_succ, List.map_append]
theorem eg_rot (hm : m ≤ xs.length) (hz : xs.length ≤ 28) (h1 : EG X Γ Ω e1 (vL (xs.map F))) (h2 : EG X Γ Ω e2 (vIn m)) (h4 : EG X Γ Ω e4 (vL (xs.map F))) (h5 : EG X Γ Ω e5 (vIn m)) :
    EG X Γ Ω (.BinOp (.Subscript e1 (.Slice (some e2) none none p1) p2) .Add (.Subscript e4 (.Slice none (some e5) none p4) p5) p6) (vL ((xs.drop m ++ xs.take m).map F)) := by
  have hsz := small30
  have k1 : EG X Γ Ω (.Subscript e1 (.Slice (some e2) none none p1) p2) (vL ((xs.drop m).map F)) := (eg_slL h1 (og_some h2) og_none).cast (by rw [cutG_map, cutG_from hm])
  have k2 : EG X Γ Ω (.Subscript e4 (.Slice none (some e5) none p4) p5) (vL ((xs.take m).map F)) := (eg_slL h4 og_none (og_some h5)).cast (by rw [cutG_map, cutG_to hm])
  refine (eg_op op_cat (rg_cat (Ps := (xs.drop m).map F) (Qs := (xs.take m).map F) (by simp; omega)) k1 k2).cast ?_
  rw [List.map_append]
end
def handMenu2 : List (Option Nat) := [some 1, some 2, some 3, some 4, none]
end
end Ow
namespace Ow
open PySem PySem.Spec PyProof.Rows L2 He
section
variable {P : Program} {w : World} {K : PySem.W.Frag} {mg : Str → Option Value} {base : Heap}
theorem g_law_kin (T : Txt K mg) : FGm P w K mg base 3 "_law_kin" (PlanOk 3 5) (fun p a => [vR a, vPlan K p]) (fun _ => oPu) (fun _ => oPu) (fun _ => vEx (PlanOk 4 6) (vPlan K)) := by
  refine fgm T.d_law_kin T.g_law_kin sc_law_kin (fun _ _ _ => rfl) (fun _ _ _ _ _ _ us hl => match us, hl with | [_, _], _ => rfl) ?_
  rintro cdv Ar outer s0 H0 H1 E p a G Q σ hr ok hs k
  have hsz := small30
  have ok4 := ok.mono (W' := 4) (L' := 6) (by omega) (by omega)
  have hsts : p.l.sts.length = p.ws.length := by
    have := ok.perm.length_eq
    unfold Ln.names at this
    rw [List.length_map] at this; exact this
  have w1 := ok.ne
  have w2 := ok.few
  have wL := ok.fewL
  refine s_asg hs (P := vPlan K p) (Γ' := [some (vR a), some (vPlan K p), some (vL (p.l.sts.map (vPost K))), some (vL (p.l.lks.map (vTie K))), some (vS p.l.out), some (vL (p.ws.map vS)), none, none, none, none, none, none, none, none, none, none]) (eg_var (i := 1) rfl rfl) (gt_unl (gts_cons (gt_name 2 sc_law_kin.nd) (gts_cons (gt_name 3 sc_law_kin.nd) (gts_cons (gt_name 4 sc_law_kin.nd) (gts_cons (gt_name 5 sc_law_kin.nd) gts_nil))))) (fun σ H hs => ?_)
  refine s_par hs (P1 := vEx (fun r : Nat => r < 10) vIn) (P2 := vEx (fun r : Nat => r < p.l.sts.length) vIn) (i := 6) (j := 7) (ag_cons (eg_callS (g_law_dig T) hr (by omega) 10 ⟨by omega, by omega⟩ 0 rfl rfl (ag_cons (eg_var (i := 0) rfl rfl) (ag_cons eg_int ag_nil))) (ag_cons (eg_callS (g_law_dig T) hr (by omega) p.l.sts.length ⟨by omega, by omega⟩ 0 rfl rfl (ag_cons (eg_var (i := 0) rfl rfl) (ag_cons ((eg_lenL T.f_len (eg_var (i := 2) rfl rfl)).cast (by rw [List.length_map])) ag_nil))) ag_nil)) (fun σ H hs => ?_) sc_law_kin.nd rfl rfl
  obtain ⟨way, hway, hs⟩ := hs.ex 6 rfl
  obtain ⟨at_, hat, hs⟩ := hs.ex 7 rfl
  have hs : Sat G H0 [some (vR a), some (vPlan K p), some (vL (p.l.sts.map (vPost K))), some (vL (p.l.lks.map (vTie K))), some (vS p.l.out), some (vL (p.ws.map vS)), some (vIn way), some (vIn at_), none, none, none, none, none, none, none, none] [(a, oPu)] σ H := hs
  have hps : p.l.sts[at_]? = some (p.l.sts[at_]) := List.getElem?_eq_getElem hat
  generalize hx : p.l.sts[at_] = st at hps
  have mst : st ∈ p.l.sts := List.mem_of_getElem? hps
  -- one more tie
  refine s_if hs (tLt (i := (way : Int)) (eg_var (i := 6) rfl rfl) eg_int) (fun _ H hs => ?_) (fun _ H hs => wp_nil ?_)
  · refine s_retS hs ((eg_lst (ag_cons (eg_var (i := 2) rfl rfl) (ag_cons (P := vEx (TieOk 3 p.ws) (fun t => vL (p.l.lks.map (vTie K) ++ [vTie K t]))) (eg_op op_cat (rg_catE (by rw [List.length_map]; omega)) (eg_var (i := 3) rfl rfl) (eg_lst (ag_cons (eg_callS (g_law_tie T) hr (by omega) p.ws ⟨w1, w2, ok.nd⟩ 0 rfl rfl (ag_cons (eg_var (i := 0) rfl rfl) (ag_cons (eg_var (i := 5) rfl rfl) ag_nil))) ag_nil))) (ag_cons (eg_var (i := 4) rfl rfl) (ag_cons (eg_var (i := 5) rfl rfl) ag_nil)))))) fun v G' H' g o q => k _ _ v G' H' g o ?_
    obtain ⟨b, vs, e, hb, q⟩ := q
    cases q with
    | cons q1 q =>
      cases q with
      | cons q2 q =>
        obtain ⟨t, ht, q2⟩ := q2
        have q3 : ∀ z, (vL (p.l.lks.map (vTie K) ++ [vTie K t])).p z G' → (vL ((p.l.lks ++ [t]).map (vTie K))).p z G' := by rw [List.map_append]; exact fun z q => q
        refine ⟨⟨⟨p.l.sts, p.l.lks ++ [t], p.l.out⟩, p.ws⟩, ⟨ok.perm, ok.nd, ok.ne, ok.few, ok.menu, ok4.hands, fun q hq => ?_, ?_, ok.out⟩, b, _, e, hb, .cons q1 (.cons (q3 _ q2) q)⟩
        · rcases List.mem_append.mp hq with hq | hq
          · exact ok4.ties q hq
          · rw [List.mem_singleton.mp hq]; exact ht.mono (by omega)
        · show (p.l.lks ++ [t]).length ≤ 6
          rw [List.length_append]; show _ + 1 ≤ 6; omega
  refine s_if hs (tEqI (i := (way : Int)) (eg_var (i := 6) rfl rfl) eg_int) (fun _ H hs => ?_) (fun _ H hs => wp_nil ?_)
  · refine s_asg hs (P := vPost K st) (Γ' := [some (vR a), some (vPlan K p), some (vL (p.l.sts.map (vPost K))), some (vL (p.l.lks.map (vTie K))), some (vS p.l.out), some (vL (p.ws.map vS)), some (vIn way), some (vIn at_), some (vS st.name), some (vOpt st.hands), some (vB st.timed), none, none, none, none, none]) (gIxL (atI_get hps) (eg_var (i := 2) rfl rfl) (eg_var (i := 7) rfl rfl)) (gt_tup (gts_cons (gt_name 8 sc_law_kin.nd) (gts_cons (gt_name 9 sc_law_kin.nd) (gts_cons (gt_name 10 sc_law_kin.nd) gts_nil)))) (fun σ H hs => ?_)
    refine s_set hs 9 (P := vEx (· ∈ handMenu2) vOpt) (gIxLE (n := 5) (xs := handMenu2) (F := vOpt) rfl (eg_lst (ag_cons eg_int (ag_cons eg_int (ag_cons eg_int (ag_cons eg_int (ag_cons eg_non ag_nil)))))) (eg_callS (g_law_dig T) hr (by omega) 5 ⟨by omega, by omega⟩ 0 rfl rfl (ag_cons (eg_var (i := 0) rfl rfl) (ag_cons eg_int ag_nil)))) (fun σ H hs => ?_) sc_law_kin.nd
    obtain ⟨hd, hh, hs⟩ := hs.ex 9 rfl
    refine s_retS hs (EG.cast (P := vL [vL ((p.l.sts.set at_ ⟨st.name, hd, st.timed⟩).map (vPost K)), vL (p.l.lks.map (vTie K)), vS p.l.out, vL (p.ws.map vS)]) (eg_lst (ag_cons ?_ (ag_cons (eg_var (i := 3) rfl rfl) (ag_cons (eg_var (i := 4) rfl rfl) (ag_cons (eg_var (i := 5) rfl rfl) ag_nil))))) rfl) fun v G' H' g o q => k _ _ v G' H' g o ⟨⟨⟨p.l.sts.set at_ ⟨st.name, hd, st.timed⟩, p.l.lks, p.l.out⟩, p.ws⟩, post_set ok hps rfl fun k e => ?_, q⟩
    · exact eg_mid hat (by omega) (eg_var (i := 2) rfl rfl) (eg_var (i := 7) rfl rfl) (eg_lst (ag_cons (eg_tup (ag_cons (eg_var (i := 8) rfl rfl) (ag_cons (eg_var (i := 9) rfl rfl) (ag_cons (eg_var (i := 10) rfl rfl) ag_nil)))) ag_nil)) (eg_var (i := 2) rfl rfl) (gAdd (eg_var (i := 7) rfl rfl) eg_int)
    · have e : hd = some k := e
      subst e
      simp only [handMenu2, List.mem_cons, List.not_mem_nil, or_false, Option.some.injEq, reduceCtorEq] at hh
      omega
  -- turned about
  refine s_if hs (tEqI (i := (way : Int)) (eg_var (i := 6) rfl rfl) eg_int) (fun _ H hs => ?_) (fun _ H hs => wp_nil ?_)
  · refine s_retS hs (eg_lst (ag_cons (eg_revL (eg_var (i := 2) rfl rfl)) (ag_cons (eg_revL (eg_var (i := 3) rfl rfl)) (ag_cons (gIxLE (n := p.ws.length) (xs := p.ws) (F := vS) rfl (eg_var (i := 5) rfl rfl) (eg_callS (g_law_dig T) hr (by omega) p.ws.length ⟨by omega, by omega⟩ 0 rfl rfl (ag_cons (eg_var (i := 0) rfl rfl) (ag_cons ((eg_lenL T.f_len (eg_var (i := 5) rfl rfl)).cast (by rw [List.length_map])) ag_nil)))) (ag_cons (eg_var (i := 5) rfl rfl) ag_nil))))) fun v G' H' g o q => k _ _ v G' H' g o ?_
    rw [← List.map_reverse, ← List.map_reverse] at q
    obtain ⟨b, vs, e, hb, q⟩ := q
    cases q with
    | cons q1 q =>
      cases q with
      | cons q2 q =>
        cases q with
        | cons q3 q =>
          obtain ⟨go, hgo, q3⟩ := q3
          refine ⟨⟨⟨p.l.sts.reverse, p.l.lks.reverse, go⟩, p.ws⟩, ⟨?_, ok.nd, ok.ne, ok.few, ok.menu, fun q hq => ok4.hands q (List.mem_reverse.mp hq), fun q hq => ok4.ties q (List.mem_reverse.mp hq), ?_, hgo⟩, b, _, e, hb, .cons q1 (.cons q2 (.cons q3 q))⟩
          · show (p.l.sts.reverse.map Stn.name).Perm p.ws
            exact ((List.reverse_perm _).map _).trans ok.perm
          · show p.l.lks.reverse.length ≤ 6
            rw [List.length_reverse]; exact ok4.fewL
  -- a gate in the place of a station
  refine s_if hs (tEqI (i := (way : Int)) (eg_var (i := 6) rfl rfl) eg_int) (fun _ H hs => ?_) (fun _ H hs => wp_nil ?_)
  · refine s_asg hs (P := vPost K st) (Γ' := [some (vR a), some (vPlan K p), some (vL (p.l.sts.map (vPost K))), some (vL (p.l.lks.map (vTie K))), some (vS p.l.out), some (vL (p.ws.map vS)), some (vIn way), some (vIn at_), some (vS st.name), some (vOpt st.hands), some (vB st.timed), none, none, none, none, none]) (gIxL (atI_get hps) (eg_var (i := 2) rfl rfl) (eg_var (i := 7) rfl rfl)) (gt_tup (gts_cons (gt_name 8 sc_law_kin.nd) (gts_cons (gt_name 9 sc_law_kin.nd) (gts_cons (gt_name 10 sc_law_kin.nd) gts_nil)))) (fun σ H hs => ?_)
    refine s_retS hs (EG.cast (P := vL [vL ((p.l.sts.set at_ ⟨st.name, st.hands, !st.timed⟩).map (vPost K)), vL (p.l.lks.map (vTie K)), vS p.l.out, vL (p.ws.map vS)]) (eg_lst (ag_cons ?_ (ag_cons (eg_var (i := 3) rfl rfl) (ag_cons (eg_var (i := 4) rfl rfl) (ag_cons (eg_var (i := 5) rfl rfl) ag_nil))))) rfl) fun v G' H' g o q => k _ _ v G' H' g o ⟨⟨⟨p.l.sts.set at_ ⟨st.name, st.hands, !st.timed⟩, p.l.lks, p.l.out⟩, p.ws⟩, post_set ok hps rfl fun k e => ok4.hands st mst k e, q⟩
    exact eg_mid hat (by omega) (eg_var (i := 2) rfl rfl) (eg_var (i := 7) rfl rfl) (eg_lst (ag_cons (eg_tup (ag_cons (eg_var (i := 8) rfl rfl) (ag_cons (eg_var (i := 9) rfl rfl) (ag_cons (eg_not (eg_var (i := 10) rfl rfl)) ag_nil)))) ag_nil)) (eg_var (i := 2) rfl rfl) (gAdd (eg_var (i := 7) rfl rfl) eg_int)
  -- two names exchanged
  refine s_if hs (tEqI (i := (way : Int)) (eg_var (i := 6) rfl rfl) eg_int) (fun _ H hs => ?_) (fun _ H hs => wp_nil ?_)
  · refine s_retS hs (eg_callE (P' := vEx (PlanOk 4 6) (vPlan K)) (g_law_swapped T) hr (by omega) (As := [vPlan K p, vS (p.ws.getD at_ ""), vEx (· ∈ p.ws) vS]) (ag_cons (eg_var (i := 1) rfl rfl) (ag_cons (gIxL (atI_map (f := vS) (xs := p.ws) (d := "") (by omega)) (eg_var (i := 5) rfl rfl) (eg_var (i := 7) rfl rfl)) (ag_cons (gIxLE (n := p.ws.length) (xs := p.ws) (F := vS) rfl (eg_var (i := 5) rfl rfl) (eg_callS (g_law_dig T) hr (by omega) p.ws.length ⟨by omega, by omega⟩ 0 rfl rfl (ag_cons (eg_var (i := 0) rfl rfl) (ag_cons ((eg_lenL T.f_len (eg_var (i := 5) rfl rfl)).cast (by rw [List.length_map])) ag_nil)))) ag_nil))) (fun vs G q => ?_)) fun v G' H' g o q => k _ _ v G' H' g o q
    cases q with
    | cons q1 q =>
      cases q with
      | cons q2 q =>
        cases q with
        | cons q3 q =>
          cases q
          obtain ⟨y, hy, q3⟩ := q3
          exact ⟨(p, p.ws.getD at_ "", y), ⟨by show p.l.lks.length ≤ 30; omega, by show p.ws.length ≤ 30; omega⟩, .cons q1 (.cons q2 (.cons q3 .nil)), fun v G' q => ⟨_, swP_ok ok4 (getD_mem (by omega)) hy, q⟩⟩
  -- the same one, turned
  have hdt : SeqAt.shaped (.list (p.l.lks.map tieD)) = true := shaped_list (n := 1) (by omega) fun t ht => let q := ok.ties t ht; lay_tie (ok.menu _ q.src) (ok.menu _ q.dst)
  refine s_if hs ((wg_or (tg_cmp (op_eqD hr.units) (rg_eqD (dat_L (dat_map (fun _ => dat_tie) p.l.lks)) (dat_L .nil) hdt (by decide)) (eg_var (i := 3) rfl rfl) (eg_lst ag_nil) rfl) (fun _ => wg_or1 (tEqI (i := (way : Int)) (eg_var (i := 6) rfl rfl) eg_int))).tg) (fun _ H hs => ?_) (fun hne H hs => wp_nil ?_)
  · refine s_retS hs (EG.cast (P := vL [vL ((p.l.sts.drop at_ ++ p.l.sts.take at_).map (vPost K)), vL (p.l.lks.map (vTie K)), vS p.l.out, vL (p.ws.map vS)]) (eg_lst (ag_cons (eg_rot (by omega) (by omega) (eg_var (i := 2) rfl rfl) (eg_var (i := 7) rfl rfl) (eg_var (i := 2) rfl rfl) (eg_var (i := 7) rfl rfl)) (ag_cons (eg_var (i := 3) rfl rfl) (ag_cons (eg_var (i := 4) rfl rfl) (ag_cons (eg_var (i := 5) rfl rfl) ag_nil))))) rfl) fun v G' H' g o q => k _ _ v G' H' g o ⟨⟨⟨p.l.sts.drop at_ ++ p.l.sts.take at_, p.l.lks, p.l.out⟩, p.ws⟩, ⟨?_, ok.nd, ok.ne, ok.few, ok.menu, fun q hq => ok4.hands q ((perm_rot p.l.sts at_).mem_iff.mp hq), ok4.ties, ok4.fewL, ok.out⟩, q⟩
    show ((p.l.sts.drop at_ ++ p.l.sts.take at_).map Stn.name).Perm p.ws
    exact ((perm_rot _ _).map _).trans ok.perm
  have hne2 : p.l.lks ≠ [] := fun z => by
    have h9 : PyData.eqv (.list (p.l.lks.map tieD)) (.list []) = true := by rw [eqv_nil, z]; rfl
    rw [h9] at hne
    cases hne
  have hlen : 0 < p.l.lks.length := List.length_pos_iff.mpr hne2
  refine s_set hs 11 (eg_callS (g_law_dig T) hr (by omega) p.l.lks.length ⟨by omega, by omega⟩ 0 rfl rfl (ag_cons (eg_var (i := 0) rfl rfl) (ag_cons ((eg_lenL T.f_len (eg_var (i := 3) rfl rfl)).cast (by rw [List.length_map])) ag_nil))) (fun σ H hs => ?_) sc_law_kin.nd
  obtain ⟨sp, hsp, hs⟩ := hs.ex 11 rfl
  have hs : Sat G H0 [some (vR a), some (vPlan K p), some (vL (p.l.sts.map (vPost K))), some (vL (p.l.lks.map (vTie K))), some (vS p.l.out), some (vL (p.ws.map vS)), some (vIn way), some (vIn at_), none, none, none, some (vIn sp), none, none, none, none] [(a, oPu)] σ H := hs
  have hsp2 : sp < p.l.lks.length := hsp
  have hpt : p.l.lks[sp]? = some (p.l.lks[sp]) := List.getElem?_eq_getElem hsp2
  generalize hy : p.l.lks[sp] = t at hpt
  have mt := ok.ties t (List.mem_of_getElem? hpt)
  -- a tie less
  refine s_if hs (tEqI (i := (way : Int)) (eg_var (i := 6) rfl rfl) eg_int) (fun _ H hs => ?_) (fun _ H hs => wp_nil ?_)
  · refine s_retS hs (EG.cast (P := vL [vL (p.l.sts.map (vPost K)), vL ((p.l.lks.eraseIdx sp).map (vTie K)), vS p.l.out, vL (p.ws.map vS)]) (eg_lst (ag_cons (eg_var (i := 2) rfl rfl) (ag_cons (eg_cutOut hsp2 (by omega) (eg_var (i := 3) rfl rfl) (eg_var (i := 11) rfl rfl) (eg_var (i := 3) rfl rfl) (gAdd (eg_var (i := 11) rfl rfl) eg_int)) (ag_cons (eg_var (i := 4) rfl rfl) (ag_cons (eg_var (i := 5) rfl rfl) ag_nil))))) rfl) fun v G' H' g o q => k _ _ v G' H' g o ⟨⟨⟨p.l.sts, p.l.lks.eraseIdx sp, p.l.out⟩, p.ws⟩, ⟨ok.perm, ok.nd, ok.ne, ok.few, ok.menu, ok4.hands, fun q hq => ok4.ties q (List.mem_of_mem_eraseIdx hq), ?_, ok.out⟩, q⟩
    show (p.l.lks.eraseIdx sp).length ≤ 6
    have := List.length_eraseIdx_le p.l.lks sp
    omega
  refine s_asg hs (P := vTie K t) (Γ' := [some (vR a), some (vPlan K p), some (vL (p.l.sts.map (vPost K))), some (vL (p.l.lks.map (vTie K))), some (vS p.l.out), some (vL (p.ws.map vS)), some (vIn way), some (vS t.src), none, none, none, some (vIn sp), some (vS t.dst), some (vIn t.stock), some (vB t.early), none]) (gIxL (atI_get hpt) (eg_var (i := 3) rfl rfl) (eg_var (i := 11) rfl rfl)) (gt_tup (gts_cons (gt_name 7 sc_law_kin.nd) (gts_cons (gt_name 12 sc_law_kin.nd) (gts_cons (gt_name 13 sc_law_kin.nd) (gts_cons (gt_name 14 sc_law_kin.nd) gts_nil))))) (fun σ H hs => ?_)
  refine s_set hs 15 (P := vEx (TieOk 4 p.ws) (vTie K)) (EG.to (P := vT K [vS t.src, vS t.dst, vEx (fun h : Nat => h ≤ 4 ∧ (h = 0 → t.stock = 0)) vIn, vB t.early]) (eg_tup (ag_cons (eg_var (i := 7) rfl rfl) (ag_cons (eg_var (i := 12) rfl rfl) (ag_cons (eg_ifExp (P := vEx (fun h : Nat => h ≤ 4 ∧ (h = 0 → t.stock = 0)) vIn) (tLt (i := (t.stock : Int)) (eg_var (i := 13) rfl rfl) eg_int) (fun h => EG.to (P := vI ((t.stock : Int) + 1)) (gAdd (eg_var (i := 13) rfl rfl) eg_int) fun v G q => ⟨t.stock + 1, ⟨by have := of_decide_eq_true h; omega, fun z => by omega⟩, q⟩) (fun h => EG.to (P := vI ((t.stock : Int) - 1)) (gSub (eg_var (i := 13) rfl rfl) eg_int) fun v G q => ⟨t.stock - 1, ?_, ?_⟩)) (ag_cons (eg_var (i := 14) rfl rfl) ag_nil))))) fun v G ⟨b, vs, e, hb, q⟩ => ?_) (fun σ H hs => ?_) sc_law_kin.nd
  · have := of_decide_eq_false h
    have := mt.stock
    omega
  · have := of_decide_eq_false h
    have := mt.stock
    omega
  · cases q with
    | cons q1 q =>
      cases q with
      | cons q2 q =>
        cases q with
        | cons q3 q =>
          obtain ⟨h, ⟨h1, h2⟩, q3⟩ := q3
          exact ⟨⟨t.src, t.dst, h, t.early⟩, ⟨mt.src, mt.dst, h1, fun z => mt.go (h2 z)⟩, b, _, e, hb, .cons q1 (.cons q2 (.cons q3 q))⟩
  have hs : Sat G H0 [some (vR a), some (vPlan K p), some (vL (p.l.sts.map (vPost K))), some (vL (p.l.lks.map (vTie K))), some (vS p.l.out), some (vL (p.ws.map vS)), some (vIn way), some (vS t.src), none, none, none, some (vIn sp), some (vS t.dst), some (vIn t.stock), some (vB t.early), some (vEx (TieOk 4 p.ws) (vTie K))] [(a, oPu)] σ H := hs
  refine s_ifJ (φ := fun _ => True) (fun σ H => Sat G H0 [some (vR a), some (vPlan K p), some (vL (p.l.sts.map (vPost K))), some (vL (p.l.lks.map (vTie K))), some (vS p.l.out), some (vL (p.ws.map vS)), some (vIn way), some (vS t.src), none, none, none, some (vIn sp), some (vS t.dst), some (vIn t.stock), some (vB t.early), some (vEx (TieOk 4 p.ws) (vTie K))] [(a, oPu)] σ H) hs (tge_cmp op_eq (rg_to (rg_eq rfl) fun v G q => ⟨_, trivial, q⟩) (eg_var (i := 6) rfl rfl) eg_int rfl) (fun _ H hs => ?_) (fun _ H hs => wp_nil hs) ?_
  · exact s_set hs 15 (P := vEx (TieOk 4 p.ws) (vTie K)) (EG.to (P := vTie K ⟨t.src, t.dst, t.stock, !t.early⟩) (eg_tup (ag_cons (eg_var (i := 7) rfl rfl) (ag_cons (eg_var (i := 12) rfl rfl) (ag_cons (eg_var (i := 13) rfl rfl) (ag_cons (eg_not (eg_var (i := 14) rfl rfl)) ag_nil))))) fun v G q => ⟨⟨t.src, t.dst, t.stock, !t.early⟩, ⟨mt.src, mt.dst, by have := mt.stock; show t.stock ≤ 4; omega, mt.go⟩, q⟩) (fun σ H hs => wp_nil hs) sc_law_kin.nd
  intro σ H hs
  obtain ⟨t', ht', hs⟩ := hs.ex 15 rfl
  refine s_retS hs (EG.cast (P := vL [vL (p.l.sts.map (vPost K)), vL ((p.l.lks.set sp t').map (vTie K)), vS p.l.out, vL (p.ws.map vS)]) (eg_lst (ag_cons (eg_var (i := 2) rfl rfl) (ag_cons (eg_mid hsp2 (by omega) (eg_var (i := 3) rfl rfl) (eg_var (i := 11) rfl rfl) (eg_lst (ag_cons (eg_var (i := 15) rfl rfl) ag_nil)) (eg_var (i := 3) rfl rfl) (gAdd (eg_var (i := 11) rfl rfl) eg_int)) (ag_cons (eg_var (i := 4) rfl rfl) (ag_cons (eg_var (i := 5) rfl rfl) ag_nil))))) rfl) fun v G' H' g o q => k _ _ v G' H' g o ⟨_, tie_set ok ht', q⟩
end
end Ow
namespace Ow
open PySem PySem.Spec PyProof.Rows L2 He
/-! ### the line of a plan -/
theorem lnOk_of {W L : Nat} {p : Pl} (ok : PlanOk W L p) (hW : W ≤ 4) (hL : L ≤ 12) : LnOk p.l := by
  have hsts : p.l.sts.length = p.ws.length := by
    have := ok.perm.length_eq
    unfold Ln.names at this
    rw [List.length_map] at this; exact this
  refine ⟨fun z => ?_, by rw [hsts]; exact ok.few, ok.perm.nodup_iff.mpr ok.nd, fun s hs => ⟨ok.menu _ (ok.perm.mem_iff.mp (List.mem_map_of_mem hs)), fun h e => ?_⟩, Nat.le_trans ok.fewL hL, fun t ht => ?_, ok.perm.mem_iff.mpr ok.out⟩
  · have := ok.ne
    rw [← hsts, z] at this
    exact absurd this (by decide)
  · obtain ⟨a, b⟩ := ok.hands s hs h e
    exact ⟨a, Nat.le_trans b hW⟩
  · have q := ok.ties t ht
    exact ⟨⟨ok.menu _ q.src, ok.menu _ q.dst, by have := q.stock; omega⟩, ok.perm.mem_iff.mpr q.src, ok.perm.mem_iff.mpr q.dst⟩
section
variable {P : Program} {w : World} {K : PySem.W.Frag} {mg : Str → Option Value} {base : Heap}
theorem g_law_line (T : Txt K mg) : FG P w K mg base 6 "_law_line" (fun p : Pl => LnOk p.l) (fun p => [vPlan K p]) (fun p => vLn K p.l) := by
  refine (fo T.d_law_line sc_law_line (fun _ _ => rfl) (fun _ _ _ _ _ _ us hl => match us, hl with | [_], _ => rfl) ?_).fg T.g_law_line
  rintro cdv Ar outer s0 H0 E p G Q σ hr ok hs k
  have hsz := small30
  have f1 := ok.few
  have f2 := ok.fewL
  have hs : Sat G H0 [some (vPlan K p), none, none, none, none, none, none, none, none, none] [] σ H0 := hs
  refine s_setLc n_law_line (defScope s_law_line) [("_law_word", 3), ("_law_many", 4), ("_law_clock", 5)] (t := fun _ => true) (R := fun s => vStn K s) (fun s => [some (vPlan K p), none, none, some (vS s.name), some (vOpt s.hands), some (vB s.timed), none, none, none, none]) [3, 4, 5] hs 1 (ig_list (xs := p.l.sts) (F := vPost K) (gIxL rfl (eg_var (i := 0) rfl rfl) eg_int)) (by omega)
    (fun _ _ _ _ _ s _ => gt_tup (gts_cons (gt_name 3 sc_law_line.nd) (gts_cons (gt_name 4 sc_law_line.nd) (gts_cons (gt_name 5 sc_law_line.nd) gts_nil)))) (fun _ _ _ _ _ s _ => pts_yes)
    (fun _ _ _ _ _ s hs _ => eg_makeK (i_Station T) hr (by omega) (ag_cons (eg_var (i := 3) rfl rfl) (ag_cons (eg_var (i := 4) rfl rfl) ag_nil)) (kg_cons (eg_var (i := 5) rfl rfl) kg_nil) rfl rfl s (ok.sts s hs) rfl) (fun σ H hs => ?_) sc_law_line.nd
  rw [filter_true] at hs
  have hs : Sat G H0 [some (vPlan K p), some (vL (p.l.sts.map (vStn K))), none, none, none, none, none, none, none, none] [] σ H := hs
  refine s_setLc n_law_line (defScope s_law_line) [("_law_at", 6), ("_law_to", 7), ("_law_held", 8), ("_law_soon", 9)] (t := fun _ => true) (R := fun t => vLnk K t) (fun t => [some (vPlan K p), some (vL (p.l.sts.map (vStn K))), none, none, none, none, some (vS t.src), some (vS t.dst), some (vIn t.stock), some (vB t.early)]) [6, 7, 8, 9] hs 2 (ig_list (xs := p.l.lks) (F := vTie K) (gIxL rfl (eg_var (i := 0) rfl rfl) eg_int)) (by omega)
    (fun _ _ _ _ _ t _ => gt_tup (gts_cons (gt_name 6 sc_law_line.nd) (gts_cons (gt_name 7 sc_law_line.nd) (gts_cons (gt_name 8 sc_law_line.nd) (gts_cons (gt_name 9 sc_law_line.nd) gts_nil))))) (fun _ _ _ _ _ t _ => pts_yes)
    (fun _ _ _ _ _ t ht _ => eg_makeK (i_Link T) hr (by omega) (ag_cons (eg_var (i := 6) rfl rfl) (ag_cons (eg_var (i := 7) rfl rfl) (ag_cons (eg_var (i := 8) rfl rfl) ag_nil))) (kg_cons (eg_var (i := 9) rfl rfl) kg_nil) rfl rfl t (ok.lks t ht).1 rfl) (fun σ H hs => ?_) sc_law_line.nd
  rw [filter_true] at hs
  refine s_ret hs (eg_make (As := [vT K (p.l.sts.map (vStn K)), vT K (p.l.lks.map (vLnk K)), vS p.l.out]) (ds := []) (i_Line T) hr (by omega) p.l ok rfl (fun _ => .nil) (ag_cons (eg_tuple T.f_tuple (eg_var (i := 1) rfl rfl)) (ag_cons (eg_tuple T.f_tuple (eg_var (i := 2) rfl rfl)) (ag_cons (gIxL rfl (eg_var (i := 0) rfl rfl) eg_int) ag_nil)))) k
end
end Ow
namespace Ow
open PySem PySem.Spec PyProof.Rows L2 He
/-! ### ranks as data -/
theorem eqv_tk (a b : Tk) : PyData.eqv (tkD a) (tkD b) = true ↔ a = b := by
  have e : PyData.eqv (tkD a) (tkD b) = (decide (((a.2 : Nat) : Int) = ((b.2 : Nat) : Int)) && (decide (a.1 = b.1) && true)) := rfl
  rw [e, Bool.and_true, Bool.and_eq_true, decide_eq_true_iff, decide_eq_true_iff]
  constructor
  · rintro ⟨h1, h2⟩
    exact Prod.ext h2 (by omega)
  · rintro rfl
    exact ⟨rfl, rfl⟩
theorem alikeT (a b : Tk) : PySem.W.alike (tkD a) (tkD b) = true := rfl
theorem lex_tks : ∀ {as bs : List Tk}, as.length = bs.length → (PyProof.Rows.lexLt PyProof.Rows.itemOrd (PySem.W.keyToksAll (as.map tkD)) (PySem.W.keyToksAll (bs.map tkD)) = true ↔ tksLt as bs)
  | [], [], _ => by
    have e : PyProof.Rows.lexLt PyProof.Rows.itemOrd (PySem.W.keyToksAll []) (PySem.W.keyToksAll []) = false := PyProof.Rows.lex_irrefl _
    show PyProof.Rows.lexLt PyProof.Rows.itemOrd (PySem.W.keyToksAll []) (PySem.W.keyToksAll []) = true ↔ False
    rw [e]
    exact ⟨fun h => (by cases h), False.elim⟩
  | [], _ :: _, h => by cases h
  | _ :: _, [], h => by cases h
  | a :: as, b :: bs, h => by
    rw [List.map_cons, List.map_cons, PySem.W.dataLt_cons (alikeT a b)]
    have ih := lex_tks (as := as) (bs := bs) (by simpa using h)
    show _ ↔ tkLt a b ∨ (a = b ∧ tksLt as bs)
    by_cases e : a = b
    · subst e
      rw [if_pos ((eqv_tk a a).mpr rfl), ih]
      exact ⟨fun z => .inr ⟨rfl, z⟩, fun z => z.elim (fun z => absurd z tkLt_irr) fun z => z.2⟩
    · rw [if_neg fun z => e ((eqv_tk a b).mp z), lt_tkD]
      exact ⟨fun z => .inl z, fun z => z.elim id fun z => absurd z.1 e⟩
theorem eqv_tks : ∀ {as bs : List Tk}, PyData.eqvAll (as.map tkD) (bs.map tkD) = true ↔ as = bs
  | [], [] => ⟨fun _ => rfl, fun _ => rfl⟩
  | [], _ :: _ => ⟨fun h => (by cases h), fun h => (by cases h)⟩
  | _ :: _, [] => ⟨fun h => (by cases h), fun h => (by cases h)⟩
  | a :: as, b :: bs => by
    have ih := eqv_tks (as := as) (bs := bs)
    rw [List.map_cons, List.map_cons, PySem.W.eqv_all_cons, Bool.and_eq_true, eqv_tk, ih]
    exact ⟨fun ⟨h1, h2⟩ => by rw [h1, h2], fun h => by injection h with h1 h2; exact ⟨h1, h2⟩⟩
theorem alike_tks : ∀ {as bs : List Tk}, PySem.W.alikeAll (as.map tkD) (bs.map tkD) = true
  | [], [] => by rw [List.map_nil, PySem.W.alikeAll]
  | [], _ :: _ => by rw [List.map_nil, PySem.W.alikeAll]
  | _ :: _, [] => by rw [List.map_nil, List.map_cons, PySem.W.alikeAll]
  | a :: as, b :: bs => by
    rw [List.map_cons, List.map_cons, PySem.W.alikeAll, alikeT, Bool.true_and]
    exact alike_tks
theorem lt_rank (c d : Case) : PySem.W.dataLt (rankD c) (rankD d) = true ↔ rankLt c d := by
  unfold rankD
  rw [PySem.W.dataLt_tuple, PySem.W.dataLt_cons rfl, PySem.W.dataLt_cons rfl, PySem.W.dataLt_int, PySem.W.dataLt_int]
  have e1 : ∀ i j : Nat, PyData.eqv (.int (i : Nat)) (.int (j : Nat)) = decide (i = j) := fun i j => by
    show decide (((i : Nat) : Int) = ((j : Nat) : Int)) = _
    rw [Bool.eq_iff_iff, decide_eq_true_iff, decide_eq_true_iff]; omega
  rw [e1, e1]
  unfold rankLt
  by_cases h : c.num = d.num
  · rw [if_pos (decide_eq_true h)]
    by_cases k : c.tasks.length = d.tasks.length
    · rw [if_pos (decide_eq_true k)]
      have al : PySem.W.alike (.list (c.tasks.map tkD)) (.list (d.tasks.map tkD)) = true := by
        rw [PySem.W.alike]; exact alike_tks
      rw [PySem.W.dataLt_cons al]
      have e0 : PyProof.Rows.lexLt PyProof.Rows.itemOrd (PySem.W.keyToksAll []) (PySem.W.keyToksAll []) = false := PyProof.Rows.lex_irrefl _
      have e2 : PyData.eqv (.list (c.tasks.map tkD)) (.list (d.tasks.map tkD)) = PyData.eqvAll (c.tasks.map tkD) (d.tasks.map tkD) := rfl
      rw [e0, e2, PySem.W.dataLt_list]
      by_cases t : c.tasks = d.tasks
      · rw [if_pos (eqv_tks.mpr t)]
        refine ⟨fun z => (by cases z), fun z => ?_⟩
        rcases z with z | ⟨_, z | ⟨_, z⟩⟩
        · omega
        · omega
        · rw [t] at z; exact absurd z tksLt_irr
      · rw [if_neg fun z => t (eqv_tks.mp z), lex_tks k]
        refine ⟨fun z => .inr ⟨h, .inr ⟨k, z⟩⟩, fun z => ?_⟩
        rcases z with z | ⟨_, z | ⟨_, z⟩⟩
        · omega
        · omega
        · exact z
    · rw [if_neg (by simp [k]), decide_eq_true_iff]
      refine ⟨fun z => .inr ⟨h, .inl (by omega)⟩, fun z => ?_⟩
      rcases z with z | ⟨_, z | ⟨z, _⟩⟩
      · omega
      · omega
      · exact absurd z k
  · rw [if_neg (by simp [h]), decide_eq_true_iff]
    exact ⟨fun z => .inl (by omega), fun z => z.elim (fun z => by omega) fun z => absurd z.1 h⟩
theorem alike_rank (c d : Case) : PySem.W.alike (rankD c) (rankD d) = true := by
  unfold rankD
  rw [PySem.W.alike, PySem.W.alikeAll, PySem.W.alikeAll, PySem.W.alikeAll, PySem.W.alikeAll, PySem.W.alike, PySem.W.alike, PySem.W.alike, alike_tks]
  rfl
theorem depth_tks : ∀ {as : List Tk}, PyData.depthAll (as.map tkD) ≤ 1
  | [] => by rw [List.map_nil, PyData.depthAll]; omega
  | a :: as => by
    have := depth_tks (as := as)
    have e : (tkD a).depth = 1 := rfl
    rw [List.map_cons, PyData.depthAll, e]
    omega
theorem depth_rank (c : Case) : (rankD c).depth ≤ 60 := by
  have := depth_tks (as := c.tasks)
  unfold rankD
  rw [PyData.depth, PyData.depthAll, PyData.depthAll, PyData.depthAll, PyData.depthAll, PyData.depth, PyData.depth, PyData.depth]
  omega
/-! ### the sizes of what orders tell -/
theorem lim_le3 {l : Ln} (h : l.width ≤ 3) : lim l ≤ 515 := by
  unfold lim
  have : 2 ^ (3 * l.width) ≤ 2 ^ 9 := Nat.pow_le_pow_right (by decide) (by omega)
  have : (2 : Nat) ^ 9 = 512 := by decide
  omega
theorem lim_pos (l : Ln) : 1 ≤ lim l := by
  unfold lim
  have h1 := width_pos l
  have h2 : 0 < 2 ^ (3 * l.width) := Nat.pow_pos (by decide)
  omega
theorem lags_small {y : WalkY} {z : WalkZ} (h : WalkIs y z) {s : Str} {pl : Bool} {f : Fm} (hf : LagsOf z s pl f) : FmOk f BL ∧ f.s + f.p ≤ lim y.l := by
  obtain ⟨h1, h2, h3, _⟩ := hf
  have hlt := h.lt
  have hbd := h.bd
  have hw := width_pos y.l
  have := Nat.le_of_dvd (by omega) h3
  exact ⟨h1, by omega⟩
theorem outL_small {l : Ln} {z : OrdZ} (h : OrdIs l z) (n : Str) : FmOk (z.outL n).f BL ∧ (z.outL n).f.s + (z.outL n).f.p ≤ lim l := by
  unfold OrdZ.outL
  by_cases hn : n ∈ z.known
  · obtain ⟨f, h1, w, h2, h3⟩ := (h.out n).1 hn
    rw [h1]
    exact lags_small h2 h3
  · rw [(h.out n).2 hn]
    obtain ⟨h1, h2, h3, _⟩ := h.none
    have := Nat.le_of_dvd (by omega) h3
    have := lim_pos l
    exact ⟨h1, by show z.none.s + z.none.p ≤ _; omega⟩
theorem betL_small {l : Ln} {z : OrdZ} (h : OrdIs l z) (n o : Str) : FmOk (z.betL n o).f BL ∧ (z.betL n o).f.s + (z.betL n o).f.p ≤ lim l := by
  unfold OrdZ.betL
  by_cases hn : n ∈ z.known ∧ o ∈ z.known
  · obtain ⟨f, h1, w, h2, h3⟩ := (h.bet n o).1 hn
    rw [h1]
    exact lags_small h2 h3
  · rw [(h.bet n o).2 hn]
    obtain ⟨h1, h2, h3, _⟩ := h.none
    have := Nat.le_of_dvd (by omega) h3
    have := lim_pos l
    exact ⟨h1, by show z.none.s + z.none.p ≤ _; omega⟩
structure LcY where
  l : Ln
  m : Ln
  wh : Bool
structure LcOk (y : LcY) : Prop where
  l : WLn y.l
  m : WLn y.m
  al : Ahead y.l
  am : Ahead y.m
  w : y.l.width ≤ 3 ∨ y.m.width ≤ 3
theorem lcm_le {a b A B : Nat} (ha : a ≤ A) (hb : b ≤ B) (h1 : 1 ≤ a) : Nat.lcm a b ≤ A * B := by
  have : Nat.lcm a b ≤ a * b := by
    unfold Nat.lcm
    exact Nat.div_le_self _ _
  exact Nat.le_trans this (Nat.mul_le_mul ha hb)
theorem ords_ok {y : LcY} (o : LcOk y) {zo zt : OrdZ} (ho : OrdIs y.l zo) (ht : OrdIs y.m zt) : OrdsOk ⟨zo, zt, y.wh⟩ := by
  have hmul : lim y.l * lim y.m ≤ 2111500 := by
    rcases o.w with h | h
    · exact Nat.mul_le_mul (lim_le3 h) (lim_le o.m.w4)
    · have := Nat.mul_le_mul (lim_le o.l.w4) (lim_le3 h)
      exact Nat.le_trans this (by decide)
  have l1 := lim_le o.l.w4
  have l2 := lim_le o.m.w4
  have bl : BL = 4194304 := rfl
  have two : ∀ {f g : Fm}, FmOk f BL → FmOk g BL → f.s + f.p ≤ lim y.l → g.s + g.p ≤ lim y.m → max f.s g.s + 1 + Nat.lcm f.p g.p ≤ BL := fun {f g} h1 h2 h3 h4 => by
    have p1 := h1.pos
    have p2 := h2.pos
    have := lcm_le (a := f.p) (b := g.p) (A := lim y.l) (B := lim y.m) (by omega) (by omega) p1
    omega
  refine ⟨?_, fun n _ => ?_, fun n _ m _ => ?_, fun n _ => ?_⟩
  · show zo.known.length ≤ 3
    have e := ho.srt.1.length_eq
    have f := o.l.ok.few
    unfold Ln.clocked at e
    rw [List.length_map] at e
    have := List.length_filter_le Stn.timed y.l.sts
    omega
  · obtain ⟨a1, a2⟩ := outL_small ho n
    obtain ⟨b1, b2⟩ := outL_small ht n
    have := two a1 b1 a2 b2
    exact ⟨a1, b1, by show max (zo.outL n).f.s (zt.outL n).f.s + Nat.lcm (zo.outL n).f.p (zt.outL n).f.p ≤ BL; omega⟩
  · obtain ⟨a1, a2⟩ := betL_small ho n m
    obtain ⟨b1, b2⟩ := betL_small ht n m
    have := two a1 b1 a2 b2
    exact ⟨⟨a1, b1, by show max (zo.betL n m).f.s (zt.betL n m).f.s + Nat.lcm (zo.betL n m).f.p (zt.betL n m).f.p ≤ BL; omega⟩, (betL_small ht m n).1, this⟩
  · obtain ⟨a1, a2⟩ := outL_small ho n
    show (zo.outL n).f.s + (zo.outL n).f.p ≤ 5000
    omega
end Ow
namespace Ow
open PySem PySem.Spec PyProof.Rows L2 He
/-! ### calls of defs with keywords -/
structure FGk (P : Program) (w : World) (K : PySem.W.Frag) (mg : Str → Option Value) (base : Heap) (k : Nat) (x : Str) (n : Nat) (ks : List Str) (gV : List V → List V → List V) {α : Type} (φ : α → Prop) (A : α → List VP) (R : α → VP) : Prop where
  ex : ∃ f fd ps g, FnOk P w K mg base CX0 k f fd ps (Px φ A R) ∧ mg x = some (.ref f) ∧ PySem.W.keepIn K (.ref f) = true ∧ KBn K fd ps n ks g gV
section
variable {X : Cx} {Γ : Cn} {Ω : Om} {pos p : Pos} {e : Expr} {es : List Expr} {kws : List Keyword} {As Zs : List VP} {x : Str} {k j n : Nat} {ks : List Str} {gV : List V → List V → List V} {α : Type} {φ : α → Prop} {A : α → List VP} {R : α → VP}
theorem eg_callKW (F : FGk X.prog X.w X.K X.mg X.base j x n ks gV φ A R) (hr : Room k X.A) (hk : j ≤ k) (y : α) (hy : φ y) (ha : AG X Γ Ω (e :: es) As) (hz : KG X Γ Ω kws Zs) (hn : As.length = n) (hz2 : Zs.length = ks.length) (hA : ∀ vs zs G, PV As vs G → PV Zs zs G → PV (A y) (gV vs zs) G) (hg : Gl X x := by rfl)
    (hall : (backToKw pos (keywordEach kws X.env)).all (·.1.isSome) = true := by rfl) (hks : (backToKw pos (keywordEach kws X.env)).filterMap (·.1) = ks := by rfl) (hdb : (x == ("__debug__" : Str)) = false := by decide)
    (he : starEach (e :: es) X.env = (false, eval e X.env) :: starEach es X.env := by rfl) (hpl : ((backTo pos (starEach (e :: es) X.env)).any (·.1) || (backToKw pos (keywordEach kws X.env)).any (·.1.isNone)) = false := by rfl) : EG X Γ Ω (.Call (.Name x p) (e :: es) kws pos) (R y) := by
  obtain ⟨f, fd, ps, g, ok, hm, hkp, hb⟩ := F.ex
  refine weak (pe_callN (E := E0) ok (hr.mono hk) hg hm hkp hb pass0 ha hz hall hks hdb he hpl) fun σ H Q ⟨G0, H0, s, k⟩ => ⟨G0, H0, s, fun vs G1 H1 g1 o1 q1 => ⟨G1, H0, ⟨G1, g1.self, o1⟩, fun zs G2 H2 g2 o2 q2 => ?_⟩⟩
  refine ⟨by rw [← Paired.length q1]; exact hn, by rw [← Paired.length q2]; exact hz2, y, hy, G2, o2.gh, hA vs zs G2 (q1.mono g2.g) q2, fun v G' H' st q => k v G' H' ((g1.trans g2).step st) (o2.step st) q⟩
theorem pe_kw0 {CX : CXT} {f : Addr} {fd : FuncData} {ps : List Str} {sp : Sp} {E : XK} {g : List Value → List Value → List Value} {tk : TA} (F : FnOk X.prog X.w X.K X.mg X.base CX k f fd ps sp) (hr : Room k X.A) (hg : Gl X x) (hm : X.mg x = some (.ref f)) (hk : PySem.W.keepIn X.K (.ref f) = true) (hb : KBn X.K fd ps 0 ks g gV) (hx : Passes CX X E)
    (hkw : PK X kws tk) (hall : (backToKw pos (keywordEach kws X.env)).all (·.1.isSome) = true) (hks : (backToKw pos (keywordEach kws X.env)).filterMap (·.1) = ks) (hdb : (x == ("__debug__" : Str)) = false)
    (hpl : ((backTo pos (starEach [] X.env)).any (·.1) || (backToKw pos (keywordEach kws X.env)).any (·.1.isNone)) = false) : PE X (.Call (.Name x p) [] kws pos) (fun σ H Q => tk σ H fun zs H2 => zs.length = ks.length ∧ sp (gV [] zs) H2 Q E) :=
  ⟨fun pins s σ H Q I h => wpAny_Call_Name_kw (ld_glob I hg hm (PySem.W.callWith_KW0 (h₀ := X.base) I.ok.mod.kin hk hall (thn (hkw.run pos pins s σ H _ I h) fun ws s2 ⟨zs, H2, J, rz, l, q⟩ => ⟨J.kIn, by rw [hks]; exact run_fnN (us := []) (vs := []) F hr hb hx J .nil rz rfl l q⟩) hpl) hdb)⟩
theorem eg_callKW0 (F : FGk X.prog X.w X.K X.mg X.base j x 0 ks gV φ A R) (hr : Room k X.A) (hk : j ≤ k) (y : α) (hy : φ y) (hz : KG X Γ Ω kws Zs) (hz2 : Zs.length = ks.length) (hA : ∀ zs G, PV Zs zs G → PV (A y) (gV [] zs) G) (hg : Gl X x := by rfl)
    (hall : (backToKw pos (keywordEach kws X.env)).all (·.1.isSome) = true := by rfl) (hks : (backToKw pos (keywordEach kws X.env)).filterMap (·.1) = ks := by rfl) (hdb : (x == ("__debug__" : Str)) = false := by decide)
    (hpl : ((backTo pos (starEach [] X.env)).any (·.1) || (backToKw pos (keywordEach kws X.env)).any (·.1.isNone)) = false := by rfl) : EG X Γ Ω (.Call (.Name x p) [] kws pos) (R y) := by
  obtain ⟨f, fd, ps, g, ok, hm, hkp, hb⟩ := F.ex
  refine weak (pe_kw0 (E := E0) ok (hr.mono hk) hg hm hkp hb pass0 hz hall hks hdb hpl) fun σ H Q ⟨G0, H0, s, k⟩ => ⟨G0, H0, s, fun zs G2 H2 g2 o2 q2 => ?_⟩
  exact ⟨by rw [← Paired.length q2]; exact hz2, y, hy, G2, o2.gh, hA zs G2 q2, fun v G' H' st q => k v G' H' (g2.step st) (o2.step st) q⟩
end
/-! ### the least case -/
def vOptC (K : PySem.W.Frag) : Option Case → VP
  | some c => vCase K c
  | none => vN
def Told2 (y : LcY) (r : Option Case) : Prop := ToldC y.l y.m y.wh r ∧ ∀ c, r = some c → c.num ≤ 4200000
structure BestOk (cs : List Case) (b : Option Case) : Prop where
  no : b = none → cs = []
  some : ∀ c, b = some c → c ∈ cs ∧ ∀ d ∈ cs, ¬ rankLt d c
theorem best_told {y : LcY} (o : LcOk y) {zo zt : OrdZ} (ho : OrdIs y.l zo) (ht : OrdIs y.m zt) {c1 c2 : List Case} (h1 : SingAll ⟨zo, zt, y.wh⟩ c1) (h2 : PairAll ⟨zo, zt, y.wh⟩ c2) {b : Option Case} (hb : BestOk (c1 ++ c2) b) : Told2 y b := by
  have good : ∀ c ∈ c1 ++ c2, Valid y.l c ∧ LaterC y.l y.m y.wh c ∧ c.num ≤ 4200000 := fun c hc => by
    rcases List.mem_append.mp hc with hc | hc
    · obtain ⟨n, hn, h⟩ := h1.to c hc
      obtain ⟨a, b⟩ := sing_ok ho ht hn h
      exact ⟨a, b, h1.bd c hc⟩
    · obtain ⟨n, hn, q, hq, h⟩ := h2.to c hc
      obtain ⟨a, b⟩ := pair_ok o.l.ok o.al o.m.ok o.am ho ht h
      exact ⟨a, b, h2.bd c hc⟩
  have below : ∀ d, Valid y.l d → LaterC y.l y.m y.wh d → ∃ c' ∈ c1 ++ c2, rankLt c' d ∨ c' = d := fun d v h => by
    obtain ⟨c', hc, hr⟩ := cand_below o.l.ok o.al ho ht v h
    refine ⟨c', ?_, hr⟩
    rcases hc with ⟨n, hn, h⟩ | ⟨n, hn, q, hq, h⟩
    · exact List.mem_append_left _ (h1.of n hn c' h)
    · exact List.mem_append_right _ (h2.of n hn q hq c' h)
  refine ⟨⟨fun e d v h => ?_, fun c e => ?_⟩, fun c e => (good c (hb.some c e).1).2.2⟩
  · obtain ⟨c', hc, _⟩ := below d v h
    rw [hb.no e] at hc; cases hc
  · obtain ⟨hc, hmin⟩ := hb.some c e
    obtain ⟨g1, g2, _⟩ := good c hc
    refine ⟨g1, g2, fun d v h hlt => ?_⟩
    obtain ⟨c', hc', hr⟩ := below d v h
    refine hmin c' hc' ?_
    rcases hr with hr | rfl
    · exact rank_trans hr hlt
    · exact hlt
def bestC (c : Case) : Option Case → Option Case
  | none => some c
  | some d => if PySem.W.dataLt (rankD c) (rankD d) then some c else some d
theorem best_step {cs : List Case} {b : Option Case} {c : Case} (h : BestOk cs b) : BestOk (cs ++ [c]) (bestC c b) := by
  cases b with
  | none =>
    have e := h.no rfl
    subst e
    refine ⟨fun z => (by cases z), fun d z => ?_⟩
    have z' : c = d := Option.some.inj z
    subst z'
    exact ⟨List.mem_singleton.mpr rfl, fun x hx => by rw [List.mem_singleton.mp hx]; exact rank_irr⟩
  | some d =>
    obtain ⟨h1, h2⟩ := h.some d rfl
    show BestOk (cs ++ [c]) (if PySem.W.dataLt (rankD c) (rankD d) = true then some c else some d)
    by_cases hlt : rankLt c d
    · rw [if_pos ((lt_rank c d).mpr hlt)]
      refine ⟨fun z => (by cases z), fun x z => ?_⟩
      have z' : c = x := Option.some.inj z
      subst z'
      refine ⟨List.mem_append_right _ (List.mem_singleton.mpr rfl), fun x hx hh => ?_⟩
      rcases List.mem_append.mp hx with hx | hx
      · exact h2 x hx (rank_trans hh hlt)
      · rw [List.mem_singleton.mp hx] at hh; exact rank_irr hh
    · rw [if_neg fun z => hlt ((lt_rank c d).mp z)]
      refine ⟨fun z => (by cases z), fun x z => ?_⟩
      have z' : d = x := Option.some.inj z
      subst z'
      refine ⟨List.mem_append_left _ h1, fun x hx hh => ?_⟩
      rcases List.mem_append.mp hx with hx | hx
      · exact h2 x hx hh
      · rw [List.mem_singleton.mp hx] at hh; exact hlt hh
section
variable {P : Program} {w : World} {K : PySem.W.Frag} {mg : Str → Option Value} {base : Heap}
theorem g_least_case (T : Txt K mg) : FG P w K mg base 11 "least_case" LcOk (fun y => [vLn K y.l, vLn K y.m, vB y.wh]) (fun y => vEx (Told2 y) (vOptC K)) := by
  refine (fo T.d_least_case sc_least_case (fun _ _ => rfl) (fun _ _ _ _ _ _ us hl => match us, hl with | [_, _, _], _ => rfl) ?_).fg T.g_least_case
  rintro cdv Ar outer s0 H0 EE ⟨l, m, wh⟩ G Q σ hr o hs kk0
  have hsz := small30
  have hs : Sat G H0 [some (vLn K l), some (vLn K m), some (vB wh), none, none, none, none, none] [] σ H0 := hs
  refine s_par hs (P1 := vEx (OrdIs l) (vOrd K)) (P2 := vEx (OrdIs m) (vOrd K)) (i := 3) (j := 4) (ag_cons (eg_makeE (i_Orders T) hr (by omega) l o.l (ag_cons (eg_var (i := 0) rfl rfl) ag_nil)) (ag_cons (eg_makeE (i_Orders T) hr (by omega) m o.m (ag_cons (eg_var (i := 1) rfl rfl) ag_nil)) ag_nil)) (fun σ H hs => ?_) sc_least_case.nd rfl rfl
  obtain ⟨zo, ho, hs⟩ := hs.ex 3 rfl
  obtain ⟨zt, ht, hs⟩ := hs.ex 4 rfl
  have hs : Sat G H0 [some (vLn K l), some (vLn K m), some (vB wh), some (vOrd K zo), some (vOrd K zt), none, none, none] [] σ H := hs
  have oo := ords_ok o ho ht
  refine s_set hs 5 (P := vEx (fun q : List Case × List Case => SingAll ⟨zo, zt, wh⟩ q.1 ∧ PairAll ⟨zo, zt, wh⟩ q.2) (fun q => vL ((q.1 ++ q.2).map (vCase K)))) (eg_op op_cat (rg_exL fun c1 h1 => rg_exR fun c2 h2 => rg_to (rg_cat (by rw [List.length_map, List.length_map]; have := h1.few; have := h2.few; omega)) fun v G q => ⟨(c1, c2), ⟨h1, h2⟩, by show (vL ((c1 ++ c2).map (vCase K))).p v G; rw [List.map_append]; exact q⟩) (eg_call (g_single_cases T) hr (by omega) ⟨zo, zt, wh⟩ oo (ag_cons (eg_var (i := 3) rfl rfl) (ag_cons (eg_var (i := 4) rfl rfl) (ag_cons (eg_var (i := 2) rfl rfl) ag_nil)))) (eg_call (g_pair_cases T) hr (by omega) ⟨zo, zt, wh⟩ oo (ag_cons (eg_var (i := 3) rfl rfl) (ag_cons (eg_var (i := 4) rfl rfl) (ag_cons (eg_var (i := 2) rfl rfl) ag_nil))))) (fun σ H hs => ?_) sc_least_case.nd
  obtain ⟨⟨c1, c2⟩, ⟨h1, h2⟩, hs⟩ := hs.ex 5 rfl
  replace h1 : SingAll ⟨zo, zt, wh⟩ c1 := h1
  replace h2 : PairAll ⟨zo, zt, wh⟩ c2 := h2
  have fewT : ∀ c ∈ c1 ++ c2, c.tasks.length ≤ 30 := fun c hc => by
    rcases List.mem_append.mp hc with hc | hc
    · obtain ⟨n, _, h, _⟩ := h1.to c hc
      rw [h]; show 1 ≤ 30; omega
    · obtain ⟨n, _, q, _, a, b, _, _, rfl⟩ := h2.to c hc
      show 2 ≤ 30; omega
  refine s_set hs 6 (P := vOptC K none) eg_non (fun σ H hs => ?_) sc_least_case.nd
  refine s_for (γ := Option Case) hs (ig_list (xs := c1 ++ c2) (F := vCase K) (eg_var (i := 5) rfl rfl)) (fun _ b => [some (vLn K l), some (vLn K m), some (vB wh), some (vOrd K zo), some (vOrd K zt), some (vL ((c1 ++ c2).map (vCase K))), some (vOptC K b), none]) (fun _ _ => [])
    (fun i b => BestOk ((c1 ++ c2).take i) b) (fun _ b c => [some (vLn K l), some (vLn K m), some (vB wh), some (vOrd K zo), some (vOrd K zt), some (vL ((c1 ++ c2).map (vCase K))), some (vOptC K b), some (vCase K c)]) [7]
    (fun G1 σ H h => ⟨none, ⟨fun _ => rfl, fun c z => (by cases z)⟩, h⟩) (fun i b c _ _ => gt_name 7 sc_least_case.nd) ?_ ?_
  · rintro G1 gg i b c hx hb σ H hs
    have hc := List.mem_of_getElem? hx
    have tk : (c1 ++ c2).take (i + 1) = (c1 ++ c2).take i ++ [c] := by rw [List.take_add_one, hx]; rfl
    have st := best_step (c := c) hb
    rw [← tk] at st
    cases b with
    | none =>
      refine s_if hs ((wg_or (k := true) (m := false) (tg_isN (x := .non) (eg_var (i := 6) rfl rfl)) (fun h => by cases h)).tg) (fun _ H hs => s_set hs 6 (P := vOptC K (some c)) (eg_var (i := 7) rfl rfl) (fun σ H hs => wp_nil (wp_nil ⟨some c, st, hs.drop 7⟩)) sc_least_case.nd) (fun h => by cases h)
    | some d =>
      have hd := List.mem_of_mem_take (hb.some d rfl).1
      have hs : Sat G1 H0 [some (vLn K l), some (vLn K m), some (vB wh), some (vOrd K zo), some (vOrd K zt), some (vL ((c1 ++ c2).map (vCase K))), some (vCase K d), some (vCase K c)] [] σ H := hs
      refine s_if hs ((wg_or (k := false) (m := PySem.W.dataLt (rankD c) (rankD d)) (tg_isN_ref (P := vCase K d) (eg_var (i := 6) rfl rfl) fun v G ⟨b, vs, e, _⟩ => by rw [e]; exact fun z => by cases z) (fun _ => wg_or1 (tg_cmp (op_ltD hr.units) (rg_ltD dat_rank dat_rank (alike_rank c d) (fun z => by cases z) (depth_rank c)) (eg_call (g_rank_of T) hr (by omega) c (fewT c hc) (ag_cons (eg_var (i := 7) rfl rfl) ag_nil)) (eg_call (g_rank_of T) hr (by omega) d (fewT d hd) (ag_cons (eg_var (i := 6) rfl rfl) ag_nil)) rfl))).tg) (fun hc2 H hs => ?_) (fun hc2 H hs => ?_)
      · have hc3 : PySem.W.dataLt (rankD c) (rankD d) = true := hc2
        rw [show bestC c (some d) = some c from if_pos hc3] at st
        exact s_set hs 6 (P := vOptC K (some c)) (eg_var (i := 7) rfl rfl) (fun σ H hs => wp_nil (wp_nil ⟨some c, st, hs.drop 7⟩)) sc_least_case.nd
      · have hc3 : PySem.W.dataLt (rankD c) (rankD d) = false := hc2
        rw [show bestC c (some d) = some d from if_neg (by rw [hc3]; exact Bool.false_ne_true)] at st
        exact wp_nil (wp_nil ⟨some d, st, hs.drop 7⟩)
  · rintro b hb σ H hs
    rw [List.take_length] at hb
    exact s_ret hs (eg_var (i := 6) rfl rfl) fun v G' H' st q => kk0 v G' H' st ⟨b, best_told o ho ht h1 h2 hb, q⟩
theorem fn_later (T : Txt K mg) : ∃ fd, FunD K "later_case" "later_case" (defArgs s_later_case) (defBody s_later_case) (defScope s_later_case) [] [("whole", .bl false)] (ga K "later_case") fd ∧ FnOk P w K mg base CX0 12 (ga K "later_case") fd p_later_case (Px LcOk (fun y => [vLn K y.l, vLn K y.m, vB y.wh]) (fun y => vEx (Told2 y) (vOptC K))) := by
  obtain ⟨fd, F⟩ := T.d_later_case
  refine ⟨fd, F, fn_pu F sc_later_case (fun _ _ => rfl) ?_⟩
  rintro cdv Ar outer s0 H0 EE ⟨l, m, wh⟩ G Q σ hr o hs kk0
  have hs : Sat G H0 [some (vLn K l), some (vLn K m), some (vB wh)] [] σ H0 := hs
  refine s_expr hs (eg_call (g_check_pair T) hr (by omega) (l, m) trivial (ag_cons (eg_var (i := 0) rfl rfl) (ag_cons (eg_var (i := 1) rfl rfl) ag_nil))) fun H hs => ?_
  refine s_expr hs (eg_call (g_check_whole T) hr (by omega) wh trivial (ag_cons (eg_var (i := 2) rfl rfl) ag_nil)) fun H hs => ?_
  refine s_checkfree T hr (by omega) hs (eg_var (i := 0) rfl rfl) (eg_var (i := 1) rfl rfl) ⟨o.l.ok, o.al⟩ ⟨o.m.ok, o.am⟩ fun H hs => ?_
  exact s_ret hs (eg_call (g_least_case T) hr (by omega) ⟨l, m, wh⟩ o (ag_cons (eg_var (i := 0) rfl rfl) (ag_cons (eg_var (i := 1) rfl rfl) (ag_cons (eg_var (i := 2) rfl rfl) ag_nil)))) kk0
theorem k_later2 (T : Txt K mg) : FGk P w K mg base 12 "later_case" 2 ["whole"] (fun vs zs => vs ++ zs) LcOk (fun y => [vLn K y.l, vLn K y.m, vB y.wh]) (fun y => vEx (Told2 y) (vOptC K)) := by
  obtain ⟨fd, F, ok⟩ := fn_later (P := P) (w := w) (base := base) T
  obtain ⟨mv, hb⟩ := F.kbinds0 (ps := p_later_case) 2 ["whole"] [] (fun us _ ws => us ++ ws) (by simp) (by simp) (fun r1 _ r2 => r1.append r2) fun D doc pm an cdv ct us mv ws h1 h2 h3 => match us, h1, mv, h2, ws, h3 with | [_, _], _, [], _, [_], _ => rfl
  exact ⟨_, fd, _, _, ok, T.g_later_case, F.kp, hb⟩
theorem k_later0 (T : Txt K mg) : FGk P w K mg base 12 "later_case" 0 ["whole", "other", "one"] (fun _ zs => zs.reverse) LcOk (fun y => [vLn K y.l, vLn K y.m, vB y.wh]) (fun y => vEx (Told2 y) (vOptC K)) := by
  obtain ⟨fd, F, ok⟩ := fn_later (P := P) (w := w) (base := base) T
  have rev : ∀ {zs : List V} {ws : List Value}, Vals zs ws → Vals zs.reverse ws.reverse := fun {zs ws} h => by
    induction h with
    | nil => exact .nil
    | cons r t ih => rw [List.reverse_cons, List.reverse_cons]; exact ih.append (.cons r .nil)
  obtain ⟨mv, hb⟩ := F.kbinds0 (ps := p_later_case) 0 ["whole", "other", "one"] [] (fun _ _ ws => ws.reverse) (by simp) (by simp) (fun _ _ r2 => rev r2) fun D doc pm an cdv ct us mv ws h1 h2 h3 => match us, h1, mv, h2, ws, h3 with | [], _, [], _, [_, _, _], _ => rfl
  exact ⟨_, fd, _, _, ok, T.g_later_case, F.kp, hb⟩
end
end Ow
namespace Ow
open PySem PySem.Spec PyProof.Rows L2 He
/-! ### when a work begins -/
abbrev BE : Type := Nat × Nat
def vBE (K : PySem.W.Frag) (q : BE) : VP := vT K [vIn q.1, vIn q.2]
def kt (s : Str) (k : Nat) : List Key := [.inr s, .inl (k : Int)]
theorem kt_inj {s t : Str} {k j : Nat} (h : kt s k = kt t j) : s = t ∧ k = j := by
  unfold kt at h
  injection h with h1 h2
  injection h2 with h2 _
  exact ⟨Sum.inr.inj h1, by have := Sum.inl.inj h2; omega⟩
abbrev Dm : Type := List (List Key × BE)
/-- what is known so far -/
structure KnOk (B E : Str → Nat → Nat) (dom : Str → Nat → Bool) (d : Dm) : Prop where
  get : ∀ s k, dG d (kt s k) = if dom s k then some (B s k, E s k) else none
  keys : ∀ q ∈ d, ∃ s k, q.1 = kt s k ∧ dom s k = true
theorem link_ent {l : Ln} {s : Stn} {kk : Lnk} (h : kk ∈ l.lks) (hd : kk.dst = s.name) : kk.ent ∈ l.ents s := by
  unfold Ln.ents viaL
  exact List.mem_append_right _ (List.mem_map_of_mem (List.mem_filter.mpr ⟨h, decide_eq_true hd⟩))
theorem own_ent {l : Ln} {s : Stn} {h : Nat} (e : s.hands = some h) : (⟨h, s.name, false⟩ : Ent) ∈ l.ents s := by
  unfold Ln.ents Stn.own
  rw [e]
  exact List.mem_append_left _ (List.mem_singleton.mpr rfl)
structure OnY where
  p : Pl
  tk : Str → Nat → Nat
  B : Str → Nat → Nat
  E : Str → Nat → Nat
  dom : Str → Nat → Bool
  d : Dm
  s : Stn
  k : Nat
structure OnOk (y : OnY) : Prop where
  ok : LnOk y.p.l
  pl : Plays y.p.l y.tk y.B y.E
  kn : KnOk y.B y.E y.dom y.d
  s : y.s ∈ y.p.l.sts
  k : 1 ≤ y.k
  k2 : y.k < 2 ^ 60
  own : ∀ h, y.s.hands = some h → h < y.k → y.dom y.s.name (y.k - h) = true
/-- whether all that must be known is known -/
def OnY.all (y : OnY) : Bool := y.p.l.lks.all fun kk => !(decide (kk.dst = y.s.name) && decide (kk.stock < y.k)) || y.dom kk.src (y.k - kk.stock)
def OnY.via (y : OnY) (kk : Lnk) : Nat := endsOf y.B y.E kk.early kk.src (y.k - kk.stock)
/-- what was found is enough -/
theorem on_all {y : OnY} (o : OnOk y) {f : Nat} (h1 : f ≤ y.B y.s.name y.k) (h2 : ∀ kk ∈ y.p.l.lks, kk.dst = y.s.name → kk.stock < y.k → y.via kk ≤ f) (h3 : ∀ h, y.s.hands = some h → h < y.k → y.E y.s.name (y.k - h) ≤ f) : f = y.B y.s.name y.k := by
  refine Nat.le_antisymm h1 ?_
  rcases o.pl.att y.s o.s y.k with z | ⟨e, he, hl, z⟩
  · rw [z]; exact Nat.zero_le _
  · rw [z]
    rcases ent_at o.s he with ⟨h, hh, rfl⟩ | ⟨kk, hk, hd, rfl⟩
    · exact h3 h hh hl
    · exact h2 kk hk hd hl
def vOptBE (K : PySem.W.Frag) : Option BE → VP
  | some q => vBE K q
  | none => vN
theorem max_nat {f v : Nat} : (if (v : Int) > (f : Int) then (v : Int) else (f : Int)) = ((max f v : Nat) : Int) := by
  by_cases h : (v : Int) > (f : Int)
  · rw [if_pos h]; congr 1; omega
  · rw [if_neg h]; congr 1; omega
section
variable {P : Program} {w : World} {K : PySem.W.Frag} {mg : Str → Option Value} {base : Heap}
theorem g_law_onset (T : Txt K mg) : FG P w K mg base 1 "_law_onset" OnOk (fun y => [vPlan K y.p, vDT (vBE K) y.d, vS y.s.name, vIn y.k]) (fun y => vOpt (if y.all then some (y.B y.s.name y.k) else none)) := by
  refine (fo T.d_law_onset sc_law_onset (fun _ _ => rfl) (fun _ _ _ _ _ _ us hl => match us, hl with | [_, _, _, _], _ => rfl) ?_).fg T.g_law_onset
  rintro cdv Ar outer s0 H0 EE y G Q σ hr o hs kk0
  obtain ⟨p, tk, B, E, dom, d, s, k⟩ := y
  have hk1 : 1 ≤ k := o.k
  have hk2 : k < 2 ^ 60 := o.k2
  let Γ0 : Cn := [some (vPlan K p), some (vDT (vBE K) d), some (vS s.name), some (vIn k), none, none, none, none, none, none, none, none, none]
  have hs : Sat G H0 Γ0 [] σ H0 := hs
  refine s_set hs 4 (P := vIn 0) eg_int (fun σ H hs => ?_) sc_law_onset.nd
  refine s_for (γ := Nat) hs (ig_list (xs := p.l.lks) (F := vTie K) (gIxL rfl (eg_var (P := vPlan K p) (i := 0) rfl rfl) eg_int)) (fun _ f => [some (vPlan K p), some (vDT (vBE K) d), some (vS s.name), some (vIn k), some (vIn f), none, none, none, none, none, none, none, none]) (fun _ _ => [])
    (fun i f => f ≤ B s.name k ∧ ∀ kk ∈ p.l.lks.take i, kk.dst = s.name → kk.stock < k → dom kk.src (k - kk.stock) = true ∧ endsOf B E kk.early kk.src (k - kk.stock) ≤ f)
    (fun _ f t => [some (vPlan K p), some (vDT (vBE K) d), some (vS s.name), some (vIn k), some (vIn f), some (vS t.src), some (vS t.dst), some (vIn t.stock), some (vB t.early), none, none, none, none]) [5, 6, 7, 8]
    (fun G1 σ H h => ⟨0, ⟨Nat.zero_le _, fun kk h => (by simp at h)⟩, h⟩) (fun i f t _ _ => gt_tup (gts_cons (gt_name 5 sc_law_onset.nd) (gts_cons (gt_name 6 sc_law_onset.nd) (gts_cons (gt_name 7 sc_law_onset.nd) (gts_cons (gt_name 8 sc_law_onset.nd) gts_nil))))) ?_ ?_
  · rintro G1 gg i f t hx ⟨h1, h2⟩ σ H hs
    have ht := List.mem_of_getElem? hx
    have tkk : p.l.lks.take (i + 1) = p.l.lks.take i ++ [t] := by rw [List.take_add_one, hx]; rfl
    refine s_if hs ((wg_and (tEqS (eg_var (i := 6) rfl rfl) (eg_var (i := 2) rfl rfl)) (fun _ => wg_and1 (tGt (i := (k : Int)) (j := (t.stock : Int)) (eg_var (i := 3) rfl rfl) (eg_var (i := 7) rfl rfl)))).tg) (fun hc H hs => ?_) (fun hc H hs => ?_)
    · obtain ⟨c1, c2⟩ := Bool.and_eq_true_iff.mp hc
      have c1 := of_decide_eq_true c1
      have c2 := of_decide_eq_true c2
      have c3 : t.stock < k := by omega
      have hkey : ((k : Int) - (t.stock : Int)) = ((k - t.stock : Nat) : Int) := by omega
      refine s_set hs 9 (P := vOptBE K (dG d (kt t.src (k - t.stock)))) (eg_dget1 hr (DAsk.t (F := vBE K) (d := d) (q := kt t.src (k - t.stock))) (eg_var (i := 1) rfl rfl) (EG.to (P := vX [vS t.src, vI ((k : Int) - (t.stock : Int))]) (eg_tupX (ag_cons (eg_var (i := 5) rfl rfl) (ag_cons (gSub (eg_var (i := 3) rfl rfl) (eg_var (i := 7) rfl rfl)) ag_nil))) fun v G q => vX_KT (k := kt t.src (k - t.stock)) (by rw [hkey] at q; exact q)) (fun x e v G q => by rw [e]; exact q) (fun e G => by rw [e]; rfl)) (fun σ H hs => ?_) sc_law_onset.nd
      have hget := o.kn.get t.src (k - t.stock)
      replace hget : dG d (kt t.src (k - t.stock)) = if dom t.src (k - t.stock) then some (B t.src (k - t.stock), E t.src (k - t.stock)) else none := hget
      cases hd : dom t.src (k - t.stock) with
      | false =>
        rw [hd, if_neg Bool.false_ne_true] at hget
        rw [hget] at hs
        refine s_if hs (tg_isN (x := .non) (eg_var (i := 9) rfl rfl)) (fun _ H hs => s_ret hs eg_non fun v G' H' st q => kk0 v G' H' (gg.step st) ?_) (fun h => by cases h)
        have hall : OnY.all ⟨p, tk, B, E, dom, d, s, k⟩ = false := by
          unfold OnY.all
          rw [List.all_eq_false]
          exact ⟨t, ht, by show ¬ (!(decide (t.dst = s.name) && decide (t.stock < k)) || dom t.src (k - t.stock)) = true; rw [decide_eq_true c1, decide_eq_true c3, hd]; decide⟩
        show (vOpt (if OnY.all ⟨p, tk, B, E, dom, d, s, k⟩ = true then _ else _)).p v G'
        rw [hall]
        exact q
      | true =>
        rw [hd, if_pos rfl] at hget
        rw [hget] at hs
        have hs : Sat G1 H0 [some (vPlan K p), some (vDT (vBE K) d), some (vS s.name), some (vIn k), some (vIn f), some (vS t.src), some (vS t.dst), some (vIn t.stock), some (vB t.early), some (vBE K (B t.src (k - t.stock), E t.src (k - t.stock))), none, none, none] [] σ H := hs
        refine s_skip hs (tg_isN_ref (P := vBE K (B t.src (k - t.stock), E t.src (k - t.stock))) (eg_var (i := 9) rfl rfl) fun v G ⟨b, vs, e, _⟩ => by rw [e]; exact fun z => by cases z) rfl fun H hs => ?_
        have e1 : ∀ {v : Nat}, vI (if (v : Int) > (f : Int) then (v : Int) else (f : Int)) = vIn (max f v) := by intro v; rw [max_nat]
        refine s_set hs 4 (EG.cast (P := vI (if ((endsOf B E t.early t.src (k - t.stock) : Nat) : Int) > (f : Int) then ((endsOf B E t.early t.src (k - t.stock) : Nat) : Int) else (f : Int))) (eg_max2 T.f_max (eg_var (i := 4) rfl rfl) (eg_ifExp (P := vIn (endsOf B E t.early t.src (k - t.stock))) (tg_val (eg_var (i := 8) rfl rfl)) (fun h => EG.cast (P := vIn (B t.src (k - t.stock))) (gIxT rfl (eg_var (P := vBE K (B t.src (k - t.stock), E t.src (k - t.stock))) (i := 9) rfl rfl) eg_int) (by rw [show t.early = true from h]; rfl)) (fun h => EG.cast (P := vIn (E t.src (k - t.stock))) (gIxT rfl (eg_var (P := vBE K (B t.src (k - t.stock), E t.src (k - t.stock))) (i := 9) rfl rfl) eg_int) (by rw [show t.early = false from h]; rfl)))) e1) (fun σ H hs => wp_nil (wp_nil ⟨max f (endsOf B E t.early t.src (k - t.stock)), ⟨?_, fun q hq q1 q2 => ?_⟩, ?_⟩)) sc_law_onset.nd
        · have := o.pl.up s o.s k t.ent (link_ent ht c1) c3
          replace this : endsOf B E t.early t.src (k - t.stock) ≤ B s.name k := this
          omega
        · rw [tkk, List.mem_append, List.mem_singleton] at hq
          rcases hq with hq | rfl
          · obtain ⟨a, b⟩ := h2 q hq q1 q2
            exact ⟨a, by omega⟩
          · exact ⟨hd, by omega⟩
        · exact ((((hs.drop 5).drop 6).drop 7).drop 8).drop 9
    · refine wp_nil (wp_nil ⟨f, ⟨h1, fun q hq q1 q2 => ?_⟩, (((hs.drop 5).drop 6).drop 7).drop 8⟩)
      rw [tkk, List.mem_append, List.mem_singleton] at hq
      rcases hq with hq | rfl
      · exact h2 q hq q1 q2
      · rw [decide_eq_true q1, decide_eq_true (show ((q.stock : Nat) : Int) < (k : Int) by omega)] at hc
        cases hc
  · rintro f ⟨h1, h2⟩ σ H hs
    rw [List.take_length] at h2
    have hall : OnY.all ⟨p, tk, B, E, dom, d, s, k⟩ = true := by
      unfold OnY.all
      rw [List.all_eq_true]
      intro q hq
      show (!(decide (q.dst = s.name) && decide (q.stock < k)) || dom q.src (k - q.stock)) = true
      by_cases q1 : q.dst = s.name
      · by_cases q2 : q.stock < k
        · rw [(h2 q hq q1 q2).1, Bool.or_true]
        · rw [decide_eq_false q2, Bool.and_false]; rfl
      · rw [decide_eq_false q1]; rfl
    refine s_for (γ := Nat) hs (ig_list (xs := p.l.sts) (F := vPost K) (gIxL rfl (eg_var (P := vPlan K p) (i := 0) rfl rfl) eg_int)) (fun _ f => [some (vPlan K p), some (vDT (vBE K) d), some (vS s.name), some (vIn k), some (vIn f), none, none, none, none, none, none, none, none]) (fun _ _ => [])
      (fun i f => f ≤ B s.name k ∧ (∀ kk ∈ p.l.lks, kk.dst = s.name → kk.stock < k → endsOf B E kk.early kk.src (k - kk.stock) ≤ f) ∧ ∀ q ∈ p.l.sts.take i, q.name = s.name → ∀ h, q.hands = some h → h < k → E s.name (k - h) ≤ f)
      (fun _ f q => [some (vPlan K p), some (vDT (vBE K) d), some (vS s.name), some (vIn k), some (vIn f), none, none, none, none, none, some (vS q.name), some (vOpt q.hands), some (vB q.timed)]) [10, 11, 12]
      (fun G1 σ H h => ⟨f, ⟨h1, fun kk a b c => (h2 kk a b c).2, fun q h => (by simp at h)⟩, h⟩) (fun i f t _ _ => gt_tup (gts_cons (gt_name 10 sc_law_onset.nd) (gts_cons (gt_name 11 sc_law_onset.nd) (gts_cons (gt_name 12 sc_law_onset.nd) gts_nil)))) ?_ ?_
    · rintro G1 gg i f q hx ⟨h1, h2, h3⟩ σ H hs
      have hq := List.mem_of_getElem? hx
      have tkq : p.l.sts.take (i + 1) = p.l.sts.take i ++ [q] := by rw [List.take_add_one, hx]; rfl
      have skip : (q.name = s.name → ∀ h, q.hands = some h → ¬ h < k) → ∀ r ∈ p.l.sts.take (i + 1), r.name = s.name → ∀ h, r.hands = some h → h < k → E s.name (k - h) ≤ f := fun no r hr e1 h e2 e3 => by
        rw [tkq, List.mem_append, List.mem_singleton] at hr
        rcases hr with hr | rfl
        · exact h3 r hr e1 h e2 e3
        · exact absurd e3 (no e1 h e2)
      cases hh : q.hands with
      | none =>
        rw [hh] at hs
        refine s_skip hs ((wg_and (k := decide (q.name = s.name)) (m := false) (tEqS (eg_var (i := 10) rfl rfl) (eg_var (i := 2) rfl rfl)) (fun _ => wg_and (k := false) (m := false) (tg_notN (x := .non) (eg_var (i := 11) rfl rfl)) (fun h => by cases h))).tg) (Bool.and_false _) fun H hs => wp_nil ⟨f, ⟨h1, h2, skip fun _ h e => by rw [hh] at e; cases e⟩, ((hs.drop 10).drop 11).drop 12⟩
      | some h =>
        rw [hh] at hs
        have hs : Sat G1 H0 [some (vPlan K p), some (vDT (vBE K) d), some (vS s.name), some (vIn k), some (vIn f), none, none, none, none, none, some (vS q.name), some (vIn h), some (vB q.timed)] [] σ H := hs
        refine s_if hs ((wg_and (tEqS (eg_var (i := 10) rfl rfl) (eg_var (i := 2) rfl rfl)) (fun _ => wg_and (k := true) (tg_notN (x := .int (h : Nat)) (eg_var (i := 11) rfl rfl)) (fun _ => wg_and1 (tGt (i := (k : Int)) (j := (h : Int)) (eg_var (i := 3) rfl rfl) (eg_var (i := 11) rfl rfl))))).tg) (fun hc H hs => ?_) (fun hc H hs => ?_)
        · obtain ⟨c1, c2⟩ := Bool.and_eq_true_iff.mp hc
          have c1 := of_decide_eq_true c1
          have c2 := of_decide_eq_true (Bool.and_eq_true_iff.mp c2).2
          have c3 : h < k := by omega
          have eq := sts_one o.ok hq o.s c1
          subst eq
          have hget := o.kn.get q.name (k - h)
          have hdm := o.own h hh c3
          replace hdm : dom q.name (k - h) = true := hdm
          replace hget : dG d (kt q.name (k - h)) = if dom q.name (k - h) then some (B q.name (k - h), E q.name (k - h)) else none := hget
          rw [hdm, if_pos rfl] at hget
          have hkey : ((k : Int) - (h : Int)) = ((k - h : Nat) : Int) := by omega
          have ask : DAsk (vDT (vBE K) d) (vKT (kt q.name (k - h))) (vBE K) (some (B q.name (k - h), E q.name (k - h))) := by rw [← hget]; exact .t
          have e1 : ∀ {v : Nat}, vI (if (v : Int) > (f : Int) then (v : Int) else (f : Int)) = vIn (max f v) := by intro v; rw [max_nat]
          refine s_set hs 4 (EG.cast (P := vI (if ((E q.name (k - h) : Nat) : Int) > (f : Int) then ((E q.name (k - h) : Nat) : Int) else (f : Int))) (eg_max2 T.f_max (eg_var (i := 4) rfl rfl) (gIxT (Ps := [vIn (B q.name (k - h)), vIn (E q.name (k - h))]) rfl (eg_dget (F := vBE K) (x := (B q.name (k - h), E q.name (k - h))) hr ask (eg_var (i := 1) rfl rfl) (EG.to (P := vX [vS q.name, vI ((k : Int) - (h : Int))]) (eg_tupX (ag_cons (eg_var (i := 2) rfl rfl) (ag_cons (gSub (eg_var (i := 3) rfl rfl) (eg_var (i := 11) rfl rfl)) ag_nil))) fun v G z => vX_KT (k := kt q.name (k - h)) (by rw [hkey] at z; exact z))) eg_int)) e1) (fun σ H hs => wp_nil (wp_nil ⟨max f (E q.name (k - h)), ⟨?_, fun kk a b c => Nat.le_trans (h2 kk a b c) (Nat.le_max_left _ _), fun r hr r1 h' r2 r3 => ?_⟩, ((hs.drop 10).drop 11).drop 12⟩)) sc_law_onset.nd
          · have := o.pl.up q o.s k _ (own_ent hh) c3
            replace this : E q.name (k - h) ≤ B q.name k := this
            omega
          · rw [tkq, List.mem_append, List.mem_singleton] at hr
            rcases hr with hr | rfl
            · have := h3 r hr r1 h' r2 r3; omega
            · rw [hh] at r2
              cases r2
              exact Nat.le_max_right _ _
        · refine wp_nil (wp_nil ⟨f, ⟨h1, h2, skip fun e1 h' e2 e3 => ?_⟩, ((hs.drop 10).drop 11).drop 12⟩)
          rw [hh] at e2
          cases e2
          rw [decide_eq_true e1, decide_eq_true (show ((h : Nat) : Int) < (k : Int) by omega)] at hc
          exact absurd hc (by decide)
    · rintro f ⟨h1, h2, h3⟩ σ H hs
      rw [List.take_length] at h3
      have hf := on_all o (f := f) h1 h2 fun h e1 e2 => h3 s o.s rfl h e1 e2
      refine s_ret hs (eg_var (i := 4) rfl rfl) fun v G' H' st q => kk0 v G' H' st ?_
      show (vOpt (if OnY.all ⟨p, tk, B, E, dom, d, s, k⟩ = true then _ else _)).p v G'
      rw [hall, if_pos rfl]
      rw [hf] at q
      exact q
end
end Ow
namespace Ow
open PySem PySem.Spec PyProof.Rows L2 He
/-! ### a work worked out -/
structure TkOk (tk : Str → Nat → Nat) (td : List (List Key × Nat)) : Prop where
  get : ∀ s k, (dG td (kt s k)).getD 0 = tk s k
structure SeY where
  o : OnY
  td : List (List Key × Nat)
structure SeOk (y : SeY) : Prop where
  o : OnOk y.o
  td : TkOk y.o.tk y.td
  len : y.o.d.length < sizeLine
def OnY.d2 (y : OnY) : Dm := if y.all then dP y.d (kt y.s.name y.k) (y.B y.s.name y.k, y.E y.s.name y.k) else y.d
theorem filter_one {sts : List Stn} (nd : (sts.map Stn.name).Nodup) {s : Stn} (hs : s ∈ sts) : sts.filter (fun q => decide (q.name = s.name)) = [s] := by
  induction sts with
  | nil => cases hs
  | cons q sts ih =>
    rw [List.map_cons, List.nodup_cons] at nd
    rcases List.mem_cons.mp hs with rfl | hs
    · rw [List.filter_cons_of_pos (by simp)]
      congr 1
      rw [List.filter_eq_nil_iff]
      intro r hr h
      exact nd.1 (by rw [← of_decide_eq_true h]; exact List.mem_map_of_mem hr)
    · rw [List.filter_cons_of_neg, ih nd.2 hs]
      intro h
      exact nd.1 (by rw [of_decide_eq_true h]; exact List.mem_map_of_mem hs)
theorem surv_opt {o : Option Nat} : Surv (vOpt o) := by cases o <;> exact surv_is
section
variable {P : Program} {w : World} {K : PySem.W.Frag} {mg : Str → Option Value} {base : Heap}
theorem g_law_settled (T : Txt K mg) : FGm P w K mg base 2 "_law_settled" SeOk (fun y a => [vPlan K y.o.p, vDT vIn y.td, vR a, vS y.o.s.name, vIn y.o.k]) (fun y => oDT (vBE K) y.o.d) (fun y => oDT (vBE K) y.o.d2) (fun y => vB y.o.all) := by
  refine fgm T.d_law_settled T.g_law_settled sc_law_settled (fun _ _ _ => rfl) (fun _ _ _ _ _ _ us hl => match us, hl with | [_, _, _, _, _], _ => rfl) ?_
  rintro cdv Ar outer s0 H0 H1 EE ⟨y, td⟩ a G Q σ hr ⟨o, ht, hlen⟩ hs kk0
  obtain ⟨p, tk, B, E, dom, d, s, k⟩ := y
  replace hlen : d.length < sizeLine := hlen
  have hsts := o.s
  replace hsts : s ∈ p.l.sts := hsts
  have f1 := o.ok.few
  replace f1 : p.l.sts.length ≤ 3 := f1
  have hsz := small30
  have hs : Sat G H0 [some (vPlan K p), some (vDT vIn td), some (vR a), some (vS s.name), some (vIn k), none, none, none] [(a, oDT (vBE K) d)] σ H1 := hs
  refine s_set hs 5 (eg_borrow [some (vPlan K p), some (vDT vIn td), some (vDT (vBE K) d), some (vS s.name), some (vIn k), none, none, none] (BC.ok (.same (.same (bc_DT List.mem_cons_self (.same (.same (.same (.same (.same .nil))))))))) (mut_DT mut_nil) surv_opt (eg_call (g_law_onset T) hr (by omega) ⟨p, tk, B, E, dom, d, s, k⟩ o (ag_cons (eg_var (i := 0) rfl rfl) (ag_cons (eg_var (i := 2) rfl rfl) (ag_cons (eg_var (i := 3) rfl rfl) (ag_cons (eg_var (i := 4) rfl rfl) ag_nil)))))) (fun σ H hs => ?_) sc_law_settled.nd
  cases hall : OnY.all ⟨p, tk, B, E, dom, d, s, k⟩ with
  | false =>
    rw [hall, if_neg Bool.false_ne_true] at hs
    refine s_if hs (tg_isN (x := .non) (eg_var (i := 5) rfl rfl)) (fun _ H hs => s_retS hs eg_bl fun v G' H' g o' q => ?_) (fun h => by cases h)
    have ed : OnY.d2 ⟨p, tk, B, E, dom, d, s, k⟩ = d := by unfold OnY.d2; rw [hall, if_neg Bool.false_ne_true]
    rw [← ed] at o'
    exact kk0 _ _ v G' H' g o' (by show (vB (OnY.all ⟨p, tk, B, E, dom, d, s, k⟩)).p v G'; rw [hall]; exact q)
  | true =>
    rw [hall, if_pos rfl] at hs
    have hs : Sat G H0 [some (vPlan K p), some (vDT vIn td), some (vR a), some (vS s.name), some (vIn k), some (vIn (B s.name k)), none, none] [(a, oDT (vBE K) d)] σ H := hs
    refine s_skip hs (tg_isN (x := .int (B s.name k : Nat)) (eg_var (i := 5) rfl rfl)) rfl fun H hs => ?_
    refine s_set hs 6 (P := vB s.timed) (gIxL (Ps := [vB s.timed]) (i := 0) rfl (EG.cast (P := vL ((p.l.sts.filter fun q => decide (q.name = s.name)).map fun q => vB q.timed)) (eg_lc n_law_settled (defScope s_law_settled) [("_law_post_here", 7)] (t := fun q => decide (q.name = s.name)) (R := fun q => vB q.timed) (fun q => [some (vPlan K p), some (vDT vIn td), some (vR a), some (vS s.name), some (vIn k), some (vIn (B s.name k)), none, some (vPost K q)]) [7] (ig_list (xs := p.l.sts) (F := vPost K) (gIxL rfl (eg_var (P := vPlan K p) (i := 0) rfl rfl) eg_int)) (by omega)
      (fun _ _ _ _ _ q _ => gt_name 7 sc_law_settled.nd) (fun _ _ _ _ _ q _ => pts_if (tEqS (gIxT (Ps := [vS q.name, vOpt q.hands, vB q.timed]) rfl (eg_var (P := vPost K q) (i := 7) rfl rfl) eg_int) (eg_var (i := 3) rfl rfl))) (fun _ _ _ _ _ q _ _ => gIxT (Ps := [vS q.name, vOpt q.hands, vB q.timed]) rfl (eg_var (P := vPost K q) (i := 7) rfl rfl) eg_int) sc_law_settled.nd) (by rw [filter_one o.ok.nd hsts]; rfl)) eg_int) (fun σ H hs => ?_) sc_law_settled.nd
    have hs : Sat G H0 [some (vPlan K p), some (vDT vIn td), some (vR a), some (vS s.name), some (vIn k), some (vIn (B s.name k)), some (vB s.timed), none] [(a, oDT (vBE K) d)] σ H := hs
    have htim : E s.name k = B s.name k + if s.timed then tk s.name k else 0 := o.pl.tim s hsts k
    refine s_dput (x := (B s.name k, E s.name k)) hr hs 0 rfl (DPuts.t (q := kt s.name k) hlen) (EG.cast (P := vT K [vIn (B s.name k), vI ((B s.name k : Nat) + ((if s.timed then tk s.name k else 0 : Nat) : Int))]) (eg_tup (ag_cons (eg_var (i := 5) rfl rfl) (ag_cons (gAdd (eg_var (i := 5) rfl rfl) (eg_ifExp (P := vIn (if s.timed then tk s.name k else 0)) (tg_val (eg_var (i := 6) rfl rfl)) (fun h => ?_) (fun h => EG.cast (P := vI 0) eg_int (by rw [show s.timed = false from h]; rfl)))) ag_nil))) (by unfold vBE; rw [htim]; rfl)) (eg_var (i := 2) rfl rfl) (EG.to (P := vX [vS s.name, vIn k]) (eg_tupX (ag_cons (eg_var (i := 3) rfl rfl) (ag_cons (eg_var (i := 4) rfl rfl) ag_nil))) fun v G z => vX_KT (k := kt s.name k) z) (fun H hs => ?_)
    · have hg := ht.get s.name k
      replace hg : (dG td (kt s.name k)).getD 0 = tk s.name k := hg
      rw [show s.timed = true from h, if_pos rfl, ← hg]
      exact eg_dget2 hr (DAsk.t (F := vIn) (d := td) (q := kt s.name k)) (eg_var (i := 1) rfl rfl) (EG.to (P := vX [vS s.name, vIn k]) (eg_tupX (ag_cons (eg_var (i := 3) rfl rfl) (ag_cons (eg_var (i := 4) rfl rfl) ag_nil))) fun v G z => vX_KT (k := kt s.name k) z) eg_int (fun x e v G q => by rw [e]; exact q) (fun e v G q => by rw [e]; exact q)
    · refine s_retS hs eg_bl fun v G' H' g o' q => ?_
      have ed : OnY.d2 ⟨p, tk, B, E, dom, d, s, k⟩ = dP d (kt s.name k) (B s.name k, E s.name k) := by unfold OnY.d2; rw [hall, if_pos rfl]
      have o2 : Ok H0 [some (vPlan K p), some (vDT vIn td), some (vR a), some (vS s.name), some (vIn k), some (vIn (B s.name k)), some (vB s.timed), none] [(a, oDT (vBE K) (dP d (kt s.name k) (B s.name k, E s.name k)))] _ G' H' := o'
      rw [← ed] at o2
      exact kk0 _ _ v G' H' g o2 (by show (vB (OnY.all ⟨p, tk, B, E, dom, d, s, k⟩)).p v G'; rw [hall]; exact q)
end
end Ow
namespace Ow
open PySem PySem.Spec PyProof.Rows L2 He
/-! ### a number's works, one after the other -/
section
variable {l : Ln} {B E : Str → Nat → Nat} {k : Nat}
def zsrc (l : Ln) (w : Str) (dn : List Str) : Bool := l.lks.all fun kk => !(decide (kk.dst = w) && decide (kk.stock = 0)) || decide (kk.src ∈ dn)
def domK (l : Ln) (k : Nat) (dn : List Str) (s : Str) (j : Nat) : Bool := decide (s ∈ l.names ∧ 1 ≤ j ∧ j < k) || decide (j = k ∧ s ∈ dn)
theorem domK_iff {dn : List Str} {s : Str} {j : Nat} : domK l k dn s j = true ↔ (s ∈ l.names ∧ 1 ≤ j ∧ j < k) ∨ (j = k ∧ s ∈ dn) := by
  unfold domK
  rw [Bool.or_eq_true, decide_eq_true_iff, decide_eq_true_iff]
abbrev StK : Type := List Str × Dm
def stepK (l : Ln) (B E : Str → Nat → Nat) (k : Nat) (q : StK) (w : Str) : StK := if zsrc l w q.1 then (q.1 ++ [w], dP q.2 (kt w k) (B w k, E w k)) else q
def runK (l : Ln) (B E : Str → Nat → Nat) (k : Nat) (q : StK) (ws : List Str) : StK := ws.foldl (stepK l B E k) q
theorem run_snoc {q : StK} {left : List Str} {i : Nat} {x : Str} (h : left[i]? = some x) : runK l B E k q (left.take (i + 1)) = stepK l B E k (runK l B E k q (left.take i)) x := by
  have e : left.take (i + 1) = left.take i ++ [x] := by rw [List.take_add_one, h]; rfl
  unfold runK
  rw [e, List.foldl_append]; rfl
theorem mem_dP {κ β : Type} [DecidableEq κ] {d : List (κ × β)} {k : κ} {x : β} {q : κ × β} (h : q ∈ dP d k x) : q = (k, x) ∨ q ∈ d := by
  unfold dP at h
  split at h
  · obtain ⟨r, hr, e⟩ := List.mem_map.mp h
    by_cases hk : r.1 = k
    · rw [if_pos hk] at e
      exact .inl (by rw [← e, hk])
    · rw [if_neg hk] at e
      exact .inr (by rw [← e]; exact hr)
  · rcases List.mem_append.mp h with h | h
    · exact .inr h
    · exact .inl (List.mem_singleton.mp h)
theorem kn_step {dn : List Str} {d : Dm} {w : Str} (h : KnOk B E (domK l k dn) d) : KnOk B E (domK l k (dn ++ [w])) (dP d (kt w k) (B w k, E w k)) := by
  refine ⟨fun s j => ?_, fun q hq => ?_⟩
  rotate_left
  · rcases mem_dP hq with rfl | hq
    · exact ⟨w, k, rfl, domK_iff.mpr (.inr ⟨rfl, by simp⟩)⟩
    · obtain ⟨s, j, e, hd⟩ := h.keys q hq
      refine ⟨s, j, e, domK_iff.mpr ((domK_iff.mp hd).imp id fun z => ⟨z.1, List.mem_append_left _ z.2⟩)⟩
  by_cases e : kt s j = kt w k
  · obtain ⟨rfl, rfl⟩ := kt_inj e
    rw [dG_put_same, if_pos (domK_iff.mpr (.inr ⟨rfl, by simp⟩))]
  · rw [dG_put_ne e, h.get]
    have : domK l k (dn ++ [w]) s j = domK l k dn s j := by
      rw [Bool.eq_iff_iff, domK_iff, domK_iff]
      refine or_congr Iff.rfl ?_
      constructor
      · rintro ⟨h1, h2⟩
        rcases List.mem_append.mp h2 with h2 | h2
        · exact ⟨h1, h2⟩
        · exact absurd (by rw [List.mem_singleton.mp h2, h1]) e
      · rintro ⟨h1, h2⟩
        exact ⟨h1, List.mem_append_left _ h2⟩
    rw [this]
structure WhOk (l : Ln) (B E : Str → Nat → Nat) (k : Nat) (left : List Str) (q : StK) : Prop where
  nd : left.Nodup
  un : ∀ s, s ∈ q.1 ↔ s ∈ l.names ∧ s ∉ left
  sub : ∀ s ∈ left, s ∈ l.names
  kn : KnOk B E (domK l k q.1) q.2
  len : q.2.length + left.length ≤ k * l.names.length
/-- whether a word is left behind a turn over left -/
def leftT (l : Ln) (B E : Str → Nat → Nat) (k : Nat) (left : List Str) (q : StK) (w : Str) : Bool := !zsrc l w (runK l B E k q (left.take (left.idxOf w))).1
theorem leftT_at {left : List Str} {q : StK} (nd : left.Nodup) {i : Nat} {x : Str} (h : left[i]? = some x) : leftT l B E k left q x = !zsrc l x (runK l B E k q (left.take i)).1 := by
  obtain ⟨hi, e⟩ := List.getElem?_eq_some_iff.mp h
  unfold leftT
  rw [← e, List.Nodup.idxOf_getElem nd i hi]
theorem run_ok {left : List Str} {q : StK} (w : WhOk l B E k left q) : ∀ i, i ≤ left.length → KnOk B E (domK l k (runK l B E k q (left.take i)).1) (runK l B E k q (left.take i)).2 ∧
    (∀ s, s ∈ (runK l B E k q (left.take i)).1 ↔ s ∈ q.1 ∨ (s ∈ left.take i ∧ leftT l B E k left q s = false)) ∧ (runK l B E k q (left.take i)).2.length + ((left.take i).filter (leftT l B E k left q)).length ≤ q.2.length + i := by
  intro i
  induction i with
  | zero =>
    intro _
    refine ⟨w.kn, fun s => ?_, ?_⟩
    · show s ∈ q.1 ↔ _
      simp
    · show q.2.length + _ ≤ _
      simp
  | succ i ih =>
    intro hi
    obtain ⟨h1, h2, h3⟩ := ih (by omega)
    have hx : left[i]? = some left[i] := List.getElem?_eq_getElem (by omega)
    generalize left[i] = x at hx
    have tk : left.take (i + 1) = left.take i ++ [x] := by rw [List.take_add_one, hx]; rfl
    have lt := leftT_at (l := l) (B := B) (E := E) (k := k) (q := q) w.nd hx
    rw [run_snoc hx]
    unfold stepK
    cases hz : zsrc l x (runK l B E k q (left.take i)).1 with
    | true =>
      rw [hz] at lt
      rw [if_pos rfl]
      refine ⟨kn_step h1, fun s => ?_, ?_⟩
      · show s ∈ (runK l B E k q (left.take i)).1 ++ [x] ↔ _
        rw [List.mem_append, h2, tk, List.mem_append, List.mem_singleton]
        constructor
        · rintro ((h | ⟨h, h'⟩) | rfl)
          · exact .inl h
          · exact .inr ⟨.inl h, h'⟩
          · exact .inr ⟨.inr rfl, lt⟩
        · rintro (h | ⟨h | rfl, h'⟩)
          · exact .inl (.inl h)
          · exact .inl (.inr ⟨h, h'⟩)
          · exact .inr rfl
      · show (dP _ _ _).length + _ ≤ _
        have := dP_len (d := (runK l B E k q (left.take i)).2) (k := kt x k) (x := (B x k, E x k))
        rw [tk, List.filter_append, List.length_append]
        have : ([x].filter (leftT l B E k left q)).length = 0 := by simp [lt]
        omega
    | false =>
      rw [hz] at lt
      rw [if_neg Bool.false_ne_true]
      refine ⟨h1, fun s => ?_, ?_⟩
      · rw [h2, tk, List.mem_append, List.mem_singleton]
        constructor
        · rintro (h | ⟨h, h'⟩)
          · exact .inl h
          · exact .inr ⟨.inl h, h'⟩
        · rintro (h | ⟨h | rfl, h'⟩)
          · exact .inl h
          · exact .inr ⟨h, h'⟩
          · rw [lt] at h'; cases h'
      · rw [tk, List.filter_append, List.length_append]
        have : ([x].filter (leftT l B E k left q)).length ≤ 1 := List.length_filter_le _ _
        omega
theorem min_rank (rk : Str → Nat) : ∀ {left : List Str}, left ≠ [] → ∃ w ∈ left, ∀ s ∈ left, rk w ≤ rk s
  | [], h => absurd rfl h
  | [w], _ => ⟨w, List.mem_singleton.mpr rfl, fun s hs => by rw [List.mem_singleton.mp hs]; exact Nat.le_refl _⟩
  | w :: v :: ws, _ => by
    obtain ⟨u, hu, h⟩ := min_rank rk (left := v :: ws) (by simp)
    by_cases hc : rk w ≤ rk u
    · refine ⟨w, List.mem_cons_self, fun s hs => ?_⟩
      rcases List.mem_cons.mp hs with rfl | hs
      · exact Nat.le_refl _
      · exact Nat.le_trans hc (h s hs)
    · refine ⟨u, List.mem_cons_of_mem _ hu, fun s hs => ?_⟩
      rcases List.mem_cons.mp hs with rfl | hs
      · omega
      · exact h s hs
theorem filter_lt {α : Type} {p : α → Bool} {xs : List α} {x : α} (hx : x ∈ xs) (hp : p x = false) : (xs.filter p).length < xs.length := by
  have := filter_two p xs
  have h : 0 < (xs.filter fun x => !p x).length := List.length_pos_iff.mpr fun z => by
    have : x ∈ xs.filter fun x => !p x := List.mem_filter.mpr ⟨hx, by rw [hp]; rfl⟩
    rw [z] at this; cases this
  omega
theorem turn_ok (ok : LnOk l) (ah : Ahead l) {left : List Str} {q : StK} (w : WhOk l B E k left q) : WhOk l B E k (left.filter (leftT l B E k left q)) (runK l B E k q left) ∧ (left ≠ [] → (left.filter (leftT l B E k left q)).length < left.length) := by
  obtain ⟨h1, h2, h3⟩ := run_ok w left.length (Nat.le_refl _)
  rw [List.take_length] at h1 h2 h3
  refine ⟨⟨w.nd.sublist (List.filter_sublist ..), fun s => ?_, fun s hs => w.sub s (List.mem_filter.mp hs).1, h1, by have := w.len; omega⟩, fun hne => ?_⟩
  · rw [h2, w.un, List.mem_filter]
    constructor
    · rintro (⟨a, b⟩ | ⟨a, b⟩)
      · exact ⟨a, fun z => b z.1⟩
      · exact ⟨w.sub s a, fun z => by rw [b] at z; exact absurd z.2 (by decide)⟩
    · rintro ⟨a, b⟩
      by_cases hl : s ∈ left
      · refine .inr ⟨hl, ?_⟩
        cases e : leftT l B E k left q s with
        | false => rfl
        | true => exact absurd ⟨hl, e⟩ b
      · exact .inl ⟨a, hl⟩
  · obtain ⟨rk, hr⟩ := ah
    obtain ⟨x, hx, hmin⟩ := min_rank rk hne
    obtain ⟨i, hi⟩ := List.mem_iff_getElem?.mp hx
    refine filter_lt hx ?_
    rw [leftT_at w.nd hi]
    have hz : zsrc l x (runK l B E k q (left.take i)).1 = true := by
      unfold zsrc
      rw [List.all_eq_true]
      intro kk hk
      by_cases h4 : kk.dst = x
      · by_cases h5 : kk.stock = 0
        · have h6 := hr kk hk h5
          have h7 : kk.src ∉ left := fun z => by
            have := hmin _ z
            rw [h4] at h6; omega
          have h8 : kk.src ∈ (runK l B E k q (left.take i)).1 := ((run_ok w i (Nat.le_of_lt (lt_of_some hi))).2.1 _).mpr (.inl ((w.un _).mpr ⟨(ok.lks kk hk).2.1, h7⟩))
          rw [decide_eq_true h8, Bool.or_true]
        · rw [decide_eq_false h5, Bool.and_false]; rfl
      · rw [decide_eq_false h4]; rfl
    rw [hz]; rfl
theorem all_zsrc {p : Pl} (ok : LnOk p.l) (hk : 1 ≤ k) {tk : Str → Nat → Nat} {dn : List Str} {d : Dm} {s : Stn} : OnY.all ⟨p, tk, B, E, domK p.l k dn, d, s, k⟩ = zsrc p.l s.name dn := by
  unfold OnY.all zsrc
  rw [Bool.eq_iff_iff, List.all_eq_true, List.all_eq_true]
  refine forall_congr' fun kk => forall_congr' fun hm => ?_
  show (!(decide (kk.dst = s.name) && decide (kk.stock < k)) || domK p.l k dn kk.src (k - kk.stock)) = true ↔ _
  by_cases h1 : kk.dst = s.name
  · by_cases h2 : kk.stock = 0
    · rw [decide_eq_true h1, decide_eq_true h2, decide_eq_true (show kk.stock < k by omega)]
      simp only [Bool.and_true, Bool.not_true, Bool.false_or]
      rw [domK_iff, decide_eq_true_iff, h2]
      constructor
      · rintro (h | h)
        · omega
        · exact h.2
      · exact fun h => .inr ⟨by omega, h⟩
    · rw [decide_eq_false h2, Bool.and_false]
      refine ⟨fun _ => rfl, fun _ => ?_⟩
      by_cases h3 : kk.stock < k
      · rw [domK_iff.mpr (.inl ⟨(ok.lks kk hm).2.1, by omega, by omega⟩), Bool.or_true]
      · rw [decide_eq_false h3, Bool.and_false]; rfl
  · rw [decide_eq_false h1]; exact Iff.rfl
theorem wh_start {left : List Str} {d : Dm} (nd : l.names.Nodup) (h : KnOk B E (domK l k []) d) (hl : d.length ≤ (k - 1) * l.names.length) (hk : 1 ≤ k) (e : left = l.names) : WhOk l B E k left ([], d) := by
  subst e
  refine ⟨nd, fun s => ⟨fun z => (by cases z), fun z => absurd z.1 z.2⟩, fun s h => h, h, ?_⟩
  show d.length + l.names.length ≤ k * l.names.length
  obtain ⟨j, rfl⟩ := Nat.exists_eq_add_of_le hk
  rw [Nat.add_sub_cancel_left] at hl
  rw [Nat.add_mul, Nat.one_mul]; omega
theorem wh_end {q : StK} (w : WhOk l B E k [] q) (hk : 1 ≤ k) : KnOk B E (domK l (k + 1) []) q.2 ∧ q.2.length ≤ k * l.names.length := by
  have same : ∀ s j, domK l k q.1 s j = domK l (k + 1) [] s j := fun s j => by
    rw [Bool.eq_iff_iff, domK_iff, domK_iff, w.un]
    constructor
    · rintro (⟨a, b, c⟩ | ⟨a, b, _⟩)
      · exact .inl ⟨a, b, by omega⟩
      · exact .inl ⟨b, by omega, by omega⟩
    · rintro (⟨a, b, c⟩ | ⟨_, b⟩)
      · by_cases h : j < k
        · exact .inl ⟨a, b, h⟩
        · exact .inr ⟨by omega, a, by simp⟩
      · cases b
  refine ⟨⟨fun s j => ?_, fun r hr => ?_⟩, by have := w.len; simpa using this⟩
  · rw [w.kn.get, same]
  · obtain ⟨s, j, e, hd⟩ := w.kn.keys r hr
    exact ⟨s, j, e, by rw [← same]; exact hd⟩
end
end Ow
namespace Ow
open PySem PySem.Spec PyProof.Rows L2 He
/-! ### a play -/
structure PlayY where
  p : Pl
  tk : Str → Nat → Nat
  td : List (List Key × Nat)
  B : Str → Nat → Nat
  E : Str → Nat → Nat
  most : Nat
structure PlayOk (y : PlayY) : Prop where
  ok : LnOk y.p.l
  ah : Ahead y.p.l
  pl : Plays y.p.l y.tk y.B y.E
  td : TkOk y.tk y.td
  most : y.most ≤ 4200000
def Known (y : PlayY) (d : Dm) : Prop := KnOk y.B y.E (domK y.p.l (y.most + 1) []) d ∧ d.length ≤ y.most * 3
theorem mul3 {a b n : Nat} (h : n ≤ 3) (hb : b ≤ a * n) : b ≤ a * 3 := Nat.le_trans hb (Nat.mul_le_mul_left a h)
section
variable {P : Program} {w : World} {K : PySem.W.Frag} {mg : Str → Option Value} {base : Heap}
theorem g_law_played (T : Txt K mg) : FGn P w K mg base 3 "_law_played" PlayOk (fun y => [vPlan K y.p, vDT vIn y.td, vIn y.most]) Known (oDT (vBE K)) := by
  refine fgn T.d_law_played T.g_law_played sc_law_played (fun _ _ => rfl) (fun _ _ _ _ _ _ us hl => match us, hl with | [_, _, _], _ => rfl) ?_
  rintro cdv Ar outer s0 H0 EE ⟨p, tk, td, B, E, most⟩ G Q σ hr ⟨ok, ah, pl, ht, hmost⟩ hs kk0
  replace ok : LnOk p.l := ok
  replace ah : Ahead p.l := ah
  replace pl : Plays p.l tk B E := pl
  replace ht : TkOk tk td := ht
  replace hmost : most ≤ 4200000 := hmost
  have hn3 : p.l.names.length ≤ 3 := by have := ok.few; unfold Ln.names; rw [List.length_map]; exact this
  have f1 := ok.few
  have hsz := small30
  have hbig := sizeBig
  have hs : Sat G H0 [some (vPlan K p), some (vDT vIn td), some (vIn most), none, none, none, none, none] [] σ H0 := hs
  refine s_new hs 3 (ng_dT (F := vBE K)) (fun ka σ H hs => ?_) sc_law_played.nd
  refine s_for (γ := Dm) hs (ig_range2 (m := 1) (n := (most : Int) + 1) (ag_cons eg_int (ag_cons (gAdd (eg_var (i := 2) rfl rfl) eg_int) ag_nil)) ⟨by omega, by omega, by omega, by omega⟩ T.f_range) (fun _ _ => [some (vPlan K p), some (vDT vIn td), some (vIn most), some (vR ka), none, none, none, none]) (fun _ d => [(ka, oDT (vBE K) d)])
    (fun i d => KnOk B E (domK p.l (i + 1) []) d ∧ d.length ≤ i * p.l.names.length) (fun _ _ x => [some (vPlan K p), some (vDT vIn td), some (vIn most), some (vR ka), some (vI x), none, none, none]) [4]
    (fun G1 σ H h => ⟨[], ⟨⟨fun s k => ?_, fun q h => (by cases h)⟩, Nat.zero_le _⟩, h⟩) (fun i d x _ _ => gt_name 4 sc_law_played.nd) ?_ ?_
  · rw [if_neg]
    · rfl
    · rw [domK_iff]
      rintro (⟨_, a, b⟩ | ⟨_, b⟩)
      · omega
      · cases b
  · rintro G1 gg i d x hx ⟨k1, k2⟩ σ H hs
    obtain ⟨hx1, hx2⟩ := upTo_at hx
    have hk : x = ((i + 1 : Nat) : Int) := by omega
    have hik : i + 1 ≤ most := by omega
    subst hk
    generalize hkk : i + 1 = k at hs k1 hik
    have hk1 : 1 ≤ k := by omega
    have hki : k - 1 = i := by omega
    refine s_setLc n_law_played (defScope s_law_played) [("_law_post_here", 6)] (t := fun _ => true) (R := fun q => vS q.name) (fun q => [some (vPlan K p), some (vDT vIn td), some (vIn most), some (vR ka), some (vIn k), none, some (vPost K q), none]) [6] hs 5 (ig_list (xs := p.l.sts) (F := vPost K) (gIxL rfl (eg_var (P := vPlan K p) (i := 0) rfl rfl) eg_int)) (by omega)
      (fun _ _ _ _ _ q _ => gt_name 6 sc_law_played.nd) (fun _ _ _ _ _ q _ => pts_yes) (fun _ _ _ _ _ q _ _ => gIxT (Ps := [vS q.name, vOpt q.hands, vB q.timed]) rfl (eg_var (P := vPost K q) (i := 6) rfl rfl) eg_int) (fun σ H hs => ?_) sc_law_played.nd
    have en : (p.l.sts.filter fun _ => true).map (fun q => vS q.name) = p.l.names.map vS := by
      rw [filter_true]; unfold Ln.names; rw [List.map_map]; rfl
    rw [en] at hs
    refine s_while (γ := List Str × StK) (fun y => [some (vPlan K p), some (vDT vIn td), some (vIn most), some (vR ka), some (vIn k), some (vL (y.1.map vS)), none, none]) (fun y => [(ka, oDT (vBE K) y.2.2)]) (fun y => WhOk p.l B E k y.1 y.2) (fun y => y.1.length) (fun y => !decide (y.1 = [])) ⟨(p.l.names, ([], d)), wh_start ok.nd k1 (by rw [hki]; exact k2) hk1 rfl, hs⟩ ?_ ?_ ?_
    · rintro ⟨left, q⟩ hw
      have hm : ∀ s ∈ left, (PyData.str s).canLay0 = true ∧ (PyData.str s).depth ≤ 0 := fun s hs => by
        obtain ⟨st, hst, e⟩ := List.mem_map.mp (hw.sub s hs)
        subst e
        exact ⟨menu_str _ (ok.sts st hst).name, Nat.le_refl _⟩
      refine (tg_cmp (op_neD hr.units) (rg_neD (dat_L (dat_map (fun _ => dat_S) left)) (dat_L .nil) (shaped_list (n := 0) (by omega) hm) (by decide)) (eg_var (i := 5) rfl rfl) (eg_lst ag_nil) rfl).cast ?_
      rw [eqv_nil]
      congr 1
      rw [Bool.eq_iff_iff, decide_eq_true_iff, decide_eq_true_iff]
      exact List.map_eq_nil_iff
    · rintro ⟨left, q⟩ hw hb σ H hs
      replace hw : WhOk p.l B E k left q := hw
      have hne : left ≠ [] := fun z => by subst z; cases hb
      obtain ⟨t1, t2⟩ := turn_ok ok ah hw
      have hlen := hw.len
      have hkn : k * p.l.names.length ≤ 12600000 := Nat.le_trans (Nat.mul_le_mul (Nat.le_trans hik hmost) hn3) (by decide)
      refine s_setLcS n_law_played (defScope s_law_played) [("_law_word", 7)] (Ωi := fun i => [(ka, oDT (vBE K) (runK p.l B E k q (left.take i)).2)]) (t := leftT p.l B E k left q) (R := vS) (fun s => [some (vPlan K p), some (vDT vIn td), some (vIn most), some (vR ka), some (vIn k), some (vL (left.map vS)), none, some (vS s)]) [7] hs (fun _ => rfl) 5 (ig_list (xs := left) (F := vS) (eg_var (i := 5) rfl rfl)) (by omega)
        (fun _ _ _ _ _ i s _ => gt_name 7 sc_law_played.nd) (fun _ _ _ _ _ i s hs => ?_) (fun _ _ _ _ _ i s _ _ => eg_var (i := 7) rfl rfl) (fun σ H hs => ?_) sc_law_played.nd
      · have hm := hw.sub s (List.mem_of_getElem? hs)
        obtain ⟨st, hst, e⟩ := List.mem_map.mp hm
        subst e
        obtain ⟨r1, r2, r3⟩ := run_ok hw i (Nat.le_of_lt (lt_of_some hs))
        have hi := lt_of_some hs
        have all := all_zsrc (B := B) (E := E) (k := k) (p := p) ok hk1 (tk := tk) (dn := (runK p.l B E k q (left.take i)).1) (d := (runK p.l B E k q (left.take i)).2) (s := st)
        have lt := leftT_at (l := p.l) (B := B) (E := E) (k := k) (q := q) hw.nd hs
        have e2 : OnY.d2 ⟨p, tk, B, E, domK p.l k (runK p.l B E k q (left.take i)).1, (runK p.l B E k q (left.take i)).2, st, k⟩ = (runK p.l B E k q (left.take (i + 1))).2 := by
          rw [run_snoc hs]
          unfold OnY.d2 stepK
          rw [all]
          cases zsrc p.l st.name (runK p.l B E k q (left.take i)).1 <;> rfl
        have hd : ∀ h, st.hands = some h → h < k → domK p.l k (runK p.l B E k q (left.take i)).1 st.name (k - h) = true := fun h e1 e2 => by
          have := ((ok.sts st hst).hands h e1).1
          exact domK_iff.mpr (.inl ⟨hm, by omega, by omega⟩)
        rw [lt, ← all]
        refine pts_one (tm_not (tm_val ?_))
        show MG _ _ _ _ _ [(ka, oDT (vBE K) (runK p.l B E k q (left.take (i + 1))).2)]
        rw [← e2]
        exact eg_callM (g_law_settled T) hr (by omega) ⟨⟨p, tk, B, E, domK p.l k (runK p.l B E k q (left.take i)).1, (runK p.l B E k q (left.take i)).2, st, k⟩, td⟩ ⟨⟨ok, pl, r1, hst, hk1, by show k < 2 ^ 60; omega, hd⟩, ht, by show (runK p.l B E k q (left.take i)).2.length < sizeLine; omega⟩ 0 rfl (ag_cons (eg_var (i := 0) rfl rfl) (ag_cons (eg_var (i := 1) rfl rfl) (ag_cons (eg_var (i := 3) rfl rfl) (ag_cons (eg_var (i := 7) rfl rfl) (ag_cons (eg_var (i := 4) rfl rfl) ag_nil)))))
      · refine wp_nil ⟨(left.filter (leftT p.l B E k left q), runK p.l B E k q left), t1, t2 hne, ?_⟩
        have e : left.take left.length = left := List.take_length
        show Sat G1 H0 _ [(ka, oDT (vBE K) (runK p.l B E k q left).2)] σ H
        have hs2 : Sat G1 H0 _ [(ka, oDT (vBE K) (runK p.l B E k q (left.take left.length)).2)] σ H := hs
        rw [e] at hs2
        exact hs2
    · rintro ⟨left, q⟩ hw hb σ H hs
      have hnil : left = [] := by
        by_cases h : left = []
        · exact h
        · have hb' : (!decide (left = [])) = false := hb
          rw [decide_eq_false h] at hb'; cases hb'
      subst hnil
      obtain ⟨e1, e2⟩ := wh_end hw hk1
      refine wp_nil ⟨q.2, ⟨e1, e2⟩, (hs.drop 4).drop 5⟩
  · rintro d ⟨k1, k2⟩ σ H hs
    have el : (upTo 1 ((most : Int) + 1)).length = most := by rw [ints_length]; omega
    rw [el] at k1 k2
    refine s_retS hs (eg_var (i := 3) rfl rfl) fun v G' H' g o (q : v = V.ref ka) => ?_
    subst q
    exact kk0 d _ _ ka G' H' ⟨k1, mul3 hn3 k2⟩ g o
end
end Ow
namespace Ow
open PySem PySem.Spec PyProof.Rows L2 He
/-! ### the end of a play -/
structure EndY where
  y : PlayY
  wide : Bool
  V : Nat
structure EndOk (z : EndY) : Prop where
  ok : PlayOk z.y
  m1 : 1 ≤ z.y.most
  w1 : z.wide = true → (∀ s ∈ z.y.p.l.names, ∀ k, 1 ≤ k → k ≤ z.y.most → z.y.E s k ≤ z.V) ∧ ∃ s ∈ z.y.p.l.names, ∃ k, 1 ≤ k ∧ k ≤ z.y.most ∧ z.y.E s k = z.V
  w0 : z.wide = false → z.V = z.y.E z.y.p.l.out z.y.most
theorem ends_max {z : EndY} (o : EndOk z) (hw : z.wide = true) {d : Dm} (h : Known z.y d) : ((z.V : Nat) : Int) ∈ (d.map fun q => ((((dG d q.1).getD (0, 0)).2 : Nat) : Int)) ∧ ∀ v ∈ (d.map fun q => ((((dG d q.1).getD (0, 0)).2 : Nat) : Int)), v ≤ ((z.V : Nat) : Int) := by
  obtain ⟨h1, s, hs, k, k1, k2, e⟩ := o.w1 hw
  have val : ∀ s k, domK z.y.p.l (z.y.most + 1) [] s k = true → ((((dG d (kt s k)).getD (0, 0)).2 : Nat) : Int) = (z.y.E s k : Nat) := fun s k hd => by
    rw [h.1.get, if_pos hd]; rfl
  constructor
  · have hd : domK z.y.p.l (z.y.most + 1) [] s k = true := domK_iff.mpr (.inl ⟨hs, k1, by omega⟩)
    have hg := h.1.get s k
    rw [if_pos hd] at hg
    unfold dG at hg
    obtain ⟨q, hq, _⟩ := Option.map_eq_some_iff.mp hg
    have hm := List.mem_of_find?_eq_some hq
    have hk : q.1 = kt s k := by have := List.find?_some hq; simpa using this
    refine List.mem_map.mpr ⟨q, hm, ?_⟩
    rw [hk, val s k hd, e]
  · intro v hv
    obtain ⟨q, hq, rfl⟩ := List.mem_map.mp hv
    obtain ⟨s', k', e', hd⟩ := h.1.keys q hq
    rw [e', val s' k' hd]
    rcases domK_iff.mp hd with ⟨a, b, c⟩ | ⟨_, b⟩
    · have := h1 s' a k' b (by omega)
      omega
    · cases b
section
variable {P : Program} {w : World} {K : PySem.W.Frag} {mg : Str → Option Value} {base : Heap}
theorem g_law_ended (T : Txt K mg) : FG P w K mg base 4 "_law_ended" EndOk (fun z => [vPlan K z.y.p, vDT vIn z.y.td, vIn z.y.most, vB z.wide]) (fun z => vIn z.V) := by
  refine (fo T.d_law_ended sc_law_ended (fun _ _ => rfl) (fun _ _ _ _ _ _ us hl => match us, hl with | [_, _, _, _], _ => rfl) ?_).fg T.g_law_ended
  rintro cdv Ar outer s0 H0 EE ⟨y, wide, V⟩ G Q σ hr o hs kk0
  have m1 : 1 ≤ y.most := o.m1
  have hmost : y.most ≤ 4200000 := o.ok.most
  have hbig := sizeBig
  have hs : Sat G H0 [some (vPlan K y.p), some (vDT vIn y.td), some (vIn y.most), some (vB wide), none, none] [] σ H0 := hs
  refine s_new hs 4 (ng_call (g_law_played T) hr (by omega) y o.ok (ag_cons (eg_var (i := 0) rfl rfl) (ag_cons (eg_var (i := 1) rfl rfl) (ag_cons (eg_var (i := 2) rfl rfl) ag_nil)))) (fun ka σ H hs => ?_) sc_law_ended.nd
  obtain ⟨d, hd, hs⟩ := hs.exO 0 rfl
  have hs : Sat G H0 [some (vPlan K y.p), some (vDT vIn y.td), some (vIn y.most), some (vB wide), some (vR ka), none] [(ka, oDT (vBE K) d)] σ H := hs
  have hlen := hd.2
  refine s_if hs (tg_val (eg_var (i := 3) rfl rfl)) (fun hw H hs => ?_) (fun hw H hs => wp_nil ?_)
  · have hw' : wide = true := hw
    obtain ⟨e1, e2⟩ := ends_max o hw' hd
    refine s_ret hs (eg_maxL T.f_max e1 e2 (eg_dvals n_law_ended (defScope s_law_ended) [("_law_spot", 5)] 4 5 0 rfl rfl (by omega) (pe_var rfl (by first | exact .inl rfl | exact .inr (.inl rfl) | exact .inr (.inr rfl))) (by decide) (by show 5 < 6; omega) (by decide) (fun _ _ _ _ _ => pg_name sc_law_ended.nd rfl (.inl rfl)) (fun _ _ _ _ _ => pe_ix ix_tup (pe_dget (hu_of hr) (pe_var rfl (by first | exact .inl rfl | exact .inr (.inl rfl) | exact .inr (.inr rfl))) (pe_var rfl (by first | exact .inl rfl | exact .inr (.inl rfl) | exact .inr (.inr rfl))) (fun _ _ => rfl)) pe_int (fun _ _ => rfl)) sc_law_ended.nd)) kk0
  · have hw' : wide = false := hw
    have hV : V = y.E y.p.l.out y.most := o.w0 hw'
    have hdom : domK y.p.l (y.most + 1) [] y.p.l.out y.most = true := domK_iff.mpr (.inl ⟨o.ok.ok.out, m1, by omega⟩)
    have hg := hd.1.get y.p.l.out y.most
    rw [if_pos hdom] at hg
    have ask : DAskO (oDT (vBE K) d) (vKT (kt y.p.l.out y.most)) (vBE K) (some (y.B y.p.l.out y.most, y.E y.p.l.out y.most)) := by rw [← hg]; exact .t
    refine s_ret hs (EG.cast (P := vIn (y.E y.p.l.out y.most)) (gIxT (Ps := [vIn (y.B y.p.l.out y.most), vIn (y.E y.p.l.out y.most)]) rfl (eg_dgetO (F := vBE K) (x := (y.B y.p.l.out y.most, y.E y.p.l.out y.most)) hr 0 rfl ask (eg_var (i := 4) rfl rfl) (EG.to (P := vX [vS y.p.l.out, vIn y.most]) (eg_tupX (ag_cons (gIxL rfl (eg_var (P := vPlan K y.p) (i := 0) rfl rfl) eg_int) (ag_cons (eg_var (i := 2) rfl rfl) ag_nil))) fun v G z => vX_KT (k := kt y.p.l.out y.most) z)) eg_int) (by rw [hV])) kk0
end
end Ow
namespace Ow
open PySem PySem.Spec PyProof.Rows L2 He
/-! ### tasks in their order, a case played -/
theorem ig_to {α : Type} {X : Cx} {tg iter : Expr} {Γ : Cn} {Ω : Om} {xs : List α} {F F' : α → VP} (h : IG X tg iter Γ Ω xs F) (w : ∀ x v G, (F x).p v G → (F' x).p v G) : IG X tg iter Γ Ω xs F' :=
  weakI h fun σ H R ⟨G0, H0, s, k⟩ => ⟨G0, H0, s, fun J G H' g o q => k J G H' g o ⟨q.goes, q.stops, fun i H v H' x G hx s0 s1 y => let ⟨G', st, p⟩ := q.yields i H v H' x G hx s0 s1 y; ⟨G', st, w x v G' p⟩⟩⟩
def TasksOk (T : List Tk) : Prop := (∃ t, T = [t]) ∨ ∃ t u, T = [t, u] ∧ tkLt t u
theorem tasks_sorted {T : List Tk} (h : TasksOk T) : T.mergeSort (PySem.W.dataLe false tkD) = T := by
  rcases h with ⟨t, rfl⟩ | ⟨t, u, rfl, hlt⟩
  · exact List.mergeSort_singleton t
  · refine List.mergeSort_of_pairwise (.cons (fun x hx => ?_) (.cons (fun x hx => (by cases hx)) .nil))
    rw [List.mem_singleton.mp hx, PySem.W.dataLe_eq]
    show (!PySem.W.dataLt (tkD u) (tkD t)) = true
    rw [Bool.not_eq_true', Bool.eq_false_iff]
    exact fun z => tkLt_irr (tkLt_trans hlt ((lt_tkD u t).mp z))
theorem tasks_len {T : List Tk} (h : TasksOk T) : 1 ≤ T.length ∧ T.length ≤ 2 := by
  rcases h with ⟨t, rfl⟩ | ⟨t, u, rfl, _⟩
  · exact ⟨Nat.le_refl _, by show 1 ≤ 2; omega⟩
  · exact ⟨by show 1 ≤ 2; omega, Nat.le_refl _⟩
theorem alike_tk (a b : Tk) : PySem.W.alike (tkD a) (tkD b) = true := rfl
section
variable {P : Program} {w : World} {K : PySem.W.Frag} {mg : Str → Option Value} {base : Heap}
theorem g_law_ranked (T : Txt K mg) : FG P w K mg base 1 "_law_ranked" TasksOk (fun ts => [vT K (ts.map vTk)]) (fun ts => vT K (ts.map fun t => vT K [vS t.1, vIn t.2])) := by
  refine (fo T.d_law_ranked sc_law_ranked (fun _ _ => rfl) (fun _ _ _ _ _ _ us hl => match us, hl with | [_], _ => rfl) ?_).fg T.g_law_ranked
  rintro cdv Ar outer s0 H0 EE ts G Q σ hr hts hs kk0
  obtain ⟨l1, l2⟩ := tasks_len hts
  have hsz := small30
  refine s_ret hs (eg_tuple (Ps := ts.map fun t : Tk => vT K [vS t.1, vIn t.2]) T.f_tuple (EG.cast (P := vL (((ts.mergeSort (PySem.W.dataLe false tkD)).filter fun _ => true).map fun t : Tk => vT K [vS t.1, vIn t.2])) (eg_lc n_law_ranked (defScope s_law_ranked) [("_law_k", 1), ("_law_word", 2)] (t := fun _ => true) (R := fun t : Tk => vT K [vS t.1, vIn t.2]) (fun t => [some (vT K (ts.map vTk)), some (vIn t.2), some (vS t.1)]) [1, 2] (ig_list (xs := ts.mergeSort (PySem.W.dataLe false tkD)) (F := fun t : Tk => vT K [vIn t.2, vS t.1])
    (eg_sortD (xs := ts) (F := fun t : Tk => vT K [vIn t.2, vS t.1]) (f := tkD) hr (fun t _ => dat_T (.cons dat_I (.cons dat_S .nil))) (fun t _ => by show 1 ≤ 60; omega) (fun d hd d' hd' => ?_) (.inl fun d hd => ?_) T.f_sorted
      (EG.cast (P := vL ((ts.filter fun _ => true).map fun t : Tk => vT K [vIn t.2, vS t.1])) (eg_lc n_law_ranked (defScope s_law_ranked) [("_law_word", 2), ("_law_k", 1)] (t := fun _ => true) (R := fun t : Tk => vT K [vIn t.2, vS t.1]) (fun t => [some (vT K (ts.map vTk)), some (vIn t.2), some (vS t.1)]) [2, 1] (ig_to (F := vTk) (F' := fun t : Tk => vT K [vS t.1, vIn t.2]) (ig_tup (xs := ts) (F := vTk) (eg_var (i := 0) rfl rfl)) fun t v G q => vX_T q) (by omega)
        (fun _ _ _ _ _ t _ => gt_tup (gts_cons (gt_name 2 sc_law_ranked.nd) (gts_cons (gt_name 1 sc_law_ranked.nd) gts_nil))) (fun _ _ _ _ _ t _ => pts_yes) (fun _ _ _ _ _ t _ _ => eg_tup (ag_cons (eg_var (i := 1) rfl rfl) (ag_cons (eg_var (i := 2) rfl rfl) ag_nil))) sc_law_ranked.nd) (by rw [filter_true])))) (by rw [List.length_mergeSort]; omega)
    (fun _ _ _ _ _ t _ => gt_tup (gts_cons (gt_name 1 sc_law_ranked.nd) (gts_cons (gt_name 2 sc_law_ranked.nd) gts_nil))) (fun _ _ _ _ _ t _ => pts_yes) (fun _ _ _ _ _ t _ _ => eg_tup (ag_cons (eg_var (i := 2) rfl rfl) (ag_cons (eg_var (i := 1) rfl rfl) ag_nil))) sc_law_ranked.nd) (by rw [filter_true, tasks_sorted hts]))) kk0
  · obtain ⟨t, _, rfl⟩ := List.mem_map.mp hd
    obtain ⟨u, _, rfl⟩ := List.mem_map.mp hd'
    exact alike_tk t u
  · obtain ⟨t, _, rfl⟩ := List.mem_map.mp hd
    exact ⟨_, _, rfl⟩
/-- the times of a case -/
def takenD (T : List Tk) : List (List Key × Nat) := T.foldl (fun d t => dP d (kt t.1 t.2) 1) []
theorem takenD_take {T : List Tk} {i : Nat} {t : Tk} (h : T[i]? = some t) : takenD (T.take (i + 1)) = dP (takenD (T.take i)) (kt t.1 t.2) 1 := by
  have e : T.take (i + 1) = T.take i ++ [t] := by rw [List.take_add_one, h]; rfl
  unfold takenD
  rw [e, List.foldl_append]; rfl
theorem takenD_len : ∀ (T : List Tk), (takenD T).length ≤ T.length := by
  have gen : ∀ (T : List Tk) (d : List (List Key × Nat)), (T.foldl (fun d t => dP d (kt t.1 t.2) 1) d).length ≤ d.length + T.length := by
    intro T
    induction T with
    | nil => intro d; exact Nat.le_refl _
    | cons t T ih =>
      intro d
      have h1 := ih (dP d (kt t.1 t.2) 1)
      have h2 := dP_len (d := d) (k := kt t.1 t.2) (x := 1)
      show (T.foldl _ (dP d (kt t.1 t.2) 1)).length ≤ _
      rw [List.length_cons]; omega
  intro T
  have := gen T []
  rw [List.length_nil] at this
  unfold takenD; omega
theorem taken_ok (T : List Tk) : TkOk (takenF T) (takenD T) := ⟨fun s k => by
  have gen : ∀ (T : List Tk) (d : List (List Key × Nat)), (dG (T.foldl (fun d t => dP d (kt t.1 t.2) 1) d) (kt s k)).getD 0 = if (s, k) ∈ T then 1 else (dG d (kt s k)).getD 0 := by
    intro T
    induction T with
    | nil => intro d; simp
    | cons t T ih =>
      intro d
      show (dG (T.foldl _ (dP d (kt t.1 t.2) 1)) (kt s k)).getD 0 = _
      rw [ih]
      by_cases h : (s, k) ∈ T
      · rw [if_pos h, if_pos (List.mem_cons_of_mem _ h)]
      · rw [if_neg h]
        by_cases h2 : (s, k) = t
        · subst h2
          rw [if_pos List.mem_cons_self, dG_put_same]; rfl
        · rw [if_neg (fun z => (List.mem_cons.mp z).elim h2 h), dG_put_ne]
          intro e
          obtain ⟨e1, e2⟩ := kt_inj e
          exact h2 (Prod.ext e1 e2)
  exact gen T []⟩
structure LatY where
  p : Pl
  m : Pl
  n : Nat
  T : List Tk
  wide : Bool
structure LatOk (y : LatY) : Prop where
  okp : LnOk y.p.l
  ahp : Ahead y.p.l
  okm : LnOk y.m.l
  ahm : Ahead y.m.l
  n1 : 1 ≤ y.n
  n2 : y.n ≤ 4200000
  t2 : y.T.length ≤ 2
  t1 : ∀ t ∈ y.T, 1 ≤ t.2
noncomputable def plT (p : Pl) (T : List Tk) (n : Nat) : PlayY := ⟨p, takenF T, takenD T, valT p.l T true, valT p.l T false, n⟩
theorem endOk_of {p : Pl} {T : List Tk} {n : Nat} {wide : Bool} (ok : LnOk p.l) (ah : Ahead p.l) (n1 : 1 ≤ n) (n2 : n ≤ 4200000) (t2 : T.length ≤ 2) (t1 : ∀ t ∈ T, 1 ≤ t.2) : EndOk ⟨plT p T n, wide, endV p.l T wide n⟩ := by
  refine ⟨⟨ok, ah, plays_val ok ah t2 t1, taken_ok T, n2⟩, n1, fun hw => ?_, fun hw => ?_⟩
  · have hw' : wide = true := hw
    subst hw'
    obtain ⟨h1, h2⟩ := end_all (l := p.l) t1 (n := n)
    refine ⟨fun s _ k _ hk => h1 s k hk, ?_⟩
    rcases h2 with h2 | ⟨s, hs, k, k1, k2, e⟩
    · refine ⟨p.l.out, ok.out, 1, Nat.le_refl _, n1, ?_⟩
      have := h1 p.l.out 1 n1
      show valT p.l T false p.l.out 1 = endV p.l T true n
      omega
    · exact ⟨s, hs, k, k1, k2, e⟩
  · have hw' : wide = false := hw
    subst hw'
    rfl
theorem g_law_later (T : Txt K mg) : FG P w K mg base 5 "_law_later" LatOk (fun y => [vPlan K y.p, vPlan K y.m, vIn y.n, vL (y.T.map vTk), vB y.wide]) (fun y => vB (decide (endV y.m.l y.T y.wide y.n < endV y.p.l y.T y.wide y.n))) := by
  refine (fo T.d_law_later sc_law_later (fun _ _ => rfl) (fun _ _ _ _ _ _ us hl => match us, hl with | [_, _, _, _, _], _ => rfl) ?_).fg T.g_law_later
  rintro cdv Ar outer s0 H0 EE ⟨p, m, n, ts, wide⟩ G Q σ hr ⟨okp, ahp, okm, ahm, n1, n2, t2, t1⟩ hs kk0
  replace t2 : ts.length ≤ 2 := t2
  have hsz := small30
  have hs : Sat G H0 [some (vPlan K p), some (vPlan K m), some (vIn n), some (vL (ts.map vTk)), some (vB wide), none, none] [] σ H0 := hs
  refine s_new hs 5 (ng_dT (F := vIn)) (fun ta σ H hs => ?_) sc_law_later.nd
  refine s_for (γ := List (List Key × Nat)) hs (ig_list (xs := ts) (F := vTk) (eg_var (i := 3) rfl rfl)) (fun _ _ => [some (vPlan K p), some (vPlan K m), some (vIn n), some (vL (ts.map vTk)), some (vB wide), some (vR ta), none]) (fun _ d => [(ta, oDT vIn d)])
    (fun i d => d = takenD (ts.take i)) (fun _ _ t => [some (vPlan K p), some (vPlan K m), some (vIn n), some (vL (ts.map vTk)), some (vB wide), some (vR ta), some (vTk t)]) [6]
    (fun G1 σ H h => ⟨[], rfl, h⟩) (fun i d x _ _ => gt_name 6 sc_law_later.nd) ?_ ?_
  · rintro G1 gg i d t hx rfl σ H hs
    have hl := takenD_len (ts.take i)
    rw [List.length_take] at hl
    refine s_dput (x := 1) hr hs 0 rfl (DPuts.t (F := vIn) (q := kt t.1 t.2) (by omega)) (EG.cast (P := vI 1) eg_int rfl) (eg_var (i := 5) rfl rfl) (EG.to (P := vTk t) (eg_var (i := 6) rfl rfl) fun v G z => vX_KT (k := kt t.1 t.2) z) (fun H hs => wp_nil ⟨_, (takenD_take hx).symm, hs.drop 6⟩)
  · rintro d rfl σ H hs
    rw [List.take_length] at hs
    obtain ⟨G1, u, gg, hu, ⟨us, e1, pd⟩, h0, hs⟩ := Sat.pubG 0 hs rfl
    subst e1
    have hs := hs.toB 5 rfl (P' := vDT vIn (takenD ts)) fun v G2 sm (q : v = V.ref ta) => ⟨ta, us, q, sm _ _ hu, PD.mono sm pd⟩
    have hs : Sat G1 H0 [some (vPlan K p), some (vPlan K m), some (vIn n), some (vL (ts.map vTk)), some (vB wide), some (vDT vIn (takenD ts)), none] [] σ H := hs
    refine s_ret hs (EG.cast (P := vB (decide (((endV m.l ts wide n : Nat) : Int) < ((endV p.l ts wide n : Nat) : Int)))) (eGt (eg_call (g_law_ended T) hr (by omega) ⟨plT p ts n, wide, endV p.l ts wide n⟩ (endOk_of okp ahp n1 n2 t2 t1) (ag_cons (eg_var (i := 0) rfl rfl) (ag_cons (eg_var (i := 5) rfl rfl) (ag_cons (eg_var (i := 2) rfl rfl) (ag_cons (eg_var (i := 4) rfl rfl) ag_nil))))) (eg_call (g_law_ended T) hr (by omega) ⟨plT m ts n, wide, endV m.l ts wide n⟩ (endOk_of okm ahm n1 n2 t2 t1) (ag_cons (eg_var (i := 1) rfl rfl) (ag_cons (eg_var (i := 5) rfl rfl) (ag_cons (eg_var (i := 2) rfl rfl) (ag_cons (eg_var (i := 4) rfl rfl) ag_nil)))))) ?_) fun v G' H' st q => kk0 v G' H' (gg.step st) q
    congr 1
    rw [Bool.eq_iff_iff, decide_eq_true_iff, decide_eq_true_iff]
    show ((endV m.l ts wide n : Nat) : Int) < ((endV p.l ts wide n : Nat) : Int) ↔ endV m.l ts wide n < endV p.l ts wide n
    omega
end
end Ow
namespace Ow
open PySem PySem.Spec PyProof.Rows L2 He
/-! ### the law's own search -/
def tasksAt (ws : List Str) (n : Nat) : List Tk := (List.range n).flatMap fun k => ws.map fun w => (w, k + 1)
theorem tasksAt_succ (ws : List Str) (n : Nat) : tasksAt ws (n + 1) = tasksAt ws n ++ ws.map fun w => (w, n + 1) := by
  unfold tasksAt
  rw [List.range_succ, List.flatMap_append]
  simp
theorem mem_tasksAt {ws : List Str} {n : Nat} {t : Tk} : t ∈ tasksAt ws n ↔ t.1 ∈ ws ∧ 1 ≤ t.2 ∧ t.2 ≤ n := by
  unfold tasksAt
  rw [List.mem_flatMap]
  constructor
  · rintro ⟨k, hk, h⟩
    obtain ⟨w, hw, rfl⟩ := List.mem_map.mp h
    have := List.mem_range.mp hk
    exact ⟨hw, Nat.le_add_left 1 k, by show k + 1 ≤ n; omega⟩
  · rintro ⟨h1, h2, h3⟩
    refine ⟨t.2 - 1, List.mem_range.mpr (by omega), List.mem_map.mpr ⟨t.1, h1, Prod.ext rfl (by show t.2 - 1 + 1 = t.2; omega)⟩⟩
theorem tasksAt_len (ws : List Str) : ∀ n, (tasksAt ws n).length = n * ws.length
  | 0 => by simp [tasksAt]
  | n + 1 => by rw [tasksAt_succ, List.length_append, tasksAt_len ws n, List.length_map, Nat.succ_mul]
theorem strict_pw : ∀ {ws : List Str}, ws.Pairwise sle → ws.Nodup → ws.Pairwise sLt
  | [], _, _ => .nil
  | w :: ws, .cons h t, nd => by
    rw [List.nodup_cons] at nd
    refine .cons (fun s hs => ?_) (strict_pw t nd.2)
    rcases sLt_tri w s with z | z | z
    · exact z
    · subst z; exact absurd hs nd.1
    · exact absurd (h s hs) (List.not_le.mpr z)
theorem tasksAt_pw {ws : List Str} (h : ws.Pairwise sLt) : ∀ n, (tasksAt ws n).Pairwise tkLt
  | 0 => by simp [tasksAt]
  | n + 1 => by
    rw [tasksAt_succ, List.pairwise_append]
    refine ⟨tasksAt_pw h n, ?_, fun a ha b hb => ?_⟩
    · rw [List.pairwise_map]
      exact h.imp fun z => .inr ⟨rfl, z⟩
    · obtain ⟨w, _, rfl⟩ := List.mem_map.mp hb
      have := (mem_tasksAt.mp ha).2.2
      exact .inl (by show a.2 < n + 1; omega)
theorem pw_before {xs : List Tk} (h : xs.Pairwise tkLt) {j : Nat} {t u : Tk} (ht : xs[j]? = some t) (hu : u ∈ xs) (hlt : tkLt u t) : u ∈ xs.take j := by
  obtain ⟨i, hi⟩ := List.mem_iff_getElem?.mp hu
  obtain ⟨li, ei⟩ := List.getElem?_eq_some_iff.mp hi
  obtain ⟨lj, ej⟩ := List.getElem?_eq_some_iff.mp ht
  have hp := List.pairwise_iff_getElem.mp h
  rcases Nat.lt_trichotomy i j with z | z | z
  · exact List.mem_of_getElem? (i := i) (by rw [List.getElem?_take_of_lt z]; exact hi)
  · subst z
    rw [ht] at hi
    cases hi
    exact absurd hlt tkLt_irr
  · have := hp j i lj li z
    rw [ej, ei] at this
    exact absurd (tkLt_trans hlt this) tkLt_irr
theorem pw_after {xs : List Tk} (h : xs.Pairwise tkLt) {j : Nat} {t u : Tk} (ht : xs[j]? = some t) (hu : u ∈ xs) (hlt : tkLt t u) : u ∈ xs.drop (j + 1) := by
  obtain ⟨i, hi⟩ := List.mem_iff_getElem?.mp hu
  obtain ⟨li, ei⟩ := List.getElem?_eq_some_iff.mp hi
  obtain ⟨lj, ej⟩ := List.getElem?_eq_some_iff.mp ht
  have hp := List.pairwise_iff_getElem.mp h
  rcases Nat.lt_trichotomy i j with z | z | z
  · have := hp i j li lj z
    rw [ej, ei] at this
    exact absurd (tkLt_trans hlt this) tkLt_irr
  · subst z
    rw [ht] at hi
    cases hi
    exact absurd hlt tkLt_irr
  · refine List.mem_of_getElem? (i := i - (j + 1)) ?_
    rw [List.getElem?_drop]
    have : j + 1 + (i - (j + 1)) = i := by omega
    rw [this]; exact hi
section
variable {l m : Ln} {wide : Bool} {ws : List Str} {n : Nat}
/-- nothing below a number -/
def NoBelow (l m : Ln) (wide : Bool) (n : Nat) : Prop := ∀ c, Valid l c → c.num ≤ n → ¬ LaterC l m wide c
theorem valid_mem (hw : ∀ s, s ∈ ws ↔ s ∈ l.clocked) {c : Case} (v : Valid l c) (hn : c.num = n) : ∀ t ∈ c.tasks, t ∈ tasksAt ws n := fun t ht => by
  obtain ⟨h1, h2, h3⟩ := v.t t ht
  exact mem_tasksAt.mpr ⟨(hw _).mpr h1, h2, by omega⟩
theorem valid_one (hw : ∀ s, s ∈ ws ↔ s ∈ l.clocked) (h1 : 1 ≤ n) {t : Tk} (ht : t ∈ tasksAt ws n) : Valid l ⟨n, [t]⟩ := by
  obtain ⟨a, b, c⟩ := mem_tasksAt.mp ht
  exact ⟨h1, fun x hx => by rw [List.mem_singleton.mp hx]; exact ⟨(hw _).mp a, b, c⟩, .inl ⟨t, rfl⟩⟩
theorem valid_two (hw : ∀ s, s ∈ ws ↔ s ∈ l.clocked) (h1 : 1 ≤ n) {t u : Tk} (ht : t ∈ tasksAt ws n) (hu : u ∈ tasksAt ws n) (hlt : tkLt t u) : Valid l ⟨n, [t, u]⟩ := by
  refine ⟨h1, fun x hx => ?_, .inr ⟨t, u, rfl, hlt⟩⟩
  have hx' : x = t ∨ x = u := by simpa using hx
  rcases hx' with rfl | rfl
  · obtain ⟨a, b, c⟩ := mem_tasksAt.mp ht
    exact ⟨(hw _).mp a, b, c⟩
  · obtain ⟨a, b, c⟩ := mem_tasksAt.mp hu
    exact ⟨(hw _).mp a, b, c⟩
theorem case_eta (c : Case) : c = ⟨c.num, c.tasks⟩ := by cases c; rfl
theorem first_one (hw : ∀ s, s ∈ ws ↔ s ∈ l.clocked) (pw : ws.Pairwise sLt) (h1 : 1 ≤ n) (no : NoBelow l m wide (n - 1)) {N j : Nat} {t : Tk} (hN : n ≤ N) (ht : (tasksAt ws n)[j]? = some t) (hno : ∀ u ∈ (tasksAt ws n).take j, ¬ LaterC l m wide ⟨n, [u]⟩) (hl : LaterC l m wide ⟨n, [t]⟩) : FirstC l m wide N (some ⟨n, [t]⟩) := by
  refine ⟨fun z => (by cases z), fun c z => ?_⟩
  have z' : (⟨n, [t]⟩ : Case) = c := Option.some.inj z
  subst z'
  refine ⟨valid_one hw h1 (List.mem_of_getElem? ht), hN, hl, fun d v _ hd hlt => ?_⟩
  rcases hlt with hlt | ⟨e, hlt | ⟨e2, hlt⟩⟩
  · have hlt' : d.num < n := hlt
    exact no d v (by omega) hd
  · have : d.tasks.length < 1 := hlt
    rcases v.sh with ⟨a, e3⟩ | ⟨a, b, e3, _⟩ <;> rw [e3] at this <;> simp at this
  · have e' : d.num = n := e
    rcases v.sh with ⟨a, e3⟩ | ⟨a, b, e3, _⟩
    · rw [e3] at hlt
      have h5 : tkLt a t := hlt.elim id fun z => z.2.elim
      have hm := valid_mem hw v e' a (by rw [e3]; exact List.mem_singleton.mpr rfl)
      refine hno a (pw_before (tasksAt_pw pw n) ht hm h5) ?_
      rw [case_eta d, e', e3] at hd
      exact hd
    · rw [e3] at e2; simp at e2
theorem first_two (hw : ∀ s, s ∈ ws ↔ s ∈ l.clocked) (pw : ws.Pairwise sLt) (h1 : 1 ≤ n) (no : NoBelow l m wide (n - 1)) {N i j : Nat} {t u : Tk} (hN : n ≤ N) (ht : (tasksAt ws n)[i]? = some t) (hu : ((tasksAt ws n).drop (i + 1))[j]? = some u)
    (h1no : ∀ x ∈ tasksAt ws n, ¬ LaterC l m wide ⟨n, [x]⟩) (hno : ∀ x ∈ (tasksAt ws n).take i, ∀ y ∈ tasksAt ws n, tkLt x y → ¬ LaterC l m wide ⟨n, [x, y]⟩) (hno2 : ∀ y ∈ ((tasksAt ws n).drop (i + 1)).take j, ¬ LaterC l m wide ⟨n, [t, y]⟩) (hl : LaterC l m wide ⟨n, [t, u]⟩) : FirstC l m wide N (some ⟨n, [t, u]⟩) := by
  have ppw := tasksAt_pw pw n
  have mu : u ∈ tasksAt ws n := List.mem_of_mem_drop (List.mem_of_getElem? hu)
  have hu' : (tasksAt ws n)[i + 1 + j]? = some u := by rw [← List.getElem?_drop]; exact hu
  have htu : tkLt t u := by
    obtain ⟨li, ei⟩ := List.getElem?_eq_some_iff.mp ht
    obtain ⟨lj, ej⟩ := List.getElem?_eq_some_iff.mp hu'
    have := List.pairwise_iff_getElem.mp ppw i (i + 1 + j) li lj (by omega)
    rwa [ei, ej] at this
  refine ⟨fun z => (by cases z), fun c z => ?_⟩
  have z' : (⟨n, [t, u]⟩ : Case) = c := Option.some.inj z
  subst z'
  refine ⟨valid_two hw h1 (List.mem_of_getElem? ht) mu htu, hN, hl, fun d v _ hd hlt => ?_⟩
  have hd2 := hd
  rw [case_eta d] at hd2
  rcases hlt with hlt | ⟨e, hlt⟩
  · have hlt' : d.num < n := hlt
    exact no d v (by omega) hd
  · have e' : d.num = n := e
    rw [e'] at hd2
    rcases v.sh with ⟨a, e3⟩ | ⟨a, b, e3, hab⟩
    · rw [e3] at hd2
      exact h1no a (valid_mem hw v e' a (by rw [e3]; exact List.mem_singleton.mpr rfl)) hd2
    · have ma := valid_mem hw v e' a (by rw [e3]; simp)
      have mb := valid_mem hw v e' b (by rw [e3]; simp)
      rw [e3] at hd2 hlt
      rcases hlt with hlt | ⟨_, hlt⟩
      · simp at hlt
      · rcases hlt with hlt | ⟨rfl, hlt⟩
        · exact hno a (pw_before ppw ht ma hlt) b mb hab hd2
        · have h5 : tkLt b u := hlt.elim id fun z => z.2.elim
          have h6 := pw_after ppw ht mb hab
          have h7 := pw_before (ppw.sublist (List.drop_sublist (i + 1) (tasksAt ws n))) hu h6 h5
          exact hno2 b h7 hd2
theorem none_at (hw : ∀ s, s ∈ ws ↔ s ∈ l.clocked) (no : NoBelow l m wide (n - 1)) (h1no : ∀ x ∈ tasksAt ws n, ¬ LaterC l m wide ⟨n, [x]⟩) (hno : ∀ x ∈ tasksAt ws n, ∀ y ∈ tasksAt ws n, tkLt x y → ¬ LaterC l m wide ⟨n, [x, y]⟩) : NoBelow l m wide n := fun d v hle hd => by
  by_cases e : d.num = n
  · have hd2 := hd
    rw [case_eta d, e] at hd2
    rcases v.sh with ⟨a, e3⟩ | ⟨a, b, e3, hab⟩
    · rw [e3] at hd2
      exact h1no a (valid_mem hw v e a (by rw [e3]; exact List.mem_singleton.mpr rfl)) hd2
    · rw [e3] at hd2
      exact hno a (valid_mem hw v e a (by rw [e3]; simp)) b (valid_mem hw v e b (by rw [e3]; simp)) hab hd2
  · exact no d v (by omega) hd
end
end Ow
namespace Ow
open PySem PySem.Spec PyProof.Rows L2 He
structure FirY where
  p : Pl
  m : Pl
  wide : Bool
structure FirOk (y : FirY) : Prop where
  okp : LnOk y.p.l
  ahp : Ahead y.p.l
  okm : LnOk y.m.l
  ahm : Ahead y.m.l
def numsTo (l : Ln) : Nat := if l.clocked.length < 3 then 4 else 3
theorem single_ok {y : FirY} (o : FirOk y) {n : Nat} {ts : List Tk} (h1 : 1 ≤ n) (h2 : n ≤ 4) (hl : ts.length ≤ 2) (ht : ∀ t ∈ ts, 1 ≤ t.2) : LatOk ⟨y.p, y.m, n, ts, y.wide⟩ := ⟨o.okp, o.ahp, o.okm, o.ahm, h1, by show n ≤ 4200000; omega, hl, ht⟩
section
variable {P : Program} {w : World} {K : PySem.W.Frag} {mg : Str → Option Value} {base : Heap}
theorem g_law_first (T : Txt K mg) : FG P w K mg base 6 "_law_first" FirOk (fun y => [vPlan K y.p, vPlan K y.m, vB y.wide]) (fun y => vEx (FirstC y.p.l y.m.l y.wide (numsTo y.p.l)) (vOptC K)) := by
  refine (fo T.d_law_first sc_law_first (fun _ _ => rfl) (fun _ _ _ _ _ _ us hl => match us, hl with | [_, _, _], _ => rfl) ?_).fg T.g_law_first
  rintro cdv Ar outer s0 H0 EE ⟨p, m, wide⟩ G Q σ hr o hs kk0
  have okp : LnOk p.l := o.okp
  have f1 := okp.few
  have hsz := small30
  have clen : p.l.clocked.length ≤ 3 := by
    unfold Ln.clocked
    rw [List.length_map]
    have := List.length_filter_le Stn.timed p.l.sts
    omega
  have cnd : p.l.clocked.Nodup := by
    have nd := okp.nd
    unfold Ln.names at nd
    exact nd.sublist ((List.filter_sublist ..).map _)
  have hs : Sat G H0 [some (vPlan K p), some (vPlan K m), some (vB wide), none, none, none, none, none, none, none, none, none] [] σ H0 := hs
  refine s_set hs 3 (eg_sortS (xs := p.l.clocked) (by omega) T.f_sorted (EG.cast (P := vL ((p.l.sts.filter Stn.timed).map fun q => vS q.name)) (eg_lc n_law_first (defScope s_law_first) [("_law_post_here", 10)] (t := Stn.timed) (R := fun q => vS q.name) (fun q => [some (vPlan K p), some (vPlan K m), some (vB wide), none, none, none, none, none, none, none, some (vPost K q), none]) [10] (ig_list (xs := p.l.sts) (F := vPost K) (gIxL rfl (eg_var (P := vPlan K p) (i := 0) rfl rfl) eg_int)) (by omega)
    (fun _ _ _ _ _ q _ => gt_name 10 sc_law_first.nd) (fun _ _ _ _ _ q _ => pts_if (tg_val (gIxT (Ps := [vS q.name, vOpt q.hands, vB q.timed]) rfl (eg_var (P := vPost K q) (i := 10) rfl rfl) eg_int))) (fun _ _ _ _ _ q _ _ => gIxT (Ps := [vS q.name, vOpt q.hands, vB q.timed]) rfl (eg_var (P := vPost K q) (i := 10) rfl rfl) eg_int) sc_law_first.nd) (by unfold Ln.clocked; rw [List.map_map]; rfl))) (fun σ H hs => ?_) sc_law_first.nd
  obtain ⟨ws, hws, hs⟩ := hs.ex 3 rfl
  have wm : ∀ s, s ∈ ws ↔ s ∈ p.l.clocked := fun s => hws.1.mem_iff
  have wl : ws.length = p.l.clocked.length := hws.1.length_eq
  have wnd : ws.Nodup := hws.1.nodup_iff.mpr cnd
  have pw : ws.Pairwise sLt := strict_pw (sorted_pw hws.2) wnd
  have hs : Sat G H0 [some (vPlan K p), some (vPlan K m), some (vB wide), some (vL (ws.map vS)), none, none, none, none, none, none, none, none] [] σ H := hs
  have hN : numsTo p.l ≤ 4 := by unfold numsTo; split <;> omega
  refine s_for (γ := Unit) hs (ig_range2 (m := 1) (n := ((numsTo p.l : Nat) : Int) + 1) (ag_cons eg_int (ag_cons (eg_ifExp (tLt (eg_lenL T.f_len (eg_var (i := 3) rfl rfl)) eg_int) (fun h => EG.cast (P := vI 5) eg_int ?_) (fun h => EG.cast (P := vI 4) eg_int ?_)) ag_nil)) ⟨by omega, by omega, by omega, by omega⟩ T.f_range) (fun _ _ => [some (vPlan K p), some (vPlan K m), some (vB wide), some (vL (ws.map vS)), none, none, none, none, none, none, none, none]) (fun _ _ => [])
    (fun i _ => NoBelow p.l m.l wide i) (fun _ _ x => [some (vPlan K p), some (vPlan K m), some (vB wide), some (vL (ws.map vS)), some (vI x), none, none, none, none, none, none, none]) [4]
    (fun G1 σ H h => ⟨(), fun c v hc => absurd v.pos (by omega), h⟩) (fun i _ x _ _ => gt_name 4 sc_law_first.nd) ?_ ?_
  · have h' := of_decide_eq_true h
    rw [List.length_map] at h'
    have : numsTo p.l = 4 := if_pos (by omega)
    rw [this]; rfl
  · have h' := of_decide_eq_false h
    rw [List.length_map] at h'
    have : numsTo p.l = 3 := if_neg (by omega)
    rw [this]; rfl
  · rintro G1 gg i _ x hx no σ H hs
    obtain ⟨hx1, hx2⟩ := upTo_at hx
    have hk : x = ((i + 1 : Nat) : Int) := by omega
    have hiN : i + 1 ≤ numsTo p.l := by omega
    subst hk
    generalize hn : i + 1 = n at hs hiN
    have n1 : 1 ≤ n := by omega
    have n4 : n ≤ 4 := by omega
    have no' : NoBelow p.l m.l wide (n - 1) := by
      have : n - 1 = i := by omega
      rw [this]; exact no
    refine s_set hs 5 (P := vL ((tasksAt ws 0).map vTk)) (eg_lst ag_nil) (fun σ H hs => ?_) sc_law_first.nd
    have hs : Sat G1 H0 [some (vPlan K p), some (vPlan K m), some (vB wide), some (vL (ws.map vS)), some (vIn n), some (vL ((tasksAt ws 0).map vTk)), none, none, none, none, none, none] [] σ H := hs
    -- all tasks up to this number
    refine s_for (γ := Unit) hs (ig_range2 (m := 1) (n := (n : Int) + 1) (ag_cons eg_int (ag_cons (gAdd (eg_var (i := 4) rfl rfl) eg_int) ag_nil)) ⟨by omega, by omega, by omega, by omega⟩ T.f_range) (fun k _ => [some (vPlan K p), some (vPlan K m), some (vB wide), some (vL (ws.map vS)), some (vIn n), some (vL ((tasksAt ws k).map vTk)), none, none, none, none, none, none]) (fun _ _ => [])
      (fun _ _ => True) (fun k _ x => [some (vPlan K p), some (vPlan K m), some (vB wide), some (vL (ws.map vS)), some (vIn n), some (vL ((tasksAt ws k).map vTk)), some (vI x), none, none, none, none, none]) [6]
      (fun G1 σ H h => ⟨(), trivial, h⟩) (fun k _ x _ _ => gt_name 6 sc_law_first.nd) ?_ ?_
    · rintro G2 gg2 k _ x hx _ σ H hs
      obtain ⟨hx1, hx2⟩ := upTo_at hx
      have hk : x = ((k + 1 : Nat) : Int) := by omega
      subst hk
      have tl := tasksAt_len ws k
      have hk3 : k * ws.length ≤ 3 * 3 := Nat.mul_le_mul (by omega) (by omega)
      refine s_set hs 5 (EG.cast (P := vL ((tasksAt ws k).map vTk ++ (ws.filter fun _ => true).map fun w => vTk (w, k + 1))) (eg_op op_cat (rg_cat (by rw [filter_true, List.length_map, List.length_map]; omega)) (eg_var (i := 5) rfl rfl) (eg_lc n_law_first (defScope s_law_first) [("_law_word", 11)] (t := fun _ => true) (R := fun w => vTk (w, k + 1)) (fun w => [some (vPlan K p), some (vPlan K m), some (vB wide), some (vL (ws.map vS)), some (vIn n), some (vL ((tasksAt ws k).map vTk)), some (vIn (k + 1)), none, none, none, none, some (vS w)]) [11] (ig_list (xs := ws) (F := vS) (eg_var (i := 3) rfl rfl)) (by omega)
        (fun _ _ _ _ _ w _ => gt_name 11 sc_law_first.nd) (fun _ _ _ _ _ w _ => pts_yes) (fun _ _ _ _ _ w _ _ => eg_tupX (ag_cons (eg_var (i := 11) rfl rfl) (ag_cons (eg_var (i := 6) rfl rfl) ag_nil))) sc_law_first.nd)) ?_) (fun σ H hs => wp_nil ⟨(), trivial, hs.drop 6⟩) sc_law_first.nd
      rw [filter_true, tasksAt_succ, List.map_append, List.map_map]; rfl
    rintro _ _ σ H hs
    have en : (upTo 1 ((n : Int) + 1)).length = n := by rw [ints_length]; omega
    rw [en] at hs
    have tl := tasksAt_len ws n
    have hk3 : n * ws.length ≤ 4 * 3 := Nat.mul_le_mul n4 (by omega)
    generalize hxs : tasksAt ws n = xs at hs tl
    -- one task
    refine s_for (γ := Unit) hs (ig_list (xs := xs) (F := vTk) (eg_var (i := 5) rfl rfl)) (fun _ _ => [some (vPlan K p), some (vPlan K m), some (vB wide), some (vL (ws.map vS)), some (vIn n), some (vL (xs.map vTk)), none, none, none, none, none, none]) (fun _ _ => [])
      (fun j _ => ∀ u ∈ xs.take j, ¬ LaterC p.l m.l wide ⟨n, [u]⟩) (fun _ _ t => [some (vPlan K p), some (vPlan K m), some (vB wide), some (vL (ws.map vS)), some (vIn n), some (vL (xs.map vTk)), none, some (vTk t), none, none, none, none]) [7]
      (fun G1 σ H h => ⟨(), fun u hu => (by simp at hu), h⟩) (fun k _ x _ _ => gt_name 7 sc_law_first.nd) ?_ ?_
    · rintro G2 gg2 j _ t ht hno σ H hs
      have mt : t ∈ tasksAt ws n := by rw [hxs]; exact List.mem_of_getElem? ht
      have tkt : xs.take (j + 1) = xs.take j ++ [t] := by rw [List.take_add_one, ht]; rfl
      refine s_if hs (tg_val (eg_call (g_law_later T) hr (by omega) ⟨p, m, n, [t], wide⟩ (single_ok o n1 n4 (by show 1 ≤ 2; omega) fun x hx => by rw [List.mem_singleton.mp hx]; exact (mem_tasksAt.mp mt).2.1) (ag_cons (eg_var (i := 0) rfl rfl) (ag_cons (eg_var (i := 1) rfl rfl) (ag_cons (eg_var (i := 4) rfl rfl) (ag_cons (eg_lst (ag_cons (eg_var (i := 7) rfl rfl) ag_nil)) (ag_cons (eg_var (i := 2) rfl rfl) ag_nil))))))) (fun hl H hs => ?_) (fun hl H hs => ?_)
      · have hl0 : decide (endV m.l [t] wide n < endV p.l [t] wide n) = true := hl
        have hl' : LaterC p.l m.l wide ⟨n, [t]⟩ := (of_decide_eq_true hl0 :)
        refine s_ret hs (eg_tup (ag_cons (eg_var (i := 4) rfl rfl) (ag_cons (eg_tup (ag_cons (eg_var (i := 7) rfl rfl) ag_nil)) ag_nil))) fun v G' H' st q => kk0 v G' H' (gg.step (gg2.step st)) ⟨some ⟨n, [t]⟩, ?_, q⟩
        exact first_one wm pw n1 no' hiN (by rw [hxs]; exact ht) (by rw [hxs]; exact hno) hl'
      · have hl0 : decide (endV m.l [t] wide n < endV p.l [t] wide n) = false := hl
        have hl' : ¬ LaterC p.l m.l wide ⟨n, [t]⟩ := (of_decide_eq_false hl0 :)
        refine wp_nil (wp_nil ⟨(), fun u hu => ?_, hs.drop 7⟩)
        rw [tkt, List.mem_append, List.mem_singleton] at hu
        rcases hu with hu | rfl
        · exact hno u hu
        · exact hl'
    rintro _ h1no σ H hs
    rw [List.take_length] at h1no
    -- two tasks
    have pxs : xs.Pairwise tkLt := by rw [← hxs]; exact tasksAt_pw pw n
    refine s_for (γ := Unit) hs (ig_range1 (n := ((xs.length : Nat) : Int)) (ag_cons ((eg_lenL T.f_len (eg_var (i := 5) rfl rfl)).cast (by rw [List.length_map])) ag_nil) ⟨by omega, by omega⟩ T.f_range) (fun _ _ => [some (vPlan K p), some (vPlan K m), some (vB wide), some (vL (ws.map vS)), some (vIn n), some (vL (xs.map vTk)), none, none, none, none, none, none]) (fun _ _ => [])
      (fun j _ => ∀ x ∈ xs.take j, ∀ y ∈ xs, tkLt x y → ¬ LaterC p.l m.l wide ⟨n, [x, y]⟩) (fun _ _ z => [some (vPlan K p), some (vPlan K m), some (vB wide), some (vL (ws.map vS)), some (vIn n), some (vL (xs.map vTk)), none, none, some (vI z), none, none, none]) [8]
      (fun G1 σ H h => ⟨(), fun u hu => (by simp at hu), h⟩) (fun k _ x _ _ => gt_name 8 sc_law_first.nd) ?_ ?_
    · rintro G2 gg2 j _ z hz hno σ H hs
      obtain ⟨hz1, hz2⟩ := upTo_at hz
      have hk : z = ((j : Nat) : Int) := by omega
      subst hk
      have hj : j < xs.length := by omega
      have ht : xs[j]? = some xs[j] := List.getElem?_eq_getElem hj
      generalize xs[j] = t at ht
      have tkt : xs.take (j + 1) = xs.take j ++ [t] := by rw [List.take_add_one, ht]; rfl
      refine s_for (γ := Unit) hs (ig_range2 (m := (j : Int) + 1) (n := ((xs.length : Nat) : Int)) (ag_cons (gAdd (eg_var (i := 8) rfl rfl) eg_int) (ag_cons ((eg_lenL T.f_len (eg_var (i := 5) rfl rfl)).cast (by rw [List.length_map])) ag_nil)) ⟨by omega, by omega, by omega, by omega⟩ T.f_range) (fun _ _ => [some (vPlan K p), some (vPlan K m), some (vB wide), some (vL (ws.map vS)), some (vIn n), some (vL (xs.map vTk)), none, none, some (vIn j), none, none, none]) (fun _ _ => [])
        (fun b _ => ∀ y ∈ (xs.drop (j + 1)).take b, ¬ LaterC p.l m.l wide ⟨n, [t, y]⟩) (fun _ _ z => [some (vPlan K p), some (vPlan K m), some (vB wide), some (vL (ws.map vS)), some (vIn n), some (vL (xs.map vTk)), none, none, some (vIn j), some (vI z), none, none]) [9]
        (fun G1 σ H h => ⟨(), fun u hu => (by simp at hu), h⟩) (fun k _ x _ _ => gt_name 9 sc_law_first.nd) ?_ ?_
      · rintro G3 gg3 b _ z hz hno2 σ H hs
        obtain ⟨hz1, hz2⟩ := upTo_at hz
        have hk : z = ((j + 1 + b : Nat) : Int) := by omega
        subst hk
        have hb : j + 1 + b < xs.length := by omega
        have hu : xs[j + 1 + b]? = some xs[j + 1 + b] := List.getElem?_eq_getElem hb
        generalize xs[j + 1 + b] = u at hu
        have hud : (xs.drop (j + 1))[b]? = some u := by rw [List.getElem?_drop]; exact hu
        have tku : (xs.drop (j + 1)).take (b + 1) = (xs.drop (j + 1)).take b ++ [u] := by rw [List.take_add_one, hud]; rfl
        have mt : t ∈ tasksAt ws n := by rw [hxs]; exact List.mem_of_getElem? ht
        have mu : u ∈ tasksAt ws n := by rw [hxs]; exact List.mem_of_getElem? hu
        refine s_if hs (tg_val (eg_call (g_law_later T) hr (by omega) ⟨p, m, n, [t, u], wide⟩ (single_ok o n1 n4 (by show 2 ≤ 2; omega) fun x hx => ?_) (ag_cons (eg_var (i := 0) rfl rfl) (ag_cons (eg_var (i := 1) rfl rfl) (ag_cons (eg_var (i := 4) rfl rfl) (ag_cons (eg_lst (ag_cons (gIxL (atI_get ht) (eg_var (i := 5) rfl rfl) (eg_var (i := 8) rfl rfl)) (ag_cons (gIxL (atI_get hu) (eg_var (i := 5) rfl rfl) (eg_var (i := 9) rfl rfl)) ag_nil))) (ag_cons (eg_var (i := 2) rfl rfl) ag_nil))))))) (fun hl H hs => ?_) (fun hl H hs => ?_)
        · have hx' : x = t ∨ x = u := by simpa using hx
          rcases hx' with rfl | rfl
          · exact (mem_tasksAt.mp mt).2.1
          · exact (mem_tasksAt.mp mu).2.1
        · have hl0 : decide (endV m.l [t, u] wide n < endV p.l [t, u] wide n) = true := hl
          have hl' : LaterC p.l m.l wide ⟨n, [t, u]⟩ := (of_decide_eq_true hl0 :)
          refine s_ret hs (eg_tup (ag_cons (eg_var (i := 4) rfl rfl) (ag_cons (eg_tup (ag_cons (gIxL (atI_get ht) (eg_var (i := 5) rfl rfl) (eg_var (i := 8) rfl rfl)) (ag_cons (gIxL (atI_get hu) (eg_var (i := 5) rfl rfl) (eg_var (i := 9) rfl rfl)) ag_nil))) ag_nil))) fun v G' H' st q => kk0 v G' H' (gg.step (gg2.step (gg3.step st))) ⟨some ⟨n, [t, u]⟩, ?_, q⟩
          exact first_two wm pw n1 no' hiN (by rw [hxs]; exact ht) (by rw [hxs]; exact hud) (by rw [hxs]; exact h1no) (by rw [hxs]; exact hno) (by rw [hxs]; exact hno2) hl'
        · have hl0 : decide (endV m.l [t, u] wide n < endV p.l [t, u] wide n) = false := hl
          have hl' : ¬ LaterC p.l m.l wide ⟨n, [t, u]⟩ := (of_decide_eq_false hl0 :)
          refine wp_nil (wp_nil ⟨(), fun y hy => ?_, hs.drop 9⟩)
          rw [tku, List.mem_append, List.mem_singleton] at hy
          rcases hy with hy | rfl
          · exact hno2 y hy
          · exact hl'
      · rintro _ hno2 σ H hs
        have eb : (upTo ((j : Int) + 1) ((xs.length : Nat) : Int)).length = xs.length - (j + 1) := by rw [ints_length]; omega
        rw [eb, List.take_of_length_le (by rw [List.length_drop]; exact Nat.le_refl _)] at hno2
        refine wp_nil ⟨(), fun x hx y hy hlt => ?_, hs.drop 8⟩
        rw [tkt, List.mem_append, List.mem_singleton] at hx
        rcases hx with hx | rfl
        · exact hno x hx y hy hlt
        · exact hno2 y (pw_after pxs ht hy hlt)
    · rintro _ hno σ H hs
      have eb : (upTo 0 ((xs.length : Nat) : Int)).length = xs.length := by rw [ints_length]; omega
      rw [eb, List.take_length] at hno
      refine wp_nil ⟨(), none_at (ws := ws) wm no' (by rw [hxs]; exact h1no) (by rw [hxs]; exact hno), (hs.drop 4).drop 5⟩
  · rintro _ no σ H hs
    have el : (upTo 1 (((numsTo p.l : Nat) : Int) + 1)).length = numsTo p.l := by rw [ints_length]; omega
    rw [el] at no
    exact s_ret hs eg_non fun v G' H' st q => kk0 v G' H' st ⟨none, ⟨fun _ c v hc => no c v hc, fun c z => (by cases z)⟩, q⟩
end
end Ow
namespace Ow
open PySem PySem.Spec PyProof.Rows L2 He
/-! ### defs that want no repr under way -/
/-- no repr is under way -/
def Calm (A : Around) : Prop := A.guards = some []
structure FnG (P : Program) (w : World) (K : PySem.W.Frag) (mg : Str → Option Value) (base : Heap) (k : Nat) (f : Addr) (fd : FuncData) (ps : List Str) (sp : Sp) : Prop where
  len : ∀ vs H Q E, sp vs H Q E → vs.length = ps.length
  run : ∀ (A : Around) (outer : List Env) (s : Shared) (H : Hp) (args : Args) (us : List Value) (vs : List V) (Q : VK) (E : XK), Room k A → Calm A → Env0 P w K mg base A outer s H → BindsTo s fd args (ps.zip us) → Vals vs us → sp vs H Q E → codeAny (model P w) A (.call (.ref f) args) (CR CX0 outer P w H s Q E) s
section
variable {P : Program} {w : World} {K : PySem.W.Frag} {mg : Str → Option Value} {base : Heap}
/-- such a def, by its body -/
theorem fng {x qual : Str} {params : Arguments} {body : List Stmt} {scope : Scope} {dvs : List V} {kws : List (Str × V)} {f : Addr} {fd : FuncData} {N ps : List Str} {k : Nat} {sp : Sp} (F : FunD K x qual params body scope dvs kws f fd) (S : FnScope N ps scope) (hlen : ∀ vs H Q E, sp vs H Q E → vs.length = ps.length)
    (hb : ∀ (cdv : Value) (A : Around) (outer : List Env) (s : Shared) (H : Hp) (vs : List V) (Q : VK) (E : XK), Room k (A.deeper (envOfC qual scope s.heap.objs.size f cdv)) → Calm A → sp vs H Q E → wpS (bodyX P w K mg base N qual scope f cdv A outer s H E) body { nx := fun _ H' => Q .non H', rt := Q } (L2.start N vs) H) : FnG P w K mg base (k + 1) f fd ps sp := by
  obtain ⟨c1, c2, dV, kV, doc, pm, an, cdv, ct, sl, rfl, lk, hcd, _, _⟩ := F.ex
  refine ⟨hlen, fun A out t H args us vs Q E room calm e0 bnd rv hsp => ?_⟩
  have inK : K.In t.heap := PySem.W.Frag.In.keeps e0.mod.kin (fun b z q => (e0.bs b z q).1)
  have nol : t.heap.NoLimit := Heap.NoLimit.keeps e0.mod.nolimit (fun b z q => (e0.bs b z q).1)
  have kinds : ∀ q ∈ ps.zip us, scope.names.lookup q.1 = some .local ∨ (scope.names.lookup q.1 = some .cell ∧ ((cellsFrom (t.heap.objs.size + 1) scope.names []).lookup q.1).isSome = true) := by
    intro q hq
    have hq1 : q.1 ∈ ps := (List.of_mem_zip (show (q.1, q.2) ∈ ps.zip us from hq)).1
    exact (S.par q.1 hq1).imp id fun z => ⟨z, PySem.W.cellsFrom_some _ _ _ (.inl z)⟩
  refine codeAny_call_function room.depth (inK _ _ lk) rfl S.co S.gen rfl (PySem.W.codeRec_of inK hcd) (bnd _ _ _ _ (wpAny_newFunctionEnv_cells S.kind kinds ?_))
  rintro _ rfl t1 call
  refine ⟨nol.keeps call.toInCall.keep, codeAny_func ?_⟩
  have body_ok := (PSs.nox pss_wp).run [] t1 (L2.start N vs) H { nx := fun _ H' => Q .non H', rt := Q } (inv_start (CX := CX0) (E := E) S room.hd e0 (hlen _ _ _ _ hsp) rv call) (hb cdv A out t H vs Q E (room.deeper _) calm hsp)
  refine wpAny_mono body_ok ?_ fun _ _ z => z
  intro fl t2 z
  match fl, z with
  | .ret u, ⟨v, σ', H', J, rv', q⟩ => exact ⟨v, H', J.os, J.bare, J.base, J.hok, rv', q⟩
  | .next, ⟨σ', H', J, q⟩ => exact ⟨.non, H', J.os, J.bare, J.base, J.hok, rfl, q⟩
  | .brk, ⟨_, _, _, q⟩ => exact q.elim
  | .cont, ⟨_, _, _, q⟩ => exact q.elim
end
/-- a value def of that kind, by its name -/
structure FGG (P : Program) (w : World) (K : PySem.W.Frag) (mg : Str → Option Value) (base : Heap) (k : Nat) (x : Str) (sp : Sp) : Prop where
  ex : ∃ f fd ps, FnG P w K mg base k f fd ps sp ∧ mg x = some (.ref f) ∧ PySem.W.keepIn K (.ref f) = true ∧ Binds K fd ps []
section
variable {X : Cx} {Γ : Cn} {Ω : Om} {pos p : Pos} {e : Expr} {es : List Expr} {x : Str} {k j : Nat} {sp : Sp} {t : TA}
theorem pe_callG2 (F : FGG X.prog X.w X.K X.mg X.base j x sp) (hr : Room k X.A) (hc : Calm X.A) (hk : j ≤ k) (ha : L2.PA X (e :: es) t) (hg : Gl X x) (hdb : (x == ("__debug__" : Str)) = false) (he : starEach (e :: es) X.env = (false, eval e X.env) :: starEach es X.env) (hpl : (backTo pos (starEach es X.env)).any (·.1) = false) :
    PE X (.Call (.Name x p) (e :: es) [] pos) (fun σ H Q => t σ H fun vs H1 => sp vs H1 Q E0) := by
  obtain ⟨f, fd, ps, ok, hm, hkp, hb⟩ := F.ex
  refine ⟨fun pins s σ H Q I h => wpAny_Call_Name_kw (ld_glob I hg hm (PySem.W.callWith_K (h₀ := X.base) I.ok.mod.kin hkp (thn (ha.run pos pins s σ H _ I h) fun us s1 ⟨vs, H1, J, r, q⟩ => ⟨J.kIn, ?_⟩) he hpl) hdb)⟩
  have hl : (us ++ []).length = ps.length := by rw [List.append_nil, ← r.length]; exact ok.len _ _ _ _ q
  have bnd := hb s1 us J.kIn hl
  rw [List.append_nil] at bnd
  refine wpAny_call (codeAny_mono (ok.run X.A X.stack s1 H1 ⟨us, []⟩ us vs Q E0 (hr.mono hk) hc J.env0 bnd r q) ?_)
  intro res s' z
  match res, z with
  | .error _, z => exact z.elim
  | .ok (.ret u), z => exact J.after z
  | .ok .next, z => exact z.elim
  | .ok .brk, z => exact z.elim
  | .ok .cont, z => exact z.elim
theorem eg_callG {α : Type} {φ : α → Prop} {A : α → List VP} {R : α → VP} (F : FGG X.prog X.w X.K X.mg X.base j x (Px φ A R)) (hr : Room k X.A) (hc : Calm X.A) (hk : j ≤ k) (y : α) (hy : φ y) (ha : AG X Γ Ω (e :: es) (A y)) (hg : Gl X x := by rfl)
    (hdb : (x == ("__debug__" : Str)) = false := by decide) (he : starEach (e :: es) X.env = (false, eval e X.env) :: starEach es X.env := by rfl) (hpl : (backTo pos (starEach es X.env)).any (·.1) = false := by rfl) : EG X Γ Ω (.Call (.Name x p) (e :: es) [] pos) (R y) :=
  weak (pe_callG2 F hr hc hk ha hg hdb he hpl) fun σ H Q ⟨G0, H0, s, k⟩ => ⟨G0, H0, s, fun vs G1 H1 g1 o1 q1 => ⟨y, hy, G1, o1.gh, q1, fun v G' H' st q => k v G' H' (g1.step st) (o1.step st) q⟩⟩
/-! ### repr of data -/
theorem cr_repr (hu : X.A.units + 64 < cLine) (hc : Calm X.A) : CallR X (.builtin "repr") (fun xs H Q => ∃ a d, xs = [V.ref a] ∧ Dp X.K H (.ref a) d ∧ d.showable = true ∧ d.hasDict = false ∧ d.depth ≤ 60 ∧ d.shown.length ≤ sizeLine ∧ Q (.str d.shown) H) := by
  intro pins s σ H xs us Q I r h
  obtain ⟨a, d, rfl, hd, hs, hn, hdp, hz, q⟩ := h
  rw [Vals.ref1 r]
  obtain ⟨as, rd⟩ := Dp.reads I d (.ref a) (.ref a) hd rfl
  exact repr_of_reads' rd hs (fun e => by rw [hn] at e; cases e) hc (by omega) (fun _ _ e => e) (fun h' u tk kp => ⟨.str d.shown, H, I.kept kp, ⟨_, rfl⟩, q⟩) hz
end
/-! ### the law's own call -/
theorem law_callG {P : Program} {w : World} {K : PySem.W.Frag} {mg mb : Str → Option Value} {k : Nat} {fa a : Addr} {fd : FuncData} {x : Str} {sp : Sp} {t : Shared} {vs : List Value} {ns : List Int}
    (inK : K.In t.heap) (nsG : t.heap.Ns mainGlobals mg) (nsB : t.heap.Ns builtinsNs mb) (boot : ∀ y : Str, y ≠ "__name__" → mb y = bootBuiltins y) (nol : t.heap.NoLimit) (gens : t.gens = #[])
    (ha : t.heap.get? a = some { cls := .type "list", data := .seq vs.toArray }) (hi : IntsAre vs ns) (hl : ns.length ≤ sizeLine) (room : Room k callerA)
    (F : ∀ base : Heap, FnG P w K mg base k fa fd [x] sp) (bnd : ∀ (s : Shared) (u : Value), BindsTo s fd ⟨[u], []⟩ [(x, u)])
    (hsp : ∀ H : Hp, L2.Only H → SqL K H a (ns.map V.int) → sp [.ref a] H (fun v _ => v = .bl true) fun _ _ _ => False) :
    codeAny (model P w) callerA (.call (.ref fa) ⟨[.ref a], []⟩) (fun r s' => r = .ok (.ret (.bool true)) ∧ OldK t.heap s'.heap ∧ s'.os = t.os ∧ AllBare s'.gens) t := by
  have rv := vals_ints hi
  have lv := hi.length
  let ob : Obj := { cls := .type "list", data := .seq vs.toArray }
  -- the script is known if it is no object of the text
  let H : Hp := fun b => if b = a ∧ K.lookup a = none then some (.frz ob (.lst (ns.map V.int))) else none
  have H_some : ∀ {b : Addr} {u : HO}, H b = some u → b = a ∧ K.lookup a = none ∧ u = .frz ob (.lst (ns.map V.int)) := fun {b u} e => by
    by_cases c : b = a ∧ K.lookup a = none
    · rw [show H b = some (.frz ob (.lst (ns.map V.int))) from if_pos c] at e
      exact ⟨c.1, c.2, (Option.some.inj e).symm⟩
    · rw [show H b = none from if_neg c] at e; cases e
  have only : L2.Only H := fun b => by
    cases e : H b with
    | none => exact .inl rfl
    | some u => exact .inr ⟨ob, _, by rw [(H_some e).2.2]⟩
  have seq : SqL K H a (ns.map V.int) := by
    cases c : K.lookup a with
    | none => exact .inl (.inr ⟨ob, if_pos ⟨rfl, c⟩⟩)
    | some o =>
      have e := inK a o c
      rw [ha] at e
      cases e
      exact .inr ⟨_, vs.toArray, _, c, rfl, rfl, rfl, by rw [List.size_toArray, lv]; exact hl, by simpa using rv⟩
  have hok : HOk P w H t.heap := fun b u e => by
    obtain ⟨rfl, _, rfl⟩ := H_some e
    exact ⟨ha, by rw [List.length_map]; exact hl, vs, _, rv, ha⟩
  have free : ∀ {b : Addr} {o : Obj}, t.heap.get? b = some o → (∀ n, o.data ≠ .seq vs.toArray n) → H b = none := fun {b o} e nd => by
    cases c : H b with
    | none => rfl
    | some u =>
      obtain ⟨rfl, _, _⟩ := H_some c
      rw [ha] at e
      cases e
      exact absurd rfl (nd _)
  have nsD : ∀ {b : Addr} {m : Str → Option Value}, t.heap.Ns b m → (hidT t.heap H).Ns b m := fun {b m} ⟨o, es, ep, e, d, r⟩ => ⟨o, es, ep, hidT_get e (free e fun n z => by rw [d] at z; cases z), d, r⟩
  have kin : K.In (hidT t.heap H) := fun b o e => hidT_get (inK b o e) (by
    cases c : H b with
    | none => rfl
    | some u =>
      obtain ⟨rfl, z, _⟩ := H_some c
      rw [z] at e; cases e)
  have e0 : Env0 P w K mg (hidT t.heap H) callerA [] t H :=
    { frames := rfl, mod := ⟨kin, nsD nsG, ⟨mb, nsD nsB, boot⟩, let ⟨mc, z1, z2⟩ := nol; ⟨mc, nsD z1, z2⟩⟩, bs := fun b o e => of_hidT e, bsz := Nat.le_of_eq (hidT_size _ _), funs := trivial, frf := fun b hb => (by cases hb), hok := hok, bare := .of_eq gens }
  refine codeAny_mono ((F _).run callerA [] t H _ [.ref a] [.ref a] _ _ room rfl e0 (bnd t (.ref a)) (.cons rfl .nil) (hsp H only seq)) ?_
  intro res s' z
  match res, z with
  | .error _, z => exact z.elim
  | .ok .next, z => exact z.elim
  | .ok .brk, z => exact z.elim
  | .ok .cont, z => exact z.elim
  | .ok (.ret u), ⟨v, H', os, bare, un, hok', rv', (ev : v = .bl true)⟩ =>
    subst ev
    have eu : u = Value.bool true := rv'
    subst eu
    refine ⟨rfl, OldK.of_keep fun b o e => ?_, os, bare⟩
    cases c : H b with
    | none => exact un.keep b o e c (fun z => by cases z) (by simp)
    | some u =>
      obtain ⟨rfl, _, rfl⟩ := H_some c
      have f2 := un.frzs b ob _ c
      obtain ⟨e2, _⟩ := hok' b _ f2
      rw [ha] at e
      cases e
      exact e2
end Ow
namespace Ow
open PySem PySem.Spec PyProof.Rows L2 He
/-! ### repr of a case -/
def tkT (t : Tk) : PyData := .tuple [.str t.1, .int (t.2 : Nat)]
def caseD (c : Case) : PyData := .tuple [.int (c.num : Nat), .tuple (c.tasks.map tkT)]
theorem boot_repr : bootBuiltins "repr" = some (.builtin "repr") := by first | rfl | kernel_rfl
section
variable {K : PySem.W.Frag}
theorem dat_tkX {t : Tk} : Dat K (vTk t) (tkT t) := dat_X (.cons dat_S (.cons dat_I .nil))
theorem dat_tkT {t : Tk} : Dat K (vT K [vS t.1, vIn t.2]) (tkT t) := dat_T (.cons dat_S (.cons dat_I .nil))
theorem dat_case {c : Case} : Dat K (vCase K c) (caseD c) := dat_T (.cons dat_I (.cons (dat_T (dat_map (fun _ => dat_tkX) c.tasks)) .nil))
end
structure Small (c : Case) : Prop where
  num : c.num ≤ 4200000
  ts : TasksOk c.tasks
  t : ∀ t ∈ c.tasks, t.1 ∈ menu ∧ t.2 ≤ 4200000
theorem w_int {n : Nat} (h : n ≤ 4200000) : PyData.weight (.int (n : Nat)) ≤ 24 := by
  unfold PyData.weight
  split
  · omega
  · rename_i hn
    have h0 : n ≠ 0 := fun z => hn (by subst z; rfl)
    have p23 : (2 : Nat) ^ 23 = 8388608 := by decide
    have h1 : n < 2 ^ 23 := by omega
    have : n.log2 < 23 := (Nat.log2_lt h0).mpr h1
    show (n : Int).natAbs.log2 + 1 ≤ 24
    rw [Int.natAbs_natCast]; omega
theorem short_int {n : Nat} (h : n ≤ 4200000) : (PyData.shown (.int (n : Nat))).length ≤ 13 := by
  have p12 : (10 : Nat) ^ 12 = 1000000000000 := by decide
  have h1 : ((n : Nat) : Int).natAbs < 10 ^ 12 := by rw [Int.natAbs_natCast]; omega
  have : (toString ((n : Nat) : Int)).length ≤ 12 + 1 := int_text_length_le10 (by decide) h1
  unfold PyData.shown
  rw [PySem.ofString_length]; exact this
theorem log_int {n : Nat} (h : n ≤ 4200000) : ((n : Nat) : Int).natAbs.log2 < 1920 := by
  rw [Int.natAbs_natCast]
  by_cases h0 : n = 0
  · subst h0; decide
  · refine (Nat.log2_lt h0).mpr ?_
    have p23 : (2 : Nat) ^ 23 = 8388608 := by decide
    have : (2 : Nat) ^ 23 ≤ 2 ^ 1920 := Nat.pow_le_pow_right (by decide) (by decide)
    omega
theorem w_str {s : Str} (h : s ∈ menu) : PyData.weight (.str s) ≤ 8 := by
  have := (menu_ok s h).2.1
  exact this
structure Fit (d : PyData) : Prop where
  lay : d.canLay0 = true
  sh : d.showable = true
  nd : d.hasDict = false
  shrt : d.intsShort 13 = true
  dp : d.depth ≤ 10
theorem fit_tk {t : Tk} (h1 : t.1 ∈ menu) (h2 : t.2 ≤ 4200000) : Fit (tkT t) ∧ PyData.weight (tkT t) ≤ 40 ∧ (tkT t).depth ≤ 1 := by
  have a1 := menu_str _ h1
  have a2 := short_int h2
  have a3 := log_int h2
  have a4 := w_int h2
  have a5 := w_str h1
  have e1 : decide ((PyData.shown (.int (t.2 : Nat))).length ≤ 13) = true := decide_eq_true a2
  have e2 : decide (((t.2 : Nat) : Int).natAbs.log2 < 1920) = true := decide_eq_true a3
  unfold tkT
  refine ⟨⟨?_, ?_, ?_, ?_, ?_⟩, ?_, ?_⟩
  · rw [PyData.canLay0, PyData.canLayAll0, PyData.canLayAll0, PyData.canLayAll0, PyData.canLay0, PyData.canLay0, a1]; rfl
  · rw [PyData.showable, PyData.showableAll, PyData.showableAll, PyData.showableAll, PyData.showable, PyData.showable, e2]; rfl
  · rw [PyData.hasDict, PyData.hasDictAll, PyData.hasDictAll, PyData.hasDictAll, PyData.hasDict, PyData.hasDict]; rfl
  · rw [PyData.intsShort, PyData.intsShortAll, PyData.intsShortAll, PyData.intsShortAll, PyData.intsShort, PyData.intsShort, e1]; rfl
  · rw [PyData.depth, PyData.depthAll, PyData.depthAll, PyData.depthAll, PyData.depth, PyData.depth]; omega
  · rw [PyData.weight, PyData.weightAll, PyData.weightAll, PyData.weightAll]; omega
  · rw [PyData.depth, PyData.depthAll, PyData.depthAll, PyData.depthAll, PyData.depth, PyData.depth]; omega
structure FitAll (ds : List PyData) : Prop where
  lay : PyData.canLayAll0 ds = true
  sh : PyData.showableAll ds = true
  nd : PyData.hasDictAll ds = false
  shrt : PyData.intsShortAll 13 ds = true
  dp : PyData.depthAll ds ≤ 1
  w : PyData.weightAll ds ≤ 41 * ds.length
theorem fit_all : ∀ {ts : List Tk}, (∀ t ∈ ts, t.1 ∈ menu ∧ t.2 ≤ 4200000) → FitAll (ts.map tkT)
  | [], _ => ⟨by rw [List.map_nil, PyData.canLayAll0], by rw [List.map_nil, PyData.showableAll], by rw [List.map_nil, PyData.hasDictAll], by rw [List.map_nil, PyData.intsShortAll], by rw [List.map_nil, PyData.depthAll]; omega, by rw [List.map_nil, PyData.weightAll]; omega⟩
  | t :: ts, h => by
    have ih := fit_all (ts := ts) fun x hx => h x (List.mem_cons_of_mem _ hx)
    obtain ⟨h1, h2⟩ := h t List.mem_cons_self
    obtain ⟨f, w, dp⟩ := fit_tk h1 h2
    refine ⟨?_, ?_, ?_, ?_, ?_, ?_⟩
    · rw [List.map_cons, PyData.canLayAll0, f.lay, ih.lay]; rfl
    · rw [List.map_cons, PyData.showableAll, f.sh, ih.sh]; rfl
    · rw [List.map_cons, PyData.hasDictAll, f.nd, ih.nd]; rfl
    · rw [List.map_cons, PyData.intsShortAll, f.shrt, ih.shrt]; rfl
    · have := ih.dp
      rw [List.map_cons, PyData.depthAll]; omega
    · have := ih.w
      rw [List.map_cons, PyData.weightAll, List.length_cons]; omega
theorem fit_case {c : Case} (h : Small c) : Fit (caseD c) ∧ (caseD c).shown.length ≤ sizeLine := by
  have fa := fit_all h.t
  have l2 := (tasks_len h.ts).2
  have a2 := short_int h.num
  have a3 := log_int h.num
  have a4 := w_int h.num
  have e1 : decide ((PyData.shown (.int (c.num : Nat))).length ≤ 13) = true := decide_eq_true a2
  have e2 : decide (((c.num : Nat) : Int).natAbs.log2 < 1920) = true := decide_eq_true a3
  have dp := fa.dp
  have w := fa.w
  rw [List.length_map] at w
  have F : Fit (caseD c) := by
    unfold caseD
    refine ⟨?_, ?_, ?_, ?_, ?_⟩
    · rw [PyData.canLay0, PyData.canLayAll0, PyData.canLayAll0, PyData.canLayAll0, PyData.canLay0, PyData.canLay0, fa.lay]; rfl
    · rw [PyData.showable, PyData.showableAll, PyData.showableAll, PyData.showableAll, PyData.showable, PyData.showable, e2, fa.sh]; rfl
    · rw [PyData.hasDict, PyData.hasDictAll, PyData.hasDictAll, PyData.hasDictAll, PyData.hasDict, PyData.hasDict, fa.nd]; rfl
    · rw [PyData.intsShort, PyData.intsShortAll, PyData.intsShortAll, PyData.intsShortAll, PyData.intsShort, PyData.intsShort, e1, fa.shrt]; rfl
    · rw [PyData.depth, PyData.depthAll, PyData.depthAll, PyData.depthAll, PyData.depth, PyData.depth]; omega
  refine ⟨F, ?_⟩
  have hw : PyData.weight (caseD c) ≤ 2 ^ 20 := by
    unfold caseD
    have p20 : (2 : Nat) ^ 20 = 1048576 := by decide
    rw [PyData.weight, PyData.weightAll, PyData.weightAll, PyData.weightAll, PyData.weight.eq_3]
    omega
  have lay : PyData.layable0 (caseD c) = true := by
    unfold PyData.layable0
    rw [F.lay, decide_eq_true (show (caseD c).depth ≤ 64 from Nat.le_trans F.dp (by decide)), decide_eq_true hw]; rfl
  have := PyProof.Rows.shown_le13 lay F.shrt
  have := sizeLine_eq
  omega
section
variable {X : Cx} {Γ : Cn} {Ω : Om} {pos p : Pos} {e : Expr} {k : Nat}
theorem ru_repr {c : Case} (h : Small c) : RU (fun xs H Q => ∃ a d, xs = [V.ref a] ∧ Dp X.K H (.ref a) d ∧ d.showable = true ∧ d.hasDict = false ∧ d.depth ≤ 60 ∧ d.shown.length ≤ sizeLine ∧ Q (.str d.shown) H) [vCase X.K c] (vS (caseD c).shown) := fun vs G H Q sm q kk => by
  cases q with
  | cons q t =>
    cases t
    obtain ⟨f, hz⟩ := fit_case h
    have hd := dat_case (K := X.K) (c := c) _ _ q
    obtain ⟨a, us, rfl, _⟩ := q
    exact ⟨a, caseD c, rfl, Dp.same sm _ _ hd, f.sh, f.nd, Nat.le_trans f.dp (by decide), hz, kk _ _ _ (Step.refl sm) rfl⟩
theorem eg_repr {c : Case} (h : Small c) (hr : Room k X.A) (hc : Calm X.A) (hm : X.mg "repr" = none) (he : EG X Γ Ω e (vCase X.K c)) (hg : Gl X "repr" := by rfl) (h1 : starEach [e] X.env = (false, eval e X.env) :: starEach [] X.env := by rfl) (h3 : (backTo pos (starEach [] X.env)).any (·.1) = false := by rfl) : EG X Γ Ω (.Call (.Name "repr" p) [e] [] pos) (vS (caseD c).shown) :=
  eg_callB (cr_repr (by have := hr.un; omega) hc) (ru_repr h) hg hm boot_repr (ag_cons he ag_nil h1) (by decide) (by decide) h1 h3
theorem cr_reprN : CallR X (.builtin "repr") (fun xs H Q => xs = [V.non] ∧ Q (.str "None") H) := by
  intro pins s σ H xs us Q I r h
  obtain ⟨rfl, q⟩ := h
  obtain ⟨u, rfl, r1⟩ := vals1 r
  cases r1
  exact PySem.P.repr_of_none ⟨.str "None", H, I.tok _, ⟨_, rfl⟩, q⟩
theorem eg_reprN (hm : X.mg "repr" = none) (he : EG X Γ Ω e vN) (hg : Gl X "repr" := by rfl) (h1 : starEach [e] X.env = (false, eval e X.env) :: starEach [] X.env := by rfl) (h3 : (backTo pos (starEach [] X.env)).any (·.1) = false := by rfl) : EG X Γ Ω (.Call (.Name "repr" p) [e] [] pos) (vS "None") :=
  eg_callB (cr_reprN) (fun vs G H Q sm q kk => by
    cases q with
    | cons q t =>
      cases t
      have e : _ = V.non := q
      subst e
      exact ⟨rfl, kk _ _ _ (Step.refl sm) rfl⟩) hg hm boot_repr (ag_cons he ag_nil h1) (by decide) (by decide) h1 h3
/-- the text of what is told -/
def repC : Option Case → Str
  | some c => (caseD c).shown
  | none => "None"
theorem eg_reprO {o : Option Case} (h : ∀ c, o = some c → Small c) (hr : Room k X.A) (hc : Calm X.A) (hm : X.mg "repr" = none) (he : EG X Γ Ω e (vOptC X.K o)) (hg : Gl X "repr" := by rfl) (h1 : starEach [e] X.env = (false, eval e X.env) :: starEach [] X.env := by rfl) (h3 : (backTo pos (starEach [] X.env)).any (·.1) = false := by rfl) : EG X Γ Ω (.Call (.Name "repr" p) [e] [] pos) (vS (repC o)) := by
  cases o with
  | none => exact eg_reprN hm he hg h1 h3
  | some c => exact eg_repr (h c rfl) hr hc hm he hg h1 h3
end
end Ow
namespace Ow
open PySem PySem.Spec PyProof.Rows L2 He
/-! ### what is told against what is found -/
structure FitY where
  p : Pl
  m : Pl
  told : Option Case
  wide : Bool
structure FitOk (y : FitY) : Prop where
  o : FirOk ⟨y.p, y.m, y.wide⟩
  told : ToldC y.p.l y.m.l y.wide y.told
  small : ∀ c, y.told = some c → c.num ≤ 4200000
theorem small_of {l : Ln} (ok : LnOk l) {c : Case} (v : Valid l c) (h : c.num ≤ 4200000) : Small c := ⟨h, v.sh, fun t ht => by
  obtain ⟨h1, h2, h3⟩ := v.t t ht
  have h4 := clock_name h1
  obtain ⟨s, hs, e⟩ := List.mem_map.mp h4
  exact ⟨by rw [← e]; exact (ok.sts s hs).name, by omega⟩⟩
theorem tyT2 {K : PySem.W.Frag} {Ps : List VP} : ∀ v G, (vT K Ps).p v G → TyX K G v (.type "tuple") := fun v G h => tyT h
theorem eg_listT {X : Cx} {Γ : Cn} {Ω : Om} {e : Expr} {Ps : List VP} {pos p : Pos} (hm : X.mg "list" = none) (he : EG X Γ Ω e (vT X.K Ps)) (hg : Gl X "list" := by rfl) (h1 : starEach [e] X.env = (false, eval e X.env) :: starEach [] X.env := by rfl) (h3 : (backTo pos (starEach [] X.env)).any (·.1) = false := by rfl) : EG X Γ Ω (.Call (.Name "list" p) [e] [] pos) (vL Ps) :=
  eg_callTy call_list_of ru_lstT hg hm boot_list (ag_cons he ag_nil h1) (by decide) (by decide) h1 h3
section
variable {P : Program} {w : World} {K : PySem.W.Frag} {mg : Str → Option Value} {base : Heap}
theorem fgG {x : Str} {st : Stmt} {N ps : List Str} {k : Nat} {α : Type} {φ : α → Prop} {A : α → List VP} {R : α → VP} (hd : ∃ fd, FunD K x x (defArgs st) (defBody st) (defScope st) [] [] (ga K x) fd) (hm : mg x = some (.ref (ga K x))) (S : FnScope N ps (defScope st)) (hl : ∀ y, φ y → (A y).length = ps.length)
    (hbd : ∀ (kV doc pm : Value) (an : Option Addr) (cdv ct : Value) (us : List Value), us.length = ps.length → bindArgs (PySem.W.fnOf x x (defArgs st) (defBody st) (defScope st) .none kV doc pm an cdv ct) ⟨us, []⟩ = pure (ps.zip us))
    (hb : ∀ (cdv : Value) (Ar : Around) (outer : List Env) (s : Shared) (H : Hp) (E : XK) (y : α) (G : Hp) (Q : VK) (σ : L2.St), Room k (Ar.deeper (envOfC x (defScope st) s.heap.objs.size (ga K x) cdv)) → Calm Ar → φ y → Sat G H (stC N (A y)) [] σ H → (∀ v G' H', Step G H G' H' → (R y).p v G' → Q v H') →
      wpS (bodyX P w K mg base N x (defScope st) (ga K x) cdv Ar outer s H E) (defBody st) { nx := fun _ H' => Q .non H', rt := Q } σ H) : FGG P w K mg base (k + 1) x (Px φ A R) := by
  obtain ⟨fd, F⟩ := hd
  refine ⟨_, fd, ps, fng F S (fun vs H Q E h => ?_) (fun cdv A outer s H vs Q E hr hc h => ?_), hm, F.kp, F.bindsN hbd⟩
  · obtain ⟨y, hy, G, s, q, _⟩ := h
    rw [← Paired.length q]; exact hl y hy
  · obtain ⟨y, hy, G, sm, q, kk⟩ := h
    exact hb cdv A outer s H E y G Q _ hr hc hy ⟨G, Grow.refl, start_ok sm q⟩ kk
theorem g_law_fits (T : Txt K mg) : FGG P w K mg base 7 "_law_fits" (Px FitOk (fun y => [vPlan K y.p, vPlan K y.m, vOptC K y.told, vB y.wide]) (fun _ => vB true)) := by
  refine fgG T.d_law_fits T.g_law_fits sc_law_fits (fun _ _ => rfl) (fun _ _ _ _ _ _ us hl => match us, hl with | [_, _, _, _], _ => rfl) ?_
  rintro cdv Ar outer s0 H0 EE ⟨p, m, told, wide⟩ G Q σ hr hc ⟨o, ht, hsm⟩ hs kk0
  replace o : FirOk ⟨p, m, wide⟩ := o
  replace ht : ToldC p.l m.l wide told := ht
  replace hsm : ∀ c, told = some c → c.num ≤ 4200000 := hsm
  have okp : LnOk p.l := o.okp
  have hsz := small30
  have f1 := okp.few
  have small : ∀ c, told = some c → Small c := fun c e => small_of okp (ht.some c e).1 (hsm c e)
  have hs : Sat G H0 [some (vPlan K p), some (vPlan K m), some (vOptC K told), some (vB wide), none, none, none] [] σ H0 := hs
  refine s_set hs 4 (eg_call (g_law_first T) hr (by omega) ⟨p, m, wide⟩ o (ag_cons (eg_var (i := 0) rfl rfl) (ag_cons (eg_var (i := 1) rfl rfl) (ag_cons (eg_var (i := 3) rfl rfl) ag_nil)))) (fun σ H hs => ?_) sc_law_fits.nd
  obtain ⟨due, hd, hs⟩ := hs.ex 4 rfl
  replace hd : FirstC p.l m.l wide (numsTo p.l) due := hd
  have hs : Sat G H0 [some (vPlan K p), some (vPlan K m), some (vOptC K told), some (vB wide), some (vOptC K due), none, none] [] σ H := hs
  have isCase : ∀ {c : Case} v G, (vCase K c).p v G → v ≠ .non := fun {c} v G ⟨b, vs, e, _⟩ => by rw [e]; exact fun z => by cases z
  rcases told_first ht hd with e | ⟨e, c, e2, hnum, v, hl⟩
  · -- the same one, told and found
    subst e
    refine s_if (k := true) hs ?_ (fun _ H hs => s_ret hs (EG.cast (P := vB (decide (V.str (repC told) = V.str (repC told)))) (eg_cmp op_eq (rg_eq rfl) (eg_reprO small hr hc T.f_repr (eg_var (i := 2) rfl rfl)) (eg_reprO small hr hc T.f_repr (eg_var (i := 4) rfl rfl)) rfl) (by rw [decide_eq_true rfl])) kk0) (fun h => by cases h)
    cases told with
    | none => exact (wg_or (k := true) (m := false) (tg_isN (x := .non) (eg_var (i := 2) rfl rfl)) (fun h => by cases h)).tg
    | some c => exact (wg_or (k := false) (m := true) (tg_isN_ref (P := vCase K c) (eg_var (i := 2) rfl rfl) isCase) (fun _ => wg_or1 (tg_notN_ref (P := vCase K c) (eg_var (i := 4) rfl rfl) isCase))).tg
  · -- told one with a greater number
    subst e e2
    have hs : Sat G H0 [some (vPlan K p), some (vPlan K m), some (vCase K c), some (vB wide), some vN, none, none] [] σ H := hs
    have sc := small c rfl
    have l12 := tasks_len sc.ts
    refine s_skip (k0 := false) hs ((wg_or (k := false) (m := false) (tg_isN_ref (P := vCase K c) (eg_var (i := 2) rfl rfl) isCase) (fun _ => wg_or1 (tg_notN (x := .non) (eg_var (i := 4) rfl rfl)))).tg) rfl fun H hs => ?_
    refine s_asg hs (P := vCase K c) (Γ' := [some (vPlan K p), some (vPlan K m), some (vCase K c), some (vB wide), some vN, some (vIn c.num), some (vT K (c.tasks.map vTk))]) (eg_var (i := 2) rfl rfl) (gt_tup (gts_cons (gt_name 5 sc_law_fits.nd) (gts_cons (gt_name 6 sc_law_fits.nd) gts_nil))) (fun σ H hs => ?_)
    have hM : decide ((c.num : Int) < if p.l.sts.length < 3 then 5 else 4) = false := by
      refine decide_eq_false ?_
      have hcl : p.l.clocked.length ≤ p.l.sts.length := by
        unfold Ln.clocked
        rw [List.length_map]; exact List.length_filter_le _ _
      unfold numsTo at hnum
      by_cases h3 : p.l.sts.length < 3
      · rw [if_pos h3]
        rw [if_pos (by omega)] at hnum
        omega
      · rw [if_neg h3]
        by_cases h4 : p.l.clocked.length < 3
        · rw [if_pos h4] at hnum; omega
        · rw [if_neg h4] at hnum; omega
    have fa := fit_all sc.t
    have lay : (PyData.tuple (c.tasks.map tkT)).canLay0 = true := by rw [PyData.canLay0, fa.lay]
    have shp : SeqAt.shaped (.tuple (c.tasks.map tkT)) = true := by
      have := fa.dp
      unfold SeqAt.shaped
      rw [lay, PyData.depth, Bool.true_and, decide_eq_true_iff]; omega
    refine s_skip (k0 := false) hs ((wg_or (k := false) (m := false) (tg_not (tg_val (eg_isi T.f_isinstance T.f_tuple boot_tuple (fun _ _ => tyT) (by decide +kernel : kitB "tuple" "tuple" = some true) (eg_var (P := vT K (c.tasks.map vTk)) (i := 6) rfl rfl)))) (fun _ => wg_or (k := false) (m := false) (TG.cast (tg_not (tg_chain op_lt op_lt rg_I0 rg_I0 (eg_int (i := 0)) (eg_lenT T.f_len (eg_var (P := vT K (c.tasks.map vTk)) (i := 6) rfl rfl)) (eg_int (i := 3)))) ?_) (fun _ => wg_or1 (TG.cast (tLt (i := (c.num : Int)) (j := if p.l.sts.length < 3 then 5 else 4) (eg_var (i := 5) rfl rfl) (eg_ifExp (tLt (eg_lenL (Ps := p.l.sts.map (vPost K)) T.f_len (gIxL rfl (eg_var (P := vPlan K p) (i := 0) rfl rfl) eg_int)) (eg_int (i := 3))) (fun h => EG.cast (P := vI 5) eg_int ?_) (fun h => EG.cast (P := vI 4) eg_int ?_))) hM)))).tg) rfl fun H hs => ?_
    · have a1 : decide ((0 : Int) < (((c.tasks.map vTk).length : Nat) : Int)) = true := decide_eq_true (by rw [List.length_map]; omega)
      have a2 : decide ((((c.tasks.map vTk).length : Nat) : Int) < 3) = true := decide_eq_true (by rw [List.length_map]; omega)
      rw [a1, a2]; rfl
    · have h' := of_decide_eq_true h
      rw [List.length_map] at h'
      rw [if_pos (by omega)]
    · have h' := of_decide_eq_false h
      rw [List.length_map] at h'
      rw [if_neg (by omega)]
    · have hlat : decide (endV m.l c.tasks wide c.num < endV p.l c.tasks wide c.num) = true := decide_eq_true hl
      refine s_ret hs (EG.cast (P := vB (true && true)) (eg_and (k := true) (EG.cast (P := vB (PyData.eqv (.tuple (c.tasks.map tkT)) (.tuple (c.tasks.map tkT)))) (eg_cmp (op_eqD hr.units) (rg_eqD (dat_T (dat_map (fun _ => dat_tkX) c.tasks)) (dat_T (dat_map (fun _ => dat_tkT) c.tasks)) shp shp) (eg_var (P := vT K (c.tasks.map vTk)) (i := 6) rfl rfl) (eg_call (g_law_ranked T) hr (by omega) c.tasks sc.ts (ag_cons (eg_var (i := 6) rfl rfl) ag_nil)) rfl) (by rw [SeqAt.eqv_refl _ lay])) (fun _ => eg_one (EG.cast (P := vB (decide (endV m.l c.tasks wide c.num < endV p.l c.tasks wide c.num))) (eg_call (g_law_later T) hr (by omega) ⟨p, m, c.num, c.tasks, wide⟩ ⟨o.okp, o.ahp, o.okm, o.ahm, v.pos, sc.num, l12.2, fun t ht => (v.t t ht).2.1⟩ (ag_cons (eg_var (i := 0) rfl rfl) (ag_cons (eg_var (i := 1) rfl rfl) (ag_cons (eg_var (i := 5) rfl rfl) (ag_cons (eg_listT T.f_list (eg_var (P := vT K (c.tasks.map vTk)) (i := 6) rfl rfl)) (ag_cons (eg_var (i := 3) rfl rfl) ag_nil)))))) (by rw [hlat])))) rfl) kk0
end
end Ow
namespace Ow
open PySem PySem.Spec PyProof.Rows L2 He
/-! ### the two plans, and the same answer twice -/
theorem plan_ahead {W L : Nat} {p : Pl} (ok : PlanOk W L p) : Ahead p.l := ⟨fun s => p.ws.idxOf s, fun t ht h0 => (ok.ties t ht).go h0⟩
theorem plan_width {W L : Nat} {p : Pl} (ok : PlanOk W L p) (h1 : 1 ≤ W) : p.l.width ≤ W := by
  obtain ⟨_, _, h⟩ := foldl_max p.l.sizes 1
  have e : p.l.width = p.l.sizes.foldl max 1 := rfl
  rw [e]
  rcases h with h | h
  · omega
  · generalize p.l.sizes.foldl max 1 = x at h
    unfold Ln.sizes at h
    rcases List.mem_append.mp h with h | h
    · obtain ⟨s, hs, e⟩ := List.mem_filterMap.mp h
      exact (ok.hands s hs _ e).2
    · obtain ⟨t, ht, e⟩ := List.mem_map.mp h
      rw [← e]; exact (ok.ties t ht).stock
theorem plan_wln {W L : Nat} {p : Pl} (ok : PlanOk W L p) (h1 : 1 ≤ W) (h4 : W ≤ 4) (hL : L ≤ 12) : WLn p.l := ⟨lnOk_of ok h4 hL, Nat.le_trans (plan_width ok h1) h4⟩
theorem told_same {l m : Ln} {wh : Bool} {r s : Option Case} (h : ToldC l m wh r) (k : ToldC l m wh s) : r = s := by
  cases r with
  | none =>
    cases s with
    | none => rfl
    | some c =>
      obtain ⟨v, lt, _⟩ := k.some c rfl
      exact absurd lt (h.no rfl c v)
  | some c =>
    obtain ⟨v, lt, mn⟩ := h.some c rfl
    cases s with
    | none => exact absurd lt (k.no rfl c v)
    | some d =>
      obtain ⟨v2, lt2, mn2⟩ := k.some d rfl
      rcases rank_tri c d with z | z | z
      · exact absurd z (mn2 c v lt)
      · rw [z]
      · exact absurd z (mn d v2 lt2)
/-! ### repr of what is known only once it is there -/
section
variable {X : Cx} {Γ : Cn} {Ω : Om} {pos p : Pos} {e : Expr} {es : List Expr} {k j : Nat} {x : Str}
theorem eg_reprE {φ : Option Case → Prop} (hφ : ∀ o, φ o → ∀ c, o = some c → Small c) (hr : Room k X.A) (hc : Calm X.A) (hm : X.mg "repr" = none) (he : EG X Γ Ω e (vEx φ (vOptC X.K))) (hg : Gl X "repr" := by rfl) (h1 : starEach [e] X.env = (false, eval e X.env) :: starEach [] X.env := by rfl) (h3 : (backTo pos (starEach [] X.env)).any (·.1) = false := by rfl) : EG X Γ Ω (.Call (.Name "repr" p) [e] [] pos) (vEx φ fun o => vS (repC o)) := by
  refine eg_callB (r := fun xs H Q => (xs = [V.non] ∧ Q (.str "None") H) ∨ ∃ a d, xs = [V.ref a] ∧ Dp X.K H (.ref a) d ∧ d.showable = true ∧ d.hasDict = false ∧ d.depth ≤ 60 ∧ d.shown.length ≤ sizeLine ∧ Q (.str d.shown) H) ?_ (Ps := [vEx φ (vOptC X.K)]) ?_ hg hm boot_repr (ag_cons he ag_nil h1) (by decide) (by decide) h1 h3
  · intro pins s σ H xs us Q I r h
    rcases h with h | h
    · exact cr_reprN pins s σ H xs us Q I r h
    · exact cr_repr (by have := hr.un; omega) hc pins s σ H xs us Q I r h
  · intro vs G H Q sm q kk
    cases q with
    | cons q t =>
      cases t
      obtain ⟨o, ho, q⟩ := q
      cases o with
      | none =>
        have e : _ = V.non := q
        subst e
        exact .inl ⟨rfl, kk _ _ _ (Step.refl sm) ⟨none, ho, rfl⟩⟩
      | some c =>
        exact .inr (ru_repr (X := X) (hφ _ ho c rfl) _ G H Q sm (.cons q .nil) fun z G' H' st q => kk z G' H' st ⟨some c, ho, q⟩)
theorem eg_callGE {α : Type} {φ : α → Prop} {A : α → List VP} {R : α → VP} {As : List VP} {P' : VP} (F : FGG X.prog X.w X.K X.mg X.base j x (Px φ A R)) (hr : Room k X.A) (hc : Calm X.A) (hk : j ≤ k) (ha : AG X Γ Ω (e :: es) As) (sel : ∀ vs G, PV As vs G → ∃ y, φ y ∧ PV (A y) vs G ∧ ∀ v G', (R y).p v G' → P'.p v G') (hg : Gl X x := by rfl)
    (hdb : (x == ("__debug__" : Str)) = false := by decide) (he : starEach (e :: es) X.env = (false, eval e X.env) :: starEach es X.env := by rfl) (hpl : (backTo pos (starEach es X.env)).any (·.1) = false := by rfl) : EG X Γ Ω (.Call (.Name x p) (e :: es) [] pos) P' :=
  weak (pe_callG2 F hr hc hk ha hg hdb he hpl) fun σ H Q ⟨G0, H0, s, k⟩ => ⟨G0, H0, s, fun vs G1 H1 g1 o1 q1 => let ⟨y, hy, q2, w⟩ := sel vs G1 q1; ⟨y, hy, G1, o1.gh, q2, fun v G' H' st q => k v G' H' (g1.step st) (o1.step st) (w v G' q)⟩⟩
end
/-! ### a call that leaves the defaults out -/
structure FGd (P : Program) (w : World) (K : PySem.W.Frag) (mg : Str → Option Value) (base : Heap) (k : Nat) (x : Str) (dvs : List V) (sp : Sp) : Prop where
  ex : ∃ f fd ps ds, FnOk P w K mg base CX0 k f fd ps sp ∧ mg x = some (.ref f) ∧ PySem.W.keepIn K (.ref f) = true ∧ Binds K fd ps ds ∧ Vals dvs ds
section
variable {X : Cx} {Γ : Cn} {Ω : Om} {pos p : Pos} {e : Expr} {es : List Expr} {As : List VP} {dvs : List V} {x : Str} {k j : Nat} {α : Type} {φ : α → Prop} {A : α → List VP} {R : α → VP}
theorem eg_callD (F : FGd X.prog X.w X.K X.mg X.base j x dvs (Px φ A R)) (hr : Room k X.A) (hk : j ≤ k) (y : α) (hy : φ y) (ha : AG X Γ Ω (e :: es) As) (hA : ∀ vs G, PV As vs G → PV (A y) (vs ++ dvs) G) (hg : Gl X x := by rfl)
    (hdb : (x == ("__debug__" : Str)) = false := by decide) (he : starEach (e :: es) X.env = (false, eval e X.env) :: starEach es X.env := by rfl) (hpl : (backTo pos (starEach es X.env)).any (·.1) = false := by rfl) : EG X Γ Ω (.Call (.Name x p) (e :: es) [] pos) (R y) := by
  obtain ⟨f, fd, ps, ds, ok, hm, hkp, hb, hd⟩ := F.ex
  exact weak (pe_call (E := E0) ok (hr.mono hk) hg hm hkp hb hd pass0 ha hdb he hpl) fun σ H Q ⟨G0, H0, s, k⟩ => ⟨G0, H0, s, fun vs G1 H1 g1 o1 q1 => ⟨y, hy, G1, o1.gh, hA vs G1 q1, fun v G' H' st q => k v G' H' (g1.step st) (o1.step st) q⟩⟩
end
section
variable {P : Program} {w : World} {K : PySem.W.Frag} {mg : Str → Option Value} {base : Heap}
theorem k_laterd (T : Txt K mg) : FGd P w K mg base 12 "later_case" [.bl false] (Px LcOk (fun y => [vLn K y.l, vLn K y.m, vB y.wh]) (fun y => vEx (Told2 y) (vOptC K))) := by
  obtain ⟨fd, F, ok⟩ := fn_later (P := P) (w := w) (base := base) T
  obtain ⟨ds, hd, hb⟩ := F.binds0 (ps := p_later_case) 2 (by simp) rfl fun D doc pm an cdv ct us ks h1 h2 => match us, h1, ks, h2 with | [_, _], _, [_], _ => ⟨_, _, _, _, _, _, rfl, rfl, rfl⟩
  exact ⟨_, fd, _, ds, ok, T.g_later_case, F.kp, hb, hd⟩
end
/-! ### a def that changes a thing of its caller, no repr under way -/
section
variable {P : Program} {w : World} {K : PySem.W.Frag} {mg : Str → Option Value} {base : Heap} {x qual : Str} {params : Arguments} {body : List Stmt} {scope : Scope} {dvs : List V} {kws : List (Str × V)} {f : Addr} {fd : FuncData} {N ps : List Str} {k : Nat} {α : Type} {φ : α → Prop} {A : α → Addr → List VP} {R0 R1 : α → OP} {R : α → VP}
theorem fng_pm (F : FunD K x qual params body scope dvs kws f fd) (S : FnScope N ps scope) (hl : ∀ y a, φ y → (A y a).length = ps.length)
    (hb : ∀ (cdv : Value) (Ar : Around) (outer : List Env) (s : Shared) (H0 H : Hp) (E : XK) (y : α) (a : Addr) (G : Hp) (Q : VK) (σ : L2.St), Room k (Ar.deeper (envOfC qual scope s.heap.objs.size f cdv)) → Calm Ar → φ y → Sat G H0 (stC N (A y a)) [(a, R0 y)] σ H →
      (∀ Γ' σ' v G' H', Grow G H0 G' H' → Ok H0 Γ' [(a, R1 y)] σ' G' H' → (R y).p v G' → Q v H') → wpS (bodyX P w K mg base N qual scope f cdv Ar outer s H E) body { nx := fun _ H' => Q .non H', rt := Q } σ H) : FnG P w K mg base (k + 1) f fd ps (Pm φ A R0 R1 R) := by
  refine fng F S (fun vs H Q E h => ?_) (fun cdv Ar outer s H vs Q E hr hc h => ?_)
  · obtain ⟨y, a, G, hy, q, _⟩ := h
    rw [← Paired.length q]; exact hl y a hy
  · obtain ⟨y, a, G, hy, q, sm, hGa, ⟨u, hu, hr0⟩, kk⟩ := h
    have s1 : Same G (rmv H a) := fun b o e => by
      rw [rmv_ne (ne_of_none e hGa)]; exact sm _ _ e
    refine hb cdv Ar outer s (rmv H a) H E y a G Q _ hr hc hy ⟨G, ⟨Same.refl _, rmv_sub, fun _ _ _ n => n⟩, ?_⟩ ?_
    · have o := start_ok (N := N) (A := A y a) (vs := vs) (H0 := rmv H a) sm q
      refine ⟨o.gh, o.len, o.im, fun r hr => ?_, by simp⟩
      have e := List.mem_singleton.mp hr
      subst e
      exact ⟨rmv_self, hGa, u, hu, hr0⟩
    · intro Γ' σ' v G' H' g o hv
      obtain ⟨_, h1, u', h2, h3⟩ := o.ow _ List.mem_cons_self
      exact kk v G' H' g o.gh h1 ⟨u', h2, h3⟩ hv
/-- such a call with a new thing -/
theorem eg_callNew {X : Cx} {Γ : Cn} {Ω : Om} {pos p : Pos} {e : Expr} {x : Str} {k j : Nat} (F : FGG X.prog X.w X.K X.mg X.base j x (Pm φ A R0 R1 R)) (hr : Room k X.A) (hc : Calm X.A) (hk : j ≤ k) (y : α) (hy : φ y) (hA : ∀ a, A y a = [vR a]) (he : NG X Γ Ω e (R0 y)) (hg : Gl X x := by rfl)
    (hdb : (x == ("__debug__" : Str)) = false := by decide) (hs : starEach [e] X.env = (false, eval e X.env) :: starEach [] X.env := by rfl) (hpl : (backTo pos (starEach [] X.env)).any (·.1) = false := by rfl) : EG X Γ Ω (.Call (.Name x p) [e] [] pos) (R y) :=
  weak (pe_callG2 F hr hc hk (pa_cons he pa_nil hs) hg hdb hs hpl) fun σ H Q ⟨G0, H0, s, k⟩ => ⟨G0, H0, s, fun a G1 H1 g1 o1 => pm_out (E := E0) (i := 0) g1 o1 hy rfl (by rw [hA]; exact .cons rfl .nil) fun v G H' g o q => k v G H' g (o.sub (List.sublist_cons_self _ _)) q⟩
end
end Ow
namespace Ow
open PySem PySem.Spec PyProof.Rows L2 He
/-! ### one line against another -/
section
variable {P : Program} {w : World} {K : PySem.W.Frag} {mg : Str → Option Value} {base : Heap}
theorem lc_of {p m : Pl} (okp : PlanOk 3 5 p) (okm : PlanOk 4 6 m) (wide : Bool) : LcOk ⟨p.l, m.l, wide⟩ ∧ LcOk ⟨m.l, p.l, wide⟩ :=
  have w1 := plan_wln okp (by omega) (by omega) (by omega)
  have w2 := plan_wln okm (by omega) (by omega) (by omega)
  have w3 := plan_width okp (by omega)
  ⟨⟨w1, w2, plan_ahead okp, plan_ahead okm, .inl w3⟩, ⟨w2, w1, plan_ahead okm, plan_ahead okp, .inr w3⟩⟩
theorem fit_of {y : LcY} {p m : Pl} (o : LcOk ⟨p.l, m.l, y.wh⟩) (hl : y.l = p.l) (hm : y.m = m.l) {told : Option Case} (h : Told2 y told) : FitOk ⟨p, m, told, y.wh⟩ := by
  obtain ⟨l, m', wh⟩ := y
  subst hl hm
  exact ⟨⟨o.l.ok, o.al, o.m.ok, o.am⟩, h.1, h.2⟩
theorem g_law_right (T : Txt K mg) : FGG P w K mg base 13 "_law_right" (Pm (fun _ : Unit => True) (fun _ a => [vR a]) (fun _ => oPu) (fun _ => oPu) (fun _ => vB true)) := by
  obtain ⟨fd, F⟩ := T.d_law_right
  refine ⟨_, fd, p_law_right, fng_pm F sc_law_right (fun _ _ _ => rfl) ?_, T.g_law_right, F.kp, F.bindsN fun _ _ _ _ _ _ us hl => match us, hl with | [_], _ => rfl⟩
  rintro cdv Ar outer s0 H0 H1 EE _ a G Q σ hr hc _ hs kk0
  have hs : Sat G H0 [some (vR a), none, none, none, none, none] [(a, oPu)] σ H1 := hs
  refine s_set hs 1 (eg_callS (g_law_plan T) hr (by omega) () trivial 0 rfl rfl (ag_cons (eg_var (i := 0) rfl rfl) (ag_cons eg_int (ag_cons eg_int ag_nil)))) (fun σ H hs => ?_) sc_law_right.nd
  obtain ⟨p, okp, hs⟩ := hs.ex 1 rfl
  replace okp : PlanOk 3 5 p := okp
  refine s_set hs 2 (eg_callS (g_law_kin T) hr (by omega) p okp 0 rfl rfl (ag_cons (eg_var (i := 0) rfl rfl) (ag_cons (eg_var (i := 1) rfl rfl) ag_nil))) (fun σ H hs => ?_) sc_law_right.nd
  obtain ⟨m, okm, hs⟩ := hs.ex 2 rfl
  replace okm : PlanOk 4 6 m := okm
  have hs : Sat G H0 [some (vR a), some (vPlan K p), some (vPlan K m), none, none, none] [(a, oPu)] σ H := hs
  have lp : LnOk p.l := lnOk_of okp (by omega) (by omega)
  have lm : LnOk m.l := lnOk_of okm (by omega) (by omega)
  refine s_par hs (P1 := vLn K p.l) (P2 := vLn K m.l) (i := 3) (j := 4) (ag_cons (eg_call (g_law_line T) hr (by omega) p lp (ag_cons (eg_var (i := 1) rfl rfl) ag_nil)) (ag_cons (eg_call (g_law_line T) hr (by omega) m lm (ag_cons (eg_var (i := 2) rfl rfl) ag_nil)) ag_nil)) (fun σ H hs => ?_) sc_law_right.nd rfl rfl
  have hs : Sat G H0 [some (vR a), some (vPlan K p), some (vPlan K m), some (vLn K p.l), some (vLn K m.l), none] [(a, oPu)] σ H := hs
  refine s_for (γ := Unit) hs (ig_list (xs := [false, true]) (F := vB) (eg_lst (ag_cons eg_bl (ag_cons eg_bl ag_nil)))) (fun _ _ => [some (vR a), some (vPlan K p), some (vPlan K m), some (vLn K p.l), some (vLn K m.l), none]) (fun _ _ => [(a, oPu)])
    (fun _ _ => True) (fun _ _ wide => [some (vR a), some (vPlan K p), some (vPlan K m), some (vLn K p.l), some (vLn K m.l), some (vB wide)]) [5]
    (fun G1 σ H h => ⟨(), trivial, h⟩) (fun _ _ _ _ _ => gt_name 5 sc_law_right.nd) ?_ ?_
  · rintro G1 gg i _ wide hx _ σ H hs
    obtain ⟨o1, o2⟩ := lc_of okp okm wide
    refine s_skip hs (tg_not (tg_val (eg_callGE (As := [vPlan K p, vPlan K m, vEx (Told2 ⟨p.l, m.l, wide⟩) (vOptC K), vB wide]) (P' := vB true) (g_law_fits T) hr hc (by omega) (ag_cons (eg_var (i := 1) rfl rfl) (ag_cons (eg_var (i := 2) rfl rfl) (ag_cons (eg_callKW (As := [vLn K p.l, vLn K m.l]) (Zs := [vB wide]) (k_later2 T) hr (by omega) ⟨p.l, m.l, wide⟩ o1 (ag_cons (eg_var (i := 3) rfl rfl) (ag_cons (eg_var (i := 4) rfl rfl) ag_nil)) (kg_cons (eg_var (i := 5) rfl rfl) kg_nil) rfl rfl (fun vs zs G q r => PV.append q r)) (ag_cons (eg_var (i := 5) rfl rfl) ag_nil)))) (fun vs G q => ?_)))) rfl fun H hs => ?_
    · match vs, q with
      | _, .cons q1 (.cons q2 (.cons ⟨told, ht, q3⟩ (.cons q4 .nil))) => exact ⟨⟨p, m, told, wide⟩, fit_of o1 rfl rfl ht, .cons q1 (.cons q2 (.cons q3 (.cons q4 .nil))), fun _ _ q => q⟩
    · refine s_skip hs (tg_not (tg_val (eg_callGE (As := [vPlan K m, vPlan K p, vEx (Told2 ⟨m.l, p.l, wide⟩) (vOptC K), vB wide]) (P' := vB true) (g_law_fits T) hr hc (by omega) (ag_cons (eg_var (i := 2) rfl rfl) (ag_cons (eg_var (i := 1) rfl rfl) (ag_cons (eg_callKW0 (Zs := [vB wide, vLn K p.l, vLn K m.l]) (k_later0 T) hr (by omega) ⟨m.l, p.l, wide⟩ o2 (kg_cons (eg_var (i := 5) rfl rfl) (kg_cons (eg_var (i := 3) rfl rfl) (kg_cons (eg_var (i := 4) rfl rfl) kg_nil))) rfl (fun zs G r => PV.reverse r)) (ag_cons (eg_var (i := 5) rfl rfl) ag_nil)))) (fun vs G q => ?_)))) rfl fun H hs => ?_
      · match vs, q with
        | _, .cons q1 (.cons q2 (.cons ⟨told, ht, q3⟩ (.cons q4 .nil))) => exact ⟨⟨m, p, told, wide⟩, fit_of o2 rfl rfl ht, .cons q1 (.cons q2 (.cons q3 (.cons q4 .nil))), fun _ _ q => q⟩
      · exact wp_nil ⟨(), trivial, hs.drop 5⟩
  · rintro _ _ σ H hs
    have hs : Sat G H0 [some (vR a), some (vPlan K p), some (vPlan K m), some (vLn K p.l), some (vLn K m.l), none] [(a, oPu)] σ H := hs
    obtain ⟨o1, _⟩ := lc_of okp okm false
    have sm : ∀ o, Told2 ⟨p.l, m.l, false⟩ o → ∀ c, o = some c → Small c := fun o h c e => small_of lp (h.1.some c e).1 (h.2 c e)
    have hcmp : RG rEq (vEx (Told2 ⟨p.l, m.l, false⟩) fun o => vS (repC o)) (vEx (Told2 ⟨p.l, m.l, false⟩) fun o => vS (repC o)) (vB true) := rg_exL fun r h1 => rg_exR fun s h2 => by
      have e := told_same h1.1 h2.1
      subst e
      refine rg_to (rg_eq rfl) fun v G q => ?_
      have q' : v = V.bl (decide (V.str (repC r) = V.str (repC r))) := q
      rw [q', decide_eq_true rfl]; rfl
    refine s_retS hs (eg_cmp op_eq hcmp (eg_reprE sm hr hc T.f_repr (eg_callD (As := [vLn K p.l, vLn K m.l]) (k_laterd T) hr (by omega) ⟨p.l, m.l, false⟩ o1 (ag_cons (eg_var (i := 3) rfl rfl) (ag_cons (eg_var (i := 4) rfl rfl) ag_nil)) (fun vs G q => PV.append q (.cons rfl .nil)))) (eg_reprE sm hr hc T.f_repr (eg_callKW (As := [vLn K p.l, vLn K m.l]) (Zs := [vB false]) (k_later2 T) hr (by omega) ⟨p.l, m.l, false⟩ o1 (ag_cons (eg_var (i := 3) rfl rfl) (ag_cons (eg_var (i := 4) rfl rfl) ag_nil)) (kg_cons eg_bl kg_nil) rfl rfl (fun vs zs G q r => PV.append q r))) rfl) fun v G' H' g o q => kk0 _ _ v G' H' g o q
end
end Ow
namespace Ow
open PySem PySem.Spec PyProof.Rows L2 He
/-! ### the script -/
theorem SqL.same {K : PySem.W.Frag} {H H' : Hp} {a : Addr} {xs : List V} (e : Same H H') (h : SqL K H a xs) : SqL K H' a xs := by
  rcases h with (h | ⟨o, h⟩) | h
  · exact .inl (.inl (e _ _ h))
  · exact .inl (.inr ⟨o, e _ _ h⟩)
  · exact .inr h
def vSL (K : PySem.W.Frag) (ns : List Int) : VP := ⟨fun v H => ∃ a, v = .ref a ∧ SqL K H a (ns.map V.int), fun s ⟨a, e, h⟩ => ⟨a, e, SqL.same s h⟩⟩
theorem pv_ints (ns : List Int) (G : Hp) : PV (ns.map vI) (ns.map V.int) G := by
  induction ns with
  | nil => exact .nil
  | cons n ns ih => exact .cons rfl ih
theorem cutG_le {α : Type} (xs : List α) (i j : Option Int) : (cutG xs i j).length ≤ xs.length := by
  unfold cutG
  rw [List.length_take, List.length_drop]; omega
section
variable {X : Cx} {Γ : Cn} {Ω : Om} {e a b : Expr} {lo hi : Option Expr} {i j : Option Int} {ns : List Int} {p p2 pos : Pos}
theorem eg_slS (he : EG X Γ Ω e (vSL X.K ns)) (hl : OG X Γ Ω lo i) (hh : OG X Γ Ω hi j) : EG X Γ Ω (.Subscript e (.Slice lo hi none p2) pos) (vL ((cutG ns i j).map vI)) :=
  weak (pe_slice sl_list he hl hh) fun σ H Q ⟨G0, H0, s, k⟩ => ⟨G0, H0, s, fun x G1 H1 g1 o1 ⟨a, e1, ha⟩ => ⟨G1, H0, ⟨G1, g1.self, o1⟩, fun G2 H2 g2 o2 => ⟨G2, H0, ⟨G2, g2.self, o2⟩, fun G3 H3 g3 o3 => ⟨a, ns.map V.int, e1, SqL.same o3.gh (SqL.same g3.g (SqL.same g2.g ha)), fun p hp => by
    have st := Step.new (o := .lst (cutV (ns.map V.int) i j)) o3.gh hp
    refine k _ _ _ (((g1.trans g2).trans g3).step st) (o3.step st) ⟨p, _, rfl, upd_same, ?_⟩
    rw [← cutG_map]
    exact cutG_pv (pv_ints ns _)⟩⟩⟩⟩
theorem eg_lenQ (hm : X.mg "len" = none) (he : EG X Γ Ω e (vSL X.K ns)) (hg : Gl X "len" := by rfl) (h1 : starEach [e] X.env = (false, eval e X.env) :: starEach [] X.env := by rfl) (h3 : (backTo pos (starEach [] X.env)).any (·.1) = false := by rfl) : EG X Γ Ω (.Call (.Name "len" p) [e] [] pos) (vI ns.length) :=
  eg_len hm (fun vs G H Q sm q k => by
    cases q with
    | cons q t =>
      cases t
      obtain ⟨a, rfl, ha⟩ := q
      exact ⟨.ref a, ns.length, rfl, .inl ⟨_, SqL.same sm ha, by rw [List.length_map]⟩, k _ _ _ (Step.refl sm) rfl⟩) he hg h1 h3
theorem atI_nat {α : Type} {xs : List α} {m : Nat} {x : α} (h : xs[m]? = some x) : atI xs ((m : Nat) : Int) = some x := by
  have hl := lt_of_some h
  unfold atI ixN
  rw [if_pos (by omega), if_pos (by omega)]
  exact h
theorem gIxQ {m : Nat} {x : Int} (h : ns[m]? = some x) (ha : EG X Γ Ω a (vSL X.K ns)) (hb : EG X Γ Ω b (vIn m)) (hs : PlainIx b := by exact fun _ _ => rfl) : EG X Γ Ω (.Subscript a b pos) (vI x) := eg_ix ix_list (by
  rintro _ _ G H Q sm ⟨a, rfl, ha⟩ rfl k
  refine ⟨a, ns.map V.int, m, V.int x, rfl, rfl, SqL.same sm ha, ?_, k _ G H (Step.refl sm) rfl⟩
  exact atI_nat (by rw [List.getElem?_map, h]; rfl)) ha hb hs
end
structure PuY where
  ns : List Int
  s : Nat
section
variable {P : Program} {w : World} {K : PySem.W.Frag} {mg : Str → Option Value} {base : Heap}
theorem g_law_purl (T : Txt K mg) : FGn P w K mg base 1 "_law_purl" (fun y : PuY => y.ns.length ≤ 63 ∧ y.s ≤ 1) (fun y => [vSL K y.ns, vIn y.s]) (fun _ (_ : Int × Int) => True) (fun q => oL [vI q.1, vI q.2]) := by
  refine fgn T.d_law_purl T.g_law_purl sc_law_purl (fun _ _ => rfl) (fun _ _ _ _ _ _ us hl => match us, hl with | [_, _], _ => rfl) ?_
  rintro cdv Ar outer s0 H0 EE ⟨ns, s⟩ G Q σ hr ⟨hl, hs1⟩ hs kk0
  replace hl : ns.length ≤ 63 := hl
  replace hs1 : s ≤ 1 := hs1
  have hsz : 200 ≤ sizeLine := by rw [sizeLine_eq]; decide
  have hs : Sat G H0 [some (vSL K ns), some (vIn s), none, none, none] [] σ H0 := hs
  refine s_set hs 2 (gAdd eg_int (gMul (.inl ⟨by decide, by decide⟩) eg_int (eg_var (P := vIn s) (i := 1) rfl rfl))) (fun σ H hs => ?_) sc_law_purl.nd
  have hs : Sat G H0 [some (vSL K ns), some (vIn s), some (vI (7919 + 31 * (s : Int))), none, none] [] σ H := hs
  have l1 := cutG_le ns none (some 3)
  have l2 := cutG_le ns (some (s : Int)) (some ((s : Int) + 1))
  refine s_for (γ := Int) hs (ig_list (xs := cutG ns none (some 3) ++ cutG ns (some (s : Int)) (some ((s : Int) + 1))) (F := vI) (by
      rw [List.map_append]
      exact eg_op op_cat (rg_cat (by rw [List.length_map, List.length_map]; omega)) (eg_slS (eg_var (i := 0) rfl rfl) og_none (og_some eg_int)) (eg_slS (eg_var (i := 0) rfl rfl) (og_some (eg_var (P := vIn s) (i := 1) rfl rfl)) (og_some (gAdd (eg_var (P := vIn s) (i := 1) rfl rfl) eg_int)))))
    (fun _ z => [some (vSL K ns), some (vIn s), some (vI z), none, none]) (fun _ _ => []) (fun _ _ => True) (fun _ z c => [some (vSL K ns), some (vIn s), some (vI z), some (vI c), none]) [3]
    (fun G1 σ H h => ⟨_, trivial, h⟩) (fun _ _ _ _ _ => gt_name 3 sc_law_purl.nd) ?_ ?_
  · rintro G1 gg i z c hx _ σ H hs
    refine s_set hs 2 (gMod (by decide) (eg_int1 T.f_int (gAdd (gAdd (gMul (.inr ⟨by decide, by decide⟩) (eg_var (P := vI z) (i := 2) rfl rfl) eg_int) (eg_var (P := vI c) (i := 3) rfl rfl)) eg_int)) eg_int) (fun σ H hs => wp_nil ⟨_, trivial, hs.drop 3⟩) sc_law_purl.nd
  · rintro z _ σ H hs
    have hs : Sat G H0 [some (vSL K ns), some (vIn s), some (vI z), none, none] [] σ H := hs
    refine s_set hs 4 (P := vI (ns.getD s 0)) (eg_ifExp (tLt (eg_var (P := vIn s) (i := 1) rfl rfl) (eg_lenQ T.f_len (eg_var (i := 0) rfl rfl))) (fun h => ?_) (fun h => EG.cast (P := vI 0) eg_int ?_)) (fun σ H hs => ?_) sc_law_purl.nd
    · have h' := of_decide_eq_true h
      have h2 : s < ns.length := by omega
      refine gIxQ (m := s) ?_ (eg_var (i := 0) rfl rfl) (eg_var (i := 1) rfl rfl)
      rw [List.getD_eq_getElem?_getD, List.getElem?_eq_getElem h2]; rfl
    · have h' := of_decide_eq_false h
      rw [List.getD_eq_getElem?_getD, List.getElem?_eq_none (by omega)]; rfl
    · generalize ns.getD s 0 = own at hs
      have hs : Sat G H0 [some (vSL K ns), some (vIn s), some (vI z), none, some (vI own)] [] σ H := hs
      refine s_retF hs (ng_lst (ag_cons (eg_var (P := vI z) (i := 2) rfl rfl) (ag_cons (eg_ifExp (P := vI (if decide ((10 : Int) ^ 18 ≤ (if own < 0 then -own else own)) = true then (if own < 0 then -own else own) else 0)) (tGe (j := (10 : Int) ^ (18 : Int).toNat) (eg_abs T.f_abs (eg_var (P := vI own) (i := 4) rfl rfl)) (eg_op op_pow (rg_I ⟨by decide, by decide, by decide⟩) eg_int eg_int)) (fun h => EG.cast (P := vI (if own < 0 then -own else own)) (eg_abs T.f_abs (eg_var (P := vI own) (i := 4) rfl rfl)) ?_) (fun h => EG.cast (P := vI 0) eg_int ?_)) ag_nil))) fun a G' H' g o => kk0 (z, _) _ _ a G' H' trivial g o
      · have h' : decide ((10 : Int) ^ 18 ≤ (if own < 0 then -own else own)) = true := h
        rw [if_pos h']
      · have h' : decide ((10 : Int) ^ 18 ≤ (if own < 0 then -own else own)) = false := h
        rw [h']; rfl
end
end Ow
namespace Ow
open PySem PySem.Spec PyProof.Rows L2 He
/-! ### the law -/
def spTop (K : PySem.W.Frag) : Sp := fun vs H Q _ => ∃ (a : Addr) (ns : List Int), vs = [.ref a] ∧ SqL K H a (ns.map V.int) ∧ ns.length ≤ 63 ∧ (∀ z ∈ ns, Builtin.Int.intBits z ≤ 1048576) ∧ L2.Only H ∧ ∀ H', Q (.bl true) H'
section
variable {P : Program} {w : World} {K : PySem.W.Frag} {mg : Str → Option Value}
theorem law_ok (T : Txt K mg) : ∃ fd : FuncData, (∀ (s : Shared) (u : Value), BindsTo s fd ⟨[u], []⟩ [("_law_script", u)]) ∧ ∀ base : Heap, FnG P w K mg base 30 (ga K "law") fd ["_law_script"] (spTop K) := by
  obtain ⟨fd, F⟩ := T.d_law
  refine ⟨fd, fun s u => F.bindsA (ps := p_law) (fun _ _ _ _ _ _ us hl => match us, hl with | [_], _ => rfl) s [u] rfl, fun base => fng F sc_law (fun vs H Q E h => ?_) (fun cdv Ar outer s H vs Q E hr hc h => ?_)⟩
  · obtain ⟨a, ns, rfl, _⟩ := h; rfl
  · obtain ⟨a, ns, rfl, hS, hl, _, _, kk⟩ := h
    have hsz := small30
    have hs : Sat H H [some (vSL K ns), none] [] (L2.start n_law [.ref a]) H := ⟨H, Grow.refl, start_ok (N := n_law) (A := [vSL K ns]) (Same.refl H) (.cons ⟨a, rfl, hS⟩ .nil)⟩
    refine s_ret (P := vB true) hs (EG.cast (P := vB ((((upTo 0 2).filter (fun _ => true)).map (fun _ => true)).all id)) (eg_all T.f_all (EG.cast (eg_lc n_law (defScope s_law) [("_law_spot", 1)] (t := fun _ => true) (R := fun _ : Int => vB true) (fun kk => [some (vSL K ns), some (vI kk)]) [1] (ig_range1 (n := (2 : Int)) (ag_cons eg_int ag_nil) ⟨by omega, by omega⟩ T.f_range) (by rw [ints_length]; omega)
      (fun _ _ _ _ _ q _ => gt_name 1 sc_law.nd) (fun _ _ _ _ _ q _ => pts_yes) (fun _ _ _ _ _ kk hk _ => ?_) sc_law.nd) ?_)) ?_) fun v G' H' st q => ?_
    · obtain ⟨k1, k2⟩ := upTo_mem hk
      refine eg_callNew (g_law_right T) hr hc (by omega) () trivial (fun _ => rfl) (ng_call (g_law_purl T) hr (by omega) ⟨ns, kk.toNat⟩ ⟨hl, by show kk.toNat ≤ 1; omega⟩ (ag_cons (eg_var (i := 0) rfl rfl) (ag_cons (EG.cast (P := vI kk) (eg_var (i := 1) rfl rfl) ?_) ag_nil)))
      show vI kk = vI ((kk.toNat : Nat) : Int)
      rw [Int.toNat_of_nonneg k1]
    · rw [List.map_map]; rfl
    · rfl
    · have e : v = V.bl true := q
      subst e
      exact kk H'
end
end Ow
namespace Ow
open PySem PySem.Spec PyProof.Rows L2 He
theorem walk_end {l : PySem.W.OpenLaw} {q : Program} {loose : List Str} {XP : (Str → Option Value) → Heap → Prop} {d : DefRec} (hn : l.most = some 63) (hdf : d.params.defaults = []) (hnm : d.name = "law") :
    PySem.W.WalkO q loose XP hk.says l.row.toRowW d [] (fun f vs => PySem.call f vs) := by
  refine Att.attach_callB hn hdf fun w s₀ s₁ mg mb fa o pm cd doc a vs ns G Y ho hd hcd hmg hobj hints hlen hbits hg => ?_
  obtain ⟨K, KX, hK⟩ := Y
  have T : Txt K mg := ⟨⟨_, KX, G.T.g⟩, hK⟩
  obtain ⟨fd, hb, hF⟩ := law_ok (P := l.prog) (w := w) T
  have e := hmg
  rw [hnm, T.g_law] at e
  cases e
  exact law_callG (k := 30) (sp := spTop K) KX G.T.g G.T.b G.T.builtins G.T.nolimit hg hobj hints (Nat.le_trans hlen (by decide)) ⟨rfl, by decide, by decide⟩ hF hb (fun H hO hS => ⟨a, ns, rfl, hS, hlen, hbits, hO, fun _ => rfl⟩)
end Ow
open PySem PySem.W PySem.Calls PyProof.Rows
theorem PySem.Challenge.cw_owntimes_k32_whole_least_cases_by_trying_holds : PySem.Challenge.rw_owntimes_k32_whole_least_cases_by_trying.Holds := by
  w_on; o_law
  refine HandSHeadRun.head_any (r := OpenLaw.row PySem.Challenge.rw_owntimes_k32_whole_least_cases_by_trying) (q := view (OpenLaw.row PySem.Challenge.rw_owntimes_k32_whole_least_cases_by_trying).prog [121]) (H := Ow.hk) (ob := Ow.ob) (M := 30000) (loose := Ow.hnames) (d := HandSHeadRun.topDef (OpenLaw.row PySem.Challenge.rw_owntimes_k32_whole_least_cases_by_trying).prog 121) (kwd := []) Ow.ob_eq
    (by kernel_rfl) (fun s => by kernel_rfl) Ow.head_run (by kernel_rfl) (by kernel_rfl) (by kernel_rfl) (by rfl) (by first | assumption | decide +kernel) (by decide +kernel) ⟨rfl, rfl, rfl, rfl, rfl, by decide +kernel⟩ ?hw ?hc
  case hw => w_witness2
  case hc => exact Ow.walk_end rfl (by kernel_rfl) (by kernel_rfl)
