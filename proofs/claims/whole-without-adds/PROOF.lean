import PyProof.Rows.All
import Wide.All
import OpenK.AllK
import Wide.FinOn
import KE.KStateDown
import HandS.ForMost
import HandS.More
import HandS.Defaults
import HandS.Head0
import HandS.Head1
import HandS.Head2
import HandS.HeadEnd
import HandS.HeadHook1
import HandS.HeadHook2
import HandS.ClsMeth
import KE.KSuper
import KE.GoesEnum
import HandS.Strs
import HandS.SetFor
import HandS.TupSets
import HandS.SortOrd
import HandS.SortRule
import HandS.Zip
import HandS.Conv
import HandS.DictComp
import HandS.IsInst
import HandS.TupAny
import HandS.Evl
import PySem.Challenge.RW_hiddenforks_k44_whole_without_adds
set_option Elab.async false
set_option linter.all false
set_option maxRecDepth 100000
set_option maxHeartbeats 4000000
namespace HF
open PySem PySem.Spec PyProof.Rows L2
abbrev PP : Program := PySem.Challenge.pw_hiddenforks_k44_whole_without_adds
def top (i : Nat) : Stmt := PySem.Challenge.pw_hiddenforks_k44_whole_without_adds.main.body.getD i (.Pass ⟨0, 0, 0, 0⟩)
abbrev s_as_tuples : Stmt := top 2
abbrev s_events_of : Stmt := top 11
abbrev s_looks : Stmt := top 12
abbrev s_adds : Stmt := top 13
abbrev s_B_init : Stmt := inClass (top 17) 0
abbrev s_B_many : Stmt := inClass (top 17) 1
abbrev s_B_is_alike : Stmt := inClass (top 17) 2
abbrev s_B_is_below : Stmt := inClass (top 17) 3
abbrev s_B_has : Stmt := inClass (top 17) 4
abbrev s_B_bind : Stmt := inClass (top 17) 6
abbrev s_B_lower : Stmt := inClass (top 17) 7
abbrev s_B_go_through : Stmt := inClass (top 17) 8
abbrev s_B_looked : Stmt := inClass (top 17) 9
abbrev s_B_compared : Stmt := inClass (top 17) 10
abbrev s_B_is_late : Stmt := inClass (top 17) 11
abbrev s_B_close : Stmt := inClass (top 17) 12
abbrev s_B_rules : Stmt := inClass (top 17) 13
abbrev s_B_newest : Stmt := inClass (top 17) 14
abbrev s_B_before : Stmt := inClass (top 17) 15
abbrev s_check_look : Stmt := top 18
abbrev s_P_init : Stmt := inClass (top 20) 0
abbrev s_P_everything : Stmt := inClass (top 20) 1
abbrev s_P_last_add : Stmt := inClass (top 20) 2
abbrev s_P_stops : Stmt := inClass (top 20) 3
abbrev s_P_is_first : Stmt := inClass (top 20) 4
abbrev s_P_parts : Stmt := inClass (top 20) 5
abbrev s_P_firsts : Stmt := inClass (top 20) 6
abbrev s_P_stuck : Stmt := inClass (top 20) 7
abbrev s_K_init : Stmt := inClass (top 25) 0
abbrev s_K_stops : Stmt := inClass (top 25) 1
abbrev s_K_is_fine : Stmt := inClass (top 25) 2
abbrev s_A_init : Stmt := inClass (top 26) 0
abbrev s_A_numbers : Stmt := inClass (top 26) 1
abbrev s_A_sets : Stmt := inClass (top 26) 2
abbrev s_A_is_possible : Stmt := inClass (top 26) 3
abbrev s_A_part_of : Stmt := inClass (top 26) 4
abbrev s_A_cut : Stmt := inClass (top 26) 5
abbrev s_A_people : Stmt := inClass (top 26) 6
abbrev s_check_people : Stmt := top 27
abbrev s_branch : Stmt := top 28
abbrev s_kept_people : Stmt := top 29
abbrev s_kept_from : Stmt := top 30
abbrev s_way_of : Stmt := top 31
abbrev s_keep_way : Stmt := top 32
abbrev s_audiences : Stmt := top 33
abbrev s_law_lean : Stmt := top 35
abbrev s_law_take : Stmt := top 36
abbrev s_law_event : Stmt := top 37
abbrev s_law_table : Stmt := top 38
abbrev s_law_live : Stmt := top 39
abbrev s_law_same : Stmt := top 40
abbrev s_law_box : Stmt := top 41
abbrev s_law_heard : Stmt := top 42
abbrev s_law_right : Stmt := top 43
abbrev s_law : Stmt := top 44
def d_as_tuples : He.DefD := ⟨("as_tuples", none), "as_tuples", "as_tuples", defArgs s_as_tuples, defBody s_as_tuples, defScope s_as_tuples, [], []⟩
def d_events_of : He.DefD := ⟨("events_of", none), "events_of", "events_of", defArgs s_events_of, defBody s_events_of, defScope s_events_of, [], []⟩
def d_looks : He.DefD := ⟨("looks", none), "looks", "looks", defArgs s_looks, defBody s_looks, defScope s_looks, [], []⟩
def d_adds : He.DefD := ⟨("adds", none), "adds", "adds", defArgs s_adds, defBody s_adds, defScope s_adds, [], []⟩
def d_B_init : He.DefD := ⟨("Bonds", (some "__init__")), "__init__", "Bonds.__init__", defArgs s_B_init, defBody s_B_init, defScope s_B_init, [.adr (He.dflAt ("Bonds", (some "__init__")) 0), .adr (He.dflAt ("Bonds", (some "__init__")) 1)], []⟩
def d_B_many : He.DefD := ⟨("Bonds", (some "many")), "many", "Bonds.many", defArgs s_B_many, defBody s_B_many, defScope s_B_many, [], []⟩
def d_B_is_alike : He.DefD := ⟨("Bonds", (some "is_alike")), "is_alike", "Bonds.is_alike", defArgs s_B_is_alike, defBody s_B_is_alike, defScope s_B_is_alike, [], []⟩
def d_B_is_below : He.DefD := ⟨("Bonds", (some "is_below")), "is_below", "Bonds.is_below", defArgs s_B_is_below, defBody s_B_is_below, defScope s_B_is_below, [], []⟩
def d_B_has : He.DefD := ⟨("Bonds", (some "has")), "has", "Bonds.has", defArgs s_B_has, defBody s_B_has, defScope s_B_has, [], []⟩
def d_B_bind : He.DefD := ⟨("Bonds", (some "bind")), "bind", "Bonds.bind", defArgs s_B_bind, defBody s_B_bind, defScope s_B_bind, [.adr (He.dflAt ("Bonds", (some "bind")) 0)], []⟩
def d_B_lower : He.DefD := ⟨("Bonds", (some "lower")), "lower", "Bonds.lower", defArgs s_B_lower, defBody s_B_lower, defScope s_B_lower, [.adr (He.dflAt ("Bonds", (some "lower")) 0)], []⟩
def d_B_go_through : He.DefD := ⟨("Bonds", (some "go_through")), "go_through", "Bonds.go_through", defArgs s_B_go_through, defBody s_B_go_through, defScope s_B_go_through, [], []⟩
def d_B_looked : He.DefD := ⟨("Bonds", (some "looked")), "looked", "Bonds.looked", defArgs s_B_looked, defBody s_B_looked, defScope s_B_looked, [], []⟩
def d_B_compared : He.DefD := ⟨("Bonds", (some "compared")), "compared", "Bonds.compared", defArgs s_B_compared, defBody s_B_compared, defScope s_B_compared, [], []⟩
def d_B_is_late : He.DefD := ⟨("Bonds", (some "is_late")), "is_late", "Bonds.is_late", defArgs s_B_is_late, defBody s_B_is_late, defScope s_B_is_late, [], []⟩
def d_B_close : He.DefD := ⟨("Bonds", (some "close")), "close", "Bonds.close", defArgs s_B_close, defBody s_B_close, defScope s_B_close, [], []⟩
def d_B_rules : He.DefD := ⟨("Bonds", (some "rules")), "rules", "Bonds.rules", defArgs s_B_rules, defBody s_B_rules, defScope s_B_rules, [], []⟩
def d_B_newest : He.DefD := ⟨("Bonds", (some "newest")), "newest", "Bonds.newest", defArgs s_B_newest, defBody s_B_newest, defScope s_B_newest, [], []⟩
def d_B_before : He.DefD := ⟨("Bonds", (some "before")), "before", "Bonds.before", defArgs s_B_before, defBody s_B_before, defScope s_B_before, [], []⟩
def d_check_look : He.DefD := ⟨("check_look", none), "check_look", "check_look", defArgs s_check_look, defBody s_check_look, defScope s_check_look, [], []⟩
def d_P_init : He.DefD := ⟨("Peeling", (some "__init__")), "__init__", "Peeling.__init__", defArgs s_P_init, defBody s_P_init, defScope s_P_init, [.adr (He.dflAt ("Peeling", (some "__init__")) 0), .adr (He.dflAt ("Peeling", (some "__init__")) 1)], []⟩
def d_P_everything : He.DefD := ⟨("Keeping", (some "everything")), "everything", "Peeling.everything", defArgs s_P_everything, defBody s_P_everything, defScope s_P_everything, [], []⟩
def d_P_last_add : He.DefD := ⟨("Keeping", (some "last_add")), "last_add", "Peeling.last_add", defArgs s_P_last_add, defBody s_P_last_add, defScope s_P_last_add, [], []⟩
def d_P_stops : He.DefD := ⟨("Peeling", (some "stops")), "stops", "Peeling.stops", defArgs s_P_stops, defBody s_P_stops, defScope s_P_stops, [], []⟩
def d_P_is_first : He.DefD := ⟨("Keeping", (some "is_first")), "is_first", "Peeling.is_first", defArgs s_P_is_first, defBody s_P_is_first, defScope s_P_is_first, [], []⟩
def d_P_parts : He.DefD := ⟨("Keeping", (some "parts")), "parts", "Peeling.parts", defArgs s_P_parts, defBody s_P_parts, defScope s_P_parts, [], []⟩
def d_P_firsts : He.DefD := ⟨("Keeping", (some "firsts")), "firsts", "Peeling.firsts", defArgs s_P_firsts, defBody s_P_firsts, defScope s_P_firsts, [], []⟩
def d_P_stuck : He.DefD := ⟨("Keeping", (some "stuck")), "stuck", "Peeling.stuck", defArgs s_P_stuck, defBody s_P_stuck, defScope s_P_stuck, [], []⟩
def d_K_init : He.DefD := ⟨("Keeping", (some "__init__")), "__init__", "Keeping.__init__", defArgs s_K_init, defBody s_K_init, defScope s_K_init, [.bl false], []⟩
def d_K_stops : He.DefD := ⟨("Keeping", (some "stops")), "stops", "Keeping.stops", defArgs s_K_stops, defBody s_K_stops, defScope s_K_stops, [], []⟩
def d_K_is_fine : He.DefD := ⟨("Keeping", (some "is_fine")), "is_fine", "Keeping.is_fine", defArgs s_K_is_fine, defBody s_K_is_fine, defScope s_K_is_fine, [], []⟩
def d_A_init : He.DefD := ⟨("Audience", (some "__init__")), "__init__", "Audience.__init__", defArgs s_A_init, defBody s_A_init, defScope s_A_init, [], []⟩
def d_A_numbers : He.DefD := ⟨("Audience", (some "numbers")), "numbers", "Audience.numbers", defArgs s_A_numbers, defBody s_A_numbers, defScope s_A_numbers, [], []⟩
def d_A_sets : He.DefD := ⟨("Audience", (some "sets")), "sets", "Audience.sets", defArgs s_A_sets, defBody s_A_sets, defScope s_A_sets, [], []⟩
def d_A_is_possible : He.DefD := ⟨("Audience", (some "is_possible")), "is_possible", "Audience.is_possible", defArgs s_A_is_possible, defBody s_A_is_possible, defScope s_A_is_possible, [], []⟩
def d_A_part_of : He.DefD := ⟨("Audience", (some "part_of")), "part_of", "Audience.part_of", defArgs s_A_part_of, defBody s_A_part_of, defScope s_A_part_of, [], []⟩
def d_A_cut : He.DefD := ⟨("Audience", (some "cut")), "cut", "Audience.cut", defArgs s_A_cut, defBody s_A_cut, defScope s_A_cut, [], []⟩
def d_A_people : He.DefD := ⟨("Audience", (some "people")), "people", "Audience.people", defArgs s_A_people, defBody s_A_people, defScope s_A_people, [], []⟩
def d_check_people : He.DefD := ⟨("check_people", none), "check_people", "check_people", defArgs s_check_people, defBody s_check_people, defScope s_check_people, [], []⟩
def d_branch : He.DefD := ⟨("branch", none), "branch", "branch", defArgs s_branch, defBody s_branch, defScope s_branch, [], []⟩
def d_kept_people : He.DefD := ⟨("kept_people", none), "kept_people", "kept_people", defArgs s_kept_people, defBody s_kept_people, defScope s_kept_people, [], []⟩
def d_kept_from : He.DefD := ⟨("kept_from", none), "kept_from", "kept_from", defArgs s_kept_from, defBody s_kept_from, defScope s_kept_from, [], []⟩
def d_way_of : He.DefD := ⟨("way_of", none), "way_of", "way_of", defArgs s_way_of, defBody s_way_of, defScope s_way_of, [], []⟩
def d_keep_way : He.DefD := ⟨("keep_way", none), "keep_way", "keep_way", defArgs s_keep_way, defBody s_keep_way, defScope s_keep_way, [], []⟩
def d_audiences : He.DefD := ⟨("audiences", none), "audiences", "audiences", defArgs s_audiences, defBody s_audiences, defScope s_audiences, [], []⟩
def d_law_lean : He.DefD := ⟨("_law_lean", none), "_law_lean", "_law_lean", defArgs s_law_lean, defBody s_law_lean, defScope s_law_lean, [], []⟩
def d_law_take : He.DefD := ⟨("_law_take", none), "_law_take", "_law_take", defArgs s_law_take, defBody s_law_take, defScope s_law_take, [], []⟩
def d_law_event : He.DefD := ⟨("_law_event", none), "_law_event", "_law_event", defArgs s_law_event, defBody s_law_event, defScope s_law_event, [], []⟩
def d_law_table : He.DefD := ⟨("_law_table", none), "_law_table", "_law_table", defArgs s_law_table, defBody s_law_table, defScope s_law_table, [], []⟩
def d_law_live : He.DefD := ⟨("_law_live", none), "_law_live", "_law_live", defArgs s_law_live, defBody s_law_live, defScope s_law_live, [], []⟩
def d_law_same : He.DefD := ⟨("_law_same", none), "_law_same", "_law_same", defArgs s_law_same, defBody s_law_same, defScope s_law_same, [], []⟩
def d_law_box : He.DefD := ⟨("_law_box", none), "_law_box", "_law_box", defArgs s_law_box, defBody s_law_box, defScope s_law_box, [], []⟩
def d_law_heard : He.DefD := ⟨("_law_heard", none), "_law_heard", "_law_heard", defArgs s_law_heard, defBody s_law_heard, defScope s_law_heard, [], []⟩
def d_law_right : He.DefD := ⟨("_law_right", none), "_law_right", "_law_right", defArgs s_law_right, defBody s_law_right, defScope s_law_right, [], []⟩
def d_law : He.DefD := ⟨("law", none), "law", "law", defArgs s_law, defBody s_law, defScope s_law, [], []⟩
def fn : List He.DefD := [d_as_tuples, d_events_of, d_looks, d_adds, d_B_init, d_B_many, d_B_is_alike, d_B_is_below, d_B_has, d_B_bind, d_B_lower, d_B_go_through, d_B_looked, d_B_compared, d_B_is_late, d_B_close, d_B_rules, d_B_newest, d_B_before, d_check_look, d_P_init, d_P_everything, d_P_last_add, d_P_stops, d_P_is_first, d_P_parts, d_P_firsts, d_P_stuck, d_K_is_fine, d_A_init, d_A_numbers, d_A_sets, d_A_is_possible, d_A_part_of, d_A_cut, d_A_people, d_check_people, d_branch, d_kept_people, d_kept_from, d_way_of, d_keep_way, d_audiences, d_law_lean, d_law_take, d_law_event, d_law_table, d_law_live, d_law_same, d_law_box, d_law_heard, d_law_right, d_law]
def fx : List He.DefD := [d_K_init, d_K_stops]
def fa0 : List He.Fa := [.glo "as_tuples", .glo "events_of", .glo "looks", .glo "adds", .glo "check_look", .glo "check_people", .glo "branch", .glo "kept_people", .glo "kept_from", .glo "way_of", .glo "keep_way", .glo "audiences", .glo "_law_lean", .glo "_law_take", .glo "_law_event", .glo "_law_table", .glo "_law_live", .glo "_law_same", .glo "_law_box", .glo "_law_heard", .glo "_law_right", .glo "law", .glo "Bonds", .glo "Keeping", .glo "Audience", .str "LOOK" "look", .str "ADD" "add", .str "MEET" "meet", .str "LONG" "long", .str "ALIKE" "alike"]
def fa1 : List He.Fa := [.str "BEGINS" "begins", .str "NO" "no", .str "DELAY" "delay", .str "FORK" "fork", .free "len", .free "range", .free "list", .free "tuple", .free "isinstance", .free "sorted", .free "set", .free "any", .free "all", .free "max", .free "min", .free "enumerate", .free "zip", .free "int", .free "abs", .free "bool", .free "str", .free "super", .cls "Bonds", .mkr "Bonds", .noat "Bonds" "own_people", .noat "Bonds" "own_events", .noat "Bonds" "own_kind", .noat "Bonds" "own_gone", .noat "Bonds" "own_looks", .noat "Bonds" "own_adds"]
def fa2 : List He.Fa := [.noat "Bonds" "own_alike", .noat "Bonds" "own_below", .noat "Bonds" "own_has", .noat "Bonds" "own_facts", .meth "Bonds" "many", .meth "Bonds" "is_alike", .meth "Bonds" "is_below", .meth "Bonds" "has", .meth "Bonds" "bind", .meth "Bonds" "lower", .meth "Bonds" "go_through", .meth "Bonds" "looked", .meth "Bonds" "compared", .meth "Bonds" "is_late", .meth "Bonds" "close", .meth "Bonds" "rules", .meth "Bonds" "newest", .meth "Bonds" "before", .cls "Keeping", .mkr "Keeping", .noat "Keeping" "own_looks", .noat "Keeping" "own_adds", .noat "Keeping" "own_bonds", .noat "Keeping" "own_unlike", .noat "Keeping" "own_barred", .meth "Keeping" "stops", .meth "Keeping" "is_fine", .meth "Keeping" "everything", .meth "Keeping" "last_add", .meth "Keeping" "is_first"]
def fa3 : List He.Fa := [.meth "Keeping" "parts", .meth "Keeping" "firsts", .meth "Keeping" "stuck", .cls "Audience", .mkr "Audience", .noat "Audience" "own_bonds", .noat "Audience" "own_people", .noat "Audience" "own_mark", .noat "Audience" "own_newest", .noat "Audience" "own_before", .meth "Audience" "numbers", .meth "Audience" "sets", .meth "Audience" "is_possible", .meth "Audience" "part_of", .meth "Audience" "cut", .meth "Audience" "people"]
def fa : List He.Fa := fa0 ++ (fa1 ++ (fa2 ++ (fa3)))
/-! what super() asks -/
def cellOfC (K : PySem.W.Frag) (p : Str × Option Str) : Addr := match K.lookup (He.fAd K p) with
  | some ⟨_, _, .func fd, _⟩ => (match fd.closure with
    | [(_, c)] => c
    | _ => 0)
  | _ => 0
def codeOfF (K : PySem.W.Frag) (p : Str × Option Str) : Addr := match K.lookup (He.fAd K p) with
  | some ⟨_, _, .func fd, _⟩ => (match fd.code with
    | .ref c => c
    | _ => 0)
  | _ => 0
def supB (K : PySem.W.Frag) (C : Str) (m : Str) (f2 : Addr) : Bool :=
  (match K.lookup (codeOfF K (C, some m)) with
    | some ⟨_, _, .fields vs, _⟩ => (match vs[2]? with
      | some (Value.str file _) => (PP.main.file : Str) == file
      | _ => false)
    | _ => false) &&
  ((match K.lookup (cellOfC K (C, some m)) with
    | some ⟨_, _, .cell (some (.ref D)), _⟩ => decide (D = He.ga K C)
    | _ => false) &&
  ((PySem.W.clsIn K (He.ga K C)).isSome && (decide (PySem.W.mroIn K (He.ga K C) (.ref (He.ga K C)) = some true) && (He.eqO (PySem.W.nsIn K cStatics "thirdparty.any") (some none) &&
    (decide (PySem.W.ks_superIn K (He.ga K C) (He.ga K C) m = some (some (.ref f2))) && (decide (PySem.W.typeIn K (.ref f2) = some (.type "function")) && PySem.W.fnIn K f2))))))
def fdOf (K : PySem.W.Frag) (p : Str × Option Str) : FuncData := match K.lookup (He.fAd K p) with
  | some ⟨_, _, .func fd, _⟩ => fd
  | _ => PySem.W.fnOf "" "" { posonlyargs := [], args := [], vararg := none, kwonlyargs := [], kw_defaults := [], kwarg := none, defaults := [] } [] { kind := .function, names := [], isGenerator := false, isCoroutine := false } .none .none .none .none none .none .none
/-- a def that closes over __class__ -/
abbrev FnS : Type := Option (Str × Str × Arguments × FuncBody × Scope × Addr × List Str × Addr)
def fnS (K : PySem.W.Frag) (p : Str × Option Str) : FnS := match K.lookup (He.fAd K p) with
  | some ⟨_, _, .func fd, _⟩ => some (fd.name, fd.qualname, fd.params, fd.body, fd.scope, fd.globals, fd.closure.map (·.1), fd.builtins)
  | _ => none
def valS (d : He.DefD) : FnS := some (d.name, d.qual, d.params, .stmts d.body, d.scope, mainGlobals, ["__class__"], builtinsNs)
def tup0 (K : PySem.W.Frag) (a : Addr) : Bool := match K.lookup a with
  | some ⟨.type c, _, .seq its _, _⟩ => decide (c = "tuple") && its.isEmpty
  | _ => false
def exB (K : PySem.W.Frag) : Bool :=
  supB K "Keeping" "__init__" (He.fAd K ("Peeling", some "__init__")) && (supB K "Keeping" "stops" (He.fAd K ("Peeling", some "stops")) && (
  ([("Bonds", "__init__", 0), ("Bonds", "__init__", 1), ("Bonds", "bind", 0), ("Bonds", "lower", 0), ("Peeling", "__init__", 0), ("Peeling", "__init__", 1)] : List (Str × Str × Nat)).all fun (q : Str × Str × Nat) => tup0 K (He.dflAt (q.1, some q.2.1) q.2.2 K)))
abbrev AlX : Type := He.AlD × List FnS × Bool
def obsX (K : PySem.W.Frag) : AlX := (He.obsD fa fn K, fx.map (fun d => fnS K d.at_), (fx.all fun d => d.ok K) && exB K)
def valX : AlX := (He.valD fn, fx.map valS, true)
def frX (g : Addr → Option Obj) : PySem.W.Frag := He.frG g (cStatics :: He.asD g 6)
def hk : PySem.W.Hook where
  α := AlX
  obs := fun s => obsX (frX s.heap.get?)
  val := fun _ => valX
  says := fun _ h => ∃ K : PySem.W.Frag, K.In h ∧ obsX K = valX
  of := fun _ _ e => ⟨_, He.frG_in, e⟩
  keeps := fun _ _ _ z k => z.elim fun K q => ⟨K, PySem.W.Frag.In.keeps q.1 k, q.2⟩
def ob (s : PySem.W.SharedT) : AlX := obsX (frX (HandSHeadRun.getT s))
theorem ob_eq (s : PySem.W.SharedT) : ob s = hk.obs s.abs := by
  have e : HandSHeadRun.getT s = s.abs.heap.get? := funext (HandSHeadRun.getT_eq s)
  show obsX (frX (HandSHeadRun.getT s)) = obsX (frX s.abs.heap.get?)
  rw [e]
end HF
set_option maxHeartbeats 4000000
namespace HF
open PySem PySem.Spec PyProof.Rows L2
/-! a def that closes over __class__: its entry -/
structure SScope (N P : List Str) (sc : Scope) : Prop where
  kind : sc.kind = .function
  co : sc.isCoroutine = false
  gen : sc.isGenerator = false
  nd : N.Nodup
  pre : N.take P.length = P
  par : ∀ x ∈ P, sc.names.lookup x = some .local
  free : ∀ y ∈ sc.names, y.2 = .free → y.1 = ("__class__" : Str)
  nocls : (("__class__", NameKind.cell) : Str × NameKind) ∉ sc.names
  cls : sc.names.lookup ("__class__" : Str) = some .free
section
variable {M : Model} {A : Around} {E : Value → Shared → Prop} {s : Shared}
theorem bindS {L : Addr} {g : Heap} {scope : Scope} {env : Env} (hk : scope.kind = .function) (he : env.scope = scope) (hL : env.locals = L) (f : Str × Value → PUnit → Sem (ForInStep PUnit)) (hf : ∀ n v u, f (n, v) u = (do storeName env n v; pure (.yield ⟨⟩))) :
    ∀ (binds : List (Str × Value)) (m : Str → Option Value) (h : Heap) (tk : Nat) (Q : PUnit → Shared → Prop), h.Ns L m → (∀ b o, b ≠ L → g.get? b = some o → h.get? b = some o) → (∀ x ∈ binds, scope.names.lookup x.1 = some .local) →
      (∀ h' tk', h'.Ns L (bindL env.kindOf binds m) → (∀ b o, b ≠ L → g.get? b = some o → h'.get? b = some o) → Q ⟨⟩ { s with heap := h', toks := tk' }) → wpAny M A (forIn binds ⟨⟩ f) Q E { s with heap := h, toks := tk }
  | [], m, h, tk, Q, hn, hg, _, hQ => by
    rw [List.forIn_nil]
    exact wpAny_pure (hQ h tk hn hg)
  | (n, v) :: r, m, h, tk, Q, hn, hg, hl, hQ => by
    rw [List.forIn_cons, hf]
    have l1 : env.kindOf n = some .local := by
      show env.scope.names.lookup n = _
      rw [he]
      exact hl (n, v) (.head _)
    refine wpAny_bind (wpAny_bind (wpAny_storeName_local (s := { s with heap := h, toks := tk }) l1 (hL ▸ hn) (fun h' hn' hs => wpAny_pure (bindS hk he hL f hf r _ h' _ Q (hL ▸ hn') (fun b o hb e => (hs.2 b (hL ▸ hb)).trans (hg b o hb e)) (fun x hx => hl x (.tail _ hx)) fun h2 tk2 hn2 hg2 => hQ h2 tk2 ?_ hg2)) (by rw [he, hk]; rfl)))
    have e : bindL env.kindOf ((n, v) :: r) m = bindL env.kindOf r (if env.kindOf n = some .local then fun y => if y = n then some v else m y else m) := rfl
    rw [e, if_pos l1]
    exact hn2
theorem newEnvS {scope : Scope} {globals : Addr} {closure : List (Str × Addr)} {binds : List (Str × Value)} {qual : Str} {func : Option Addr} {code : Value} {builtins : Addr} {Q : Env → Shared → Prop} (hk : scope.kind = .function) (hl : ∀ x ∈ binds, scope.names.lookup x.1 = some .local)
    (hQ : ∀ env, env = newEnv scope s.heap.objs.size globals (cellsFrom (s.heap.objs.size + 1) scope.names closure) qual func code none builtins → ∀ h' tk, h'.Ns s.heap.objs.size (bindL env.kindOf binds fun _ => none) →
      (∀ b o, s.heap.get? b = some o → h'.get? b = some o) → (∀ x c, (x, c) ∈ cellsFrom (s.heap.objs.size + 1) scope.names closure → (x, c) ∈ closure ∨ ((x, NameKind.cell) ∈ scope.names ∧ s.heap.objs.size + 1 ≤ c ∧ h'.IsCell c none)) → Q env { s with heap := h', toks := tk }) :
    wpAny M A (newFunctionEnv scope globals closure binds qual func code none builtins) Q E s := by
  simp only [newFunctionEnv, Option.isSome_none, Bool.false_eq_true, if_false]
  refine wpAny_bind (wpAny_alloc (wpAny_bind (wpAny_layCells _ (fun name kind cells => by cases hkc : kind == NameKind.cell <;> simp [hkc]) _ _ _ _ ?_)))
  have hz : (s.heap.push { cls := .type "frame", data := .dict #[] }).objs.size = s.heap.objs.size + 1 := Heap.size_push ..
  rw [show ({ s with heap := s.heap.push { cls := .type "frame", data := .dict #[] } } : Shared).heap.objs.size = s.heap.objs.size + 1 from hz]
  refine wpAny_bind (bindS (s := s) (g := pushCells (s.heap.push { cls := .type "frame", data := .dict #[] }) scope.names) (env := newEnv scope s.heap.objs.size globals (cellsFrom (s.heap.objs.size + 1) scope.names closure) qual func code none builtins) hk rfl rfl
    _ (fun _ _ _ => rfl) binds (fun _ => none) _ s.toks _ ((Heap.Ns.new s.heap (.type "frame")).keeps (pushCells_keeps _ _)) (fun b o _ e => e) hl fun h' tk hn hg => wpAny_pure (hQ _ rfl h' tk hn (fun b o e => hg b o (Nat.ne_of_lt (Heap.lt_size e)) (pushCells_keeps _ _ b o (Heap.get?_push_of_some _ e))) fun x c hm => ?_))
  rw [← hz] at hm
  rcases cells_mem hm with h1 | ⟨h1, h2, ⟨o, h3, h4⟩⟩
  · exact .inl h1
  · rw [hz] at h2
    exact .inr ⟨h1, h2, ⟨o, hg c o (Nat.ne_of_gt h2) h3, h4⟩⟩
end
abbrev sEnv (qual : Str) (scope : Scope) (L f : Addr) (cd : Value) (cc : Addr) : Env := PySem.W.envX qual scope L f cd (cellsFrom (L + 1) scope.names [(("__class__" : Str), cc)])
def cxS (P : Program) (w : World) (K : PySem.W.Frag) (mg : Str → Option Value) (base : Heap) (N : List Str) (qual : Str) (scope : Scope) (f : Addr) (cd : Value) (cc : Addr) (A : Around) (outer : List Env) (s : Shared) (H : Hp) : Cx where
  prog := P
  w := w
  K := K
  mg := mg
  base := base
  A := A.deeper (sEnv qual scope s.heap.objs.size f cd cc)
  N := N
  s_0 := s
  H_0 := H
  env := sEnv qual scope s.heap.objs.size f cd cc
  outer := outer
  stack := sEnv qual scope s.heap.objs.size f cd cc :: outer
  ex := []
  calm := true
  fn := fun x => scope.names.lookup x == some .cell
  pn := []
  xe := fun _ _ => False
section
variable {P : Program} {w : World} {K : PySem.W.Frag} {mg : Str → Option Value} {base : Heap} {N ps : List Str} {qual : Str} {scope : Scope} {f cc : Addr} {cd : Value} {A : Around} {outer : List Env} {s : Shared} {H : Hp}
theorem own_cls (S : SScope N ps scope) {n c : Addr} {h : Heap} (hn : n = h.objs.size) (e : (cellsFrom n scope.names [(("__class__" : Str), cc)]).lookup ("__class__" : Str) = some c) : c = cc := by
  subst hn
  rcases cells_mem (PySem.mem_of_lookup e) with q | ⟨q, _⟩
  · cases List.mem_singleton.mp q; rfl
  · exact absurd q S.nocls
theorem inv_startS {h1 : Heap} {tk : Nat} {us : List Value} {vs : List V} (S : SScope N ps scope) (hd : A.handled = none) (e0 : Env0 P w K mg base A outer s H) (hl : vs.length = ps.length) (r : Vals vs us)
    {ccl : Obj} {D : Value} (hcc : K.lookup cc = some ccl) (hcd : ccl.data = .cell (some D))
    (hns : h1.Ns s.heap.objs.size (bindL (sEnv qual scope s.heap.objs.size f cd cc).kindOf (ps.zip us) fun _ => none)) (hk : ∀ b o, s.heap.get? b = some o → h1.get? b = some o)
    (hc : ∀ x c, (x, c) ∈ cellsFrom (s.heap.objs.size + 1) scope.names [(("__class__" : Str), cc)] → (x, c) ∈ [(("__class__" : Str), cc)] ∨ ((x, NameKind.cell) ∈ scope.names ∧ s.heap.objs.size + 1 ≤ c ∧ h1.IsCell c none)) :
    Inv (cxS P w K mg base N qual scope f cd cc A outer s H) [] (L2.start N vs) H { s with heap := h1, toks := tk } := by
  have hpl : ps.length ≤ N.length := by have := congrArg List.length S.pre; rw [List.length_take] at this; omega
  have bcc : base.get? cc = some ccl := e0.mod.kin _ _ hcc
  have noA : ∀ b : Addr, b ∉ (cxS P w K mg base N qual scope f cd cc A outer s H).ex := fun b z => absurd (show b ∈ ([] : List Addr) from z) (by simp)
  have ccl' : cc < s.heap.objs.size := Heap.lt_size (e0.bs _ _ bcc).1
  have inj : ∀ x y c, (x, c) ∈ cellsFrom (s.heap.objs.size + 1) scope.names [(("__class__" : Str), cc)] → (y, c) ∈ cellsFrom (s.heap.objs.size + 1) scope.names [(("__class__" : Str), cc)] → x = y := fun x y c h2 h3 => by
    have hz : (s.heap.push { cls := .type "frame", data := .dict #[] }).objs.size = s.heap.objs.size + 1 := Heap.size_push ..
    rw [← hz] at h2 h3
    refine cells_inj (fun p hp => ?_) (fun x y c a b => ?_) h2 h3
    · rw [List.mem_singleton.mp hp, hz]
      exact Nat.lt_succ_of_lt ccl'
    · cases List.mem_singleton.mp a; cases List.mem_singleton.mp b; rfl
  have has : ∀ x, (scope.names.lookup x = some .cell ∨ scope.names.lookup x = some .free) → ∃ c, (cellsFrom (s.heap.objs.size + 1) scope.names [(("__class__" : Str), cc)]).lookup x = some c := fun x hx => by
    rcases hx with hx | hx
    · obtain ⟨c, hm⟩ := cells_has (n := s.heap.objs.size + 1) (acc := [(("__class__" : Str), cc)]) (PySem.mem_of_lookup hx)
      exact mem_lookup hm
    · have e := S.free _ (PySem.mem_of_lookup hx) rfl
      have e : x = ("__class__" : Str) := e
      subst e
      exact mem_lookup (cells_acc (p := (("__class__" : Str), cc)) (List.mem_singleton.mpr rfl))
  refine ⟨⟨e0.mod, S.kind, rfl, rfl, Nat.le_refl _, fun y z c h2 h3 => inj y z c (PySem.mem_of_lookup h2) (PySem.mem_of_lookup h3), fun y hy => has y hy, fun y c hf h2 => ?_, fun _ => hd, Around.frames_deeper e0.frames, .inr ⟨rfl, rfl⟩, fun b z => absurd z (noA b), e0.bs, e0.bsz, fun b _ _ => noA b, fun b z => absurd z (noA b), e0.funs, e0.frf⟩,
    rfl, e0.bare, Un.kept hk, ⟨_, hns, fun i y v h2 h3 h4 => ?_⟩, fun y c h2 => ?_, e0.hok.fresh (Nat.le_refl _), fun y c h2 => ?_, fun p hp => absurd (show p ∈ ([] : List (Addr × Obj)) from hp) (by simp), e0.hok.kept hk, ?_⟩
  · rcases hc y c (PySem.mem_of_lookup h2) with q | ⟨_, q, _⟩
    · cases List.mem_singleton.mp q
      have z : (scope.names.lookup ("__class__" : Str) == some NameKind.cell) = true := hf
      rw [S.cls] at z
      exact absurd z (by decide)
    · exact Nat.le_of_succ_le q
  · have hi : i < vs.length := by
      unfold L2.start at h3
      by_cases hi : i < vs.length
      · exact hi
      · rw [List.getElem?_append_right (by simpa using hi), List.getElem?_replicate] at h3
        split at h3 <;> cases h3
    have ha : vs[i]? = some v := by
      unfold L2.start at h3
      rw [List.getElem?_append_left (by simpa using hi), List.getElem?_map] at h3
      cases e : vs[i]? with
      | none => rw [e] at h3; cases h3
      | some a => rw [e] at h3; cases h3; rfl
    obtain ⟨u, hu, rv⟩ := r.get ha
    have hp : ps[i]? = some y := by
      rw [← S.pre, List.getElem?_take_of_lt (by omega)]; exact h2
    have ndP : ps.Nodup := by rw [← S.pre]; exact S.nd.sublist (List.take_sublist _ _)
    have kl := S.par y (List.mem_of_getElem? hp)
    exact ⟨u, rv, .inl ⟨kl, bindL_get ndP hp hu kl⟩⟩
  · rcases hc y c (PySem.mem_of_lookup h2) with q | ⟨_, _, q⟩
    · cases List.mem_singleton.mp q
      exact ⟨_, _, hk _ _ (e0.bs _ _ bcc).1, hcd⟩
    · exact ⟨_, q⟩
  · rcases hc y c (PySem.mem_of_lookup h2) with q | ⟨_, q, _⟩
    · cases List.mem_singleton.mp q
      exact (e0.bs _ _ bcc).2
    · exact e0.hok.fresh (Nat.le_of_succ_le q)
  · unfold L2.start
    show _ = N.length
    rw [List.length_append, List.length_map, List.length_replicate]
    omega
end
/-! statements at a known activation -/
structure PEt (X : Cx) (body : List Stmt) (e : Expr) (t : TE) : Prop where
  run : ∀ (pins : List (Addr × Obj)) (s : Shared) (σ : L2.St) (H : Hp) (Q : VK), Inv X pins σ H s → t σ H Q → _root_.PySem.wpAt (model X.prog X.w) X.A (.func body X.env) (eval e X.env) (EP X pins σ Q) X.xe s
structure PSt (X : Cx) (body : List Stmt) (st : Stmt) (t : TS) : Prop where
  run : ∀ (pins : List (Addr × Obj)) (s : Shared) (σ : L2.St) (H : Hp) (D : Ends), Inv X pins σ H s → t D σ H → _root_.PySem.wpAt (model X.prog X.w) X.A (.func body X.env) (exec st X.env) (SP X pins D) X.xe s
structure PSst (X : Cx) (body : List Stmt) (sts : List Stmt) (t : TS) : Prop where
  run : ∀ (pins : List (Addr × Obj)) (s : Shared) (σ : L2.St) (H : Hp) (D : Ends), Inv X pins σ H s → t D σ H → _root_.PySem.wpAt (model X.prog X.w) X.A (.func body X.env) (execs sts X.env) (SP X pins D) X.xe s
section
variable {X : Cx} {body : List Stmt} {st : Stmt} {sts : List Stmt} {e : Expr} {t u : TS} {te : TE} {pos : Pos}
theorem pst_of (h : PS X st t) : PSt X body st t := ⟨fun pins s σ H D I q => wpAt_of_wpAny (h.run pins s σ H D I q)⟩
theorem psst_of (h : PSs X sts t) : PSst X body sts t := ⟨fun pins s σ H D I q => wpAt_of_wpAny (h.run pins s σ H D I q)⟩
theorem psst_cons (h1 : PSt X body st t) (h2 : PSst X body sts u) : PSst X body (st :: sts) (tSeq t u) := by
  refine ⟨fun pins s σ H D I q => ks_wpAt_execs_cons ?_⟩
  refine ks_wpAt_mono (h1.run pins s σ H { D with nx := u D } I q) (fun f s1 hf => ?_) fun _ _ x => x
  cases f with
  | next =>
    obtain ⟨σ1, H1, I1, q1⟩ := hf
    exact h2.run pins s1 σ1 H1 D I1 q1
  | brk => exact hf
  | cont => exact hf
  | ret v => exact hf
theorem pst_expr (h : PEt X body e te) (hs : swapsWith e none pos.line X.env = pure false := by rfl) (hq : interactive X.env = false := by rfl) : PSt X body (.Expr e pos) (tDrop te) := by
  refine ⟨fun pins s σ H D I q => ?_⟩
  refine ks_wpAt_Expr_any (ks_wpAt_mono (h.run pins s σ H _ I q) (fun v s1 ⟨x, H1, I1, r1, q1⟩ => ?_) fun _ _ x => x) hq hs
  exact ⟨σ, H1, I1, q1⟩
theorem pst_ret (h : PEt X body e te) : PSt X body (.Return (some e) pos) (tRet te) := by
  refine ⟨fun pins s σ H D I q => ?_⟩
  refine ks_wpAt_Return_some (ks_wpAt_mono (h.run pins s σ H _ I q) (fun v s1 ⟨x, H1, I1, r1, q1⟩ => ?_) fun _ _ x => x)
  exact ⟨x, σ, H1, I1, r1, q1⟩
end
/-- what super() asks of the written part: the code's file, the cell of __class__ (the class D), the next def of that name behind D in the order of the class C -/
structure SupOk (K : PySem.W.Frag) (fd : FuncData) (cda cc C D : Addr) (m : Str) (f2 : Addr) : Prop where
  head : ∃ ar, (fd.params.posonlyargs ++ fd.params.args).head? = some ar ∧ ar.arg = ("self" : Str)
  code : ∃ ccl cdd vs ccs file tf, K.lookup cda = some ⟨ccl, cdd, .fields vs, ccs⟩ ∧ vs[2]? = some (.str file tf) ∧ ((PP.main.file : Str) == file) = true
  cell : ∃ cl cld csl, K.lookup cc = some ⟨cl, cld, .cell (some (.ref D)), csl⟩
  clsD : ∃ cdD, PySem.W.clsIn K D = some cdD
  clsC : ∃ cdC, PySem.W.clsIn K C = some cdC
  sub : PySem.W.mroIn K C (.ref D) = some true
  any : PySem.W.nsIn K cStatics "thirdparty.any" = some none
  next : PySem.W.ks_superIn K C D m = some (some (.ref f2))
  ty : PySem.W.typeIn K (.ref f2) = some (.type "function")
  fn : PySem.W.fnIn K f2 = true
def tSup (C : Addr) (sp : Sp) (t : TA) : TE := fun σ H Q => ∃ a dx fs, σ[0]? = some (some (.ref a)) ∧ H a = some (.ins C dx fs) ∧ t σ H fun vs H2 => sp (.ref a :: vs) H2 Q E0
section
variable {X : Cx} {body : List Stmt}
theorem pet_super {f f2 cda cc C D : Addr} {fd fd2 : FuncData} {m : Str} {p0 p1 apos pos : Pos} {e : Expr} {es : List Expr} {t : TA} {k : Nat} {ps : List Str} {sp : Sp} {oc : Value} {od : Option Addr} {osl : Array (Option Value)} {pl : Sem Bool}
    (hP : X.prog = PP) (hf : X.env.func = some f) (hlk : X.K.lookup f = some ⟨oc, od, .func fd, osl⟩) (hcode : X.env.code = .ref cda) (O : SupOk X.K fd cda cc C D m f2) (hcell : ∀ c, X.env.cells.lookup ("__class__" : Str) = some c → c = cc)
    (hks : X.env.scope.names.lookup ("super" : Str) = some .globalImplicit) (hkc : X.env.scope.names.lookup ("__class__" : Str) = some .free) (hka : X.env.scope.names.lookup ("self" : Str) = some .local) (hN : X.N[0]? = some ("self" : Str)) (hmg : X.mg ("super" : Str) = none)
    (G : FnOk X.prog X.w X.K X.mg X.base CX0 k f2 fd2 ps sp) (hr : Room k X.A) (hb : Binds X.K fd2 ps []) (ha : PA X (e :: es) t) (hm : (m == ("__class__" : Str)) = false := by decide)
    (hst : starEach (e :: es) X.env = (false, eval e X.env) :: starEach es X.env := by rfl) (hpl : (backTo pos (starEach es X.env)).any (·.1) = false := by rfl)
    (he : eval (.Call (.Attribute (.Call (.Name "super" p0) [] [] p1) m apos) (e :: es) [] pos) X.env = (do
      let ov ← attributeBase (.Call (.Name "super" p0) [] [] p1) m X.env (eval (.Call (.Name "super" p0) [] [] p1) X.env)
      standAt apos.atName
      let (f, first) ← holding [ov] (getMethod ov m pl)
      callWith pos f first (backTo pos (starEach (e :: es) X.env)) []) := by rfl) :
    PEt X body (.Call (.Attribute (.Call (.Name "super" p0) [] [] p1) m apos) (e :: es) [] pos) (tSup C sp t) := by
  refine ⟨fun pins s σ H Q I h => ?_⟩
  obtain ⟨a, dx, fs, e0, ea, q⟩ := h
  obtain ⟨ar, hh1, hh2⟩ := O.head
  obtain ⟨ccl, cdd, vs, ccs, file, tf, hcd1, hcd2, hcd3⟩ := O.code
  obtain ⟨cl, cld, csl, hce⟩ := O.cell
  obtain ⟨cdD, hD⟩ := O.clsD
  obtain ⟨cdC, hC⟩ := O.clsC
  obtain ⟨mA, OM, _⟩ := ins_get I.hok ea
  obtain ⟨odd, J, _⟩ := OM.look
  obtain ⟨hh, g, d, tt, os⟩ := s
  have KX : X.K.In hh := I.kIn
  obtain ⟨oD, hD1, hD2⟩ : ∃ oD, hh.get? D = some oD ∧ oD.data = .cls cdD := by
    unfold PySem.W.clsIn at hD
    split at hD
    · rename_i c d' cd' sl ho
      cases hD
      exact ⟨_, KX _ _ ho, rfl⟩
    · cases hD
  have notC : a ≠ C := PySem.W.ks_ne KX J hC
  refine ks_wpAt_MethodCall (ks_wpAt_super_base (env := X.env) hks hkc hm hf (KX _ _ hlk) rfl hh1 hcode (KX _ _ hcd1) rfl hcd2 (hP ▸ hcd3) (hP ▸ (by decide +kernel)) ?_) he
  obtain ⟨mb, b1, b2⟩ := I.mod.blt
  refine PySem.W.ks_loadName_global I.ok.kind hks (Calls.loadGlobal_builtin (by rw [I.ok.glob]; exact I.mod.glob.keeps I.bk) hmg (by rw [I.ok.blt]; exact b1.keeps I.bk) ((b2 ("super" : Str) (by decide +kernel)).trans (by decide +kernel : bootBuiltins ("super" : Str) = some (.type "super"))) ⟨rfl, ?_⟩)
  obtain ⟨c, hc⟩ := I.ok.has ("__class__" : Str) (.inr hkc)
  have ec := hcell c hc
  subst ec
  refine wpAny_loadName_free I.ok.kind hkc hc ⟨_, KX _ _ hce, rfl⟩ ?_
  obtain ⟨ml, hml, hv⟩ := I.loc
  obtain ⟨u, ru, hu⟩ := hv 0 ("self" : Str) (.ref a) hN e0 (.inl hka)
  obtain rfl : u = Value.ref a := ru
  have hmu : ml ("self" : Str) = some (.ref a) := by
    rcases hu with ⟨_, q⟩ | ⟨q | q, _⟩
    · exact q
    · exact absurd (hka.symm.trans q) (by decide)
    · exact absurd (hka.symm.trans q) (by decide)
  rw [hh2]
  refine wpAny_loadName_local I.ok.kind hka hml hmu ?_
  refine ks_wpAny_isType_cls hD1 hD2 ⟨rfl, ?_⟩
  refine ks_wpAny_call_super hD1 hD2 J.at_ J.cls (fun c e => ?_) (PySem.W.looks_mroIn KX O.sub) (fun h' eo k' => ?_)
  · have := J.no
    unfold PySem.W.notCls at this
    rw [e] at this
    exact Bool.noConfusion this
  -- the super object stands at the heap's end
  have I1 : Inv X pins σ H { (⟨hh, g, d, tt, os⟩ : Shared) with heap := h', toks := tt } := I.kept k'
  obtain ⟨of, hof, hofc⟩ : ∃ of, h'.get? f2 = some of ∧ of.cls = .type "function" := by
    have ht' : (X.K.lookup f2).map (·.cls) = some (.type "function") := O.ty
    cases z : X.K.lookup f2 with
    | none => rw [z] at ht'; cases ht'
    | some of => rw [z] at ht'; exact ⟨of, I1.kIn _ _ z, Option.some.inj ht'⟩
  have hal : PySem.W.alongIn X.K m ((cdC.mro.dropWhile (· != .ref D)).drop 1) = some (some (.ref f2)) := by
    have z := O.next
    unfold PySem.W.ks_superIn at z
    rw [hC] at z
    exact z
  refine ks_wpAny_getMethod_super eo (PySem.W.looks_opaque I1.kIn O.any) (l₀ := cdC.mro) (fun A Q E s k q => wpAny_bind ((PySem.W.looks_clsIn I1.kIn hC) A _ E s k (wpAny_pure q))) rfl I1.kIn hal hof hofc notC hm ?_
  have I2 := ClX.met_new (g := f2) (C := a) I1
  refine ClX.callwith_cm I2 (ClX.base_none I1 (Nat.le_refl _)) O.fn ?_ hst hpl
  refine thn (ha.run pos _ _ σ H _ ⟨I2.ok, I2.os, I2.bare, I2.base, I2.loc, I2.cell, I2.free, I2.freeC, I2.pin, I2.hok, I2.len⟩ q) fun us s3 ⟨vs3, H3, I3, r3, q3⟩ => ⟨⟨ClX.pin_at I3, I3.kIn⟩, ?_⟩
  have hl : (Value.ref a :: us).length = ps.length := by
    have z := (Vals.length (.cons rfl r3 : Vals (.ref a :: vs3) (Value.ref a :: us)))
    rw [← z]
    exact G.len _ _ _ _ q3
  have hb2 := hb s3 (Value.ref a :: us) I3.kIn (by rw [List.append_nil]; exact hl)
  rw [List.append_nil] at hb2
  refine thn (wpAny_call (PySem.W.method_call (ClX.pin_at I3) (codeAny_mono (G.run X.A X.stack s3 H3 ⟨Value.ref a :: us, []⟩ (Value.ref a :: us) (.ref a :: vs3) Q E0 hr I3.env0 hb2 (.cons rfl r3) q3) fun r s' hq => ?_))) fun _ _ y => ClX.unpinE (p := (h'.objs.size, PySem.W.methodObj (.ref f2) (.ref a))) y
  cases r with
  | error e => exact False.elim hq
  | ok fl =>
    cases fl with
    | ret u => exact I3.after hq
    | next => exact False.elim hq
    | brk => exact False.elim hq
    | cont => exact False.elim hq
end
/-- THE RULE for such a def -/
theorem fn_ofS {w : World} {K : PySem.W.Frag} {mg : Str → Option Value} {base : Heap} {k : Nat} {f : Addr} {name qual : Str} {params : Arguments} {body : List Stmt} {scope : Scope} {dV kV doc pm cdv ct oc : Value} {an od : Option Addr} {cc : Addr} {ccl : Obj} {D : Value}
    {osl : Array (Option Value)} {N ps : List Str} {sp : Sp} (lk : K.lookup f = some ⟨oc, od, .func (PySem.W.fnX name qual params body scope [(("__class__" : Str), cc)] dV kV doc pm an cdv ct), osl⟩) (hcd : PySem.W.codeIn K cdv qual = true) (hcc : K.lookup cc = some ccl) (hcD : ccl.data = .cell (some D)) (S : SScope N ps scope)
    (len : ∀ vs H Q E, sp vs H Q E → vs.length = ps.length)
    (hbody : ∀ (A : Around) (outer : List Env) (s : Shared) (H : Hp) (vs : List V) (Q : VK) (E : XK), Room k (A.deeper (sEnv qual scope s.heap.objs.size f cdv cc)) → sp vs H Q E →
      ∃ t, PSst (cxS PP w K mg base N qual scope f cdv cc A outer s H) body body t ∧ t { nx := fun _ H' => Q .non H', rt := Q } (L2.start N vs) H) :
    FnOk PP w K mg base CX0 (k + 1) f (PySem.W.fnX name qual params body scope [(("__class__" : Str), cc)] dV kV doc pm an cdv ct) ps sp := by
  refine ⟨len, fun A outer s H args us vs Q E hr e0 hb r hsp => ?_⟩
  have hl := len _ _ _ _ hsp
  have KX : K.In s.heap := e0.mod.kin.keeps fun b o e => (e0.bs b o e).1
  have lim : s.heap.NoLimit := e0.mod.nolimit.keeps fun b o e => (e0.bs b o e).1
  refine codeAny_call_function hr.depth (KX _ _ lk) rfl S.co S.gen rfl (PySem.W.codeRec_of KX hcd) (hb _ _ _ _ ?_)
  refine newEnvS S.kind (fun ⟨n, v⟩ hy => S.par n (List.of_mem_zip hy).1) fun env he h1 tk hns hk hcs => ?_
  subst he
  refine ⟨lim.keeps hk, ks_codeAny_funcAt ?_⟩
  obtain ⟨t, ht, hq⟩ := hbody A outer s H vs Q E (hr.deeper _) hsp
  have I : Inv (cxS PP w K mg base N qual scope f cdv cc A outer s H) [] (L2.start N vs) H { s with heap := h1, toks := tk } := inv_startS S hr.hd e0 hl r hcc hcD hns hk hcs
  refine ks_wpAt_mono (ht.run [] _ (L2.start N vs) H _ I hq) (fun fl s' hs => ?_) fun e s' hs => hs.elim
  have fin : ∀ {σ' : L2.St} {H' : Hp} {v : V} {u : Value}, Inv (cxS PP w K mg base N qual scope f cdv cc A outer s H) [] σ' H' s' → RelV v u → Q v H' → CE outer PP w H s Q u s' := fun J rv q => ⟨_, _, J.os, J.bare, J.base, J.hok, rv, q⟩
  cases fl with
  | ret u =>
    obtain ⟨v, σ', H', J, rv, q⟩ := hs
    exact fin J rv q
  | next =>
    obtain ⟨σ', H', J, q⟩ := hs
    exact fin (v := V.non) (u := Value.none) J rfl q
  | brk =>
    obtain ⟨_, _, _, q⟩ := hs
    exact False.elim q
  | cont =>
    obtain ⟨_, _, _, q⟩ := hs
    exact False.elim q
end HF
set_option maxHeartbeats 4000000
namespace HF
open PySem PySem.Spec PyProof.Rows L2
/-- what the top has written, and where the module's names lead -/
def Tx (K : PySem.W.Frag) (mg : Str → Option Value) : Prop := ∃ h : Heap, K.In h ∧ h.Ns mainGlobals mg ∧ obsX K = valX
theorem all_flag {K : PySem.W.Frag} (c : obsX K = valX) : He.SaysD fa fn K := congrArg (fun z : AlX => z.1) c
theorem ex_flag {K : PySem.W.Frag} (c : obsX K = valX) : ((fx.all fun d => d.ok K) && exB K) = true := congrArg (fun z : AlX => z.2.2) c
theorem sup_list {K : PySem.W.Frag} (c : obsX K = valX) : fx.map (fun d => fnS K d.at_) = fx.map valS := congrArg (fun z : AlX => z.2.1) c
section
variable {K : PySem.W.Frag} {mg : Str → Option Value}
theorem Tx.fact (T : Tx K mg) (i : Nat) {f : He.Fa} (h : fa[i]? = some f) : f.ok K = true := let ⟨_, _, _, c⟩ := T; (all_flag c).fact i h
theorem Tx.glo (T : Tx K mg) (i : Nat) {x : Str} (h : fa[i]? = some (.glo x)) : mg x = some (.ref (He.ga K x)) := let ⟨_, X, G, _⟩ := T; He.glo_ok X G (T.fact i h)
theorem Tx.free (T : Tx K mg) (i : Nat) {x : Str} (h : fa[i]? = some (.free x)) : mg x = none := let ⟨_, X, G, _⟩ := T; He.free_ok X G (T.fact i h)
theorem Tx.str (T : Tx K mg) (i : Nat) {x z : Str} (h : fa[i]? = some (.str x z)) : ∃ t, mg x = some (.str z t) := let ⟨_, X, G, _⟩ := T; He.str_ok X G (T.fact i h)
/-- a module's text -/
theorem pe_S {X : Cx} {x z : Str} {pos : Pos} (hg : Gl X x) (h : ∃ t, X.mg x = some (.str z t)) (hd : (x == ("__debug__" : Str)) = false := by decide) : PE X (.Name x pos) (tC (.str z)) := by
  obtain ⟨t, e⟩ := h
  exact pe_glob hg e ⟨t, rfl⟩ hd
theorem fd_eq {x qual : Str} {params : Arguments} {body : List Stmt} {scope : Scope} {dvs : List V} {kws : List (Str × V)} {fd : FuncData} {p : Str × Option Str} (F : FunD K x qual params body scope dvs kws (He.fAd K p) fd) : fdOf K p = fd := by
  obtain ⟨oc, od, dV, kV, doc, pm, an, cdv, ct, osl, _, lk, _⟩ := F.ex
  unfold fdOf
  rw [lk]
theorem Tx.def_ (T : Tx K mg) (i : Nat) {d : He.DefD} (h : fn[i]? = some d) : FunD K d.name d.qual d.params d.body d.scope (d.dvs K) (d.kws K) (He.fAd K d.at_) (fdOf K d.at_) := by
  obtain ⟨_, _, _, c⟩ := T
  obtain ⟨fd, F⟩ := (all_flag c).def_ i h
  rw [fd_eq F]
  exact F
theorem all2 {a b : Bool} (h : (a && b) = true) : a = true ∧ b = true := Bool.and_eq_true_iff.mp h
theorem Tx.ex (T : Tx K mg) : exB K = true := let ⟨_, _, _, c⟩ := T; (all2 (ex_flag c)).2
theorem Tx.tup0 (T : Tx K mg) {q : Str × Str × Nat} (h : q ∈ ([("Bonds", "__init__", 0), ("Bonds", "__init__", 1), ("Bonds", "bind", 0), ("Bonds", "lower", 0), ("Peeling", "__init__", 0), ("Peeling", "__init__", 1)] : List (Str × Str × Nat))) (H : Hp) : SqT K H (He.dflAt (q.1, some q.2.1) q.2.2 K) [] := by
  have h1 := List.all_eq_true.mp (all2 (all2 T.ex).2).2 q h
  unfold HF.tup0 at h1
  generalize He.dflAt (q.1, some q.2.1) q.2.2 K = a at h1 ⊢
  cases e : K.lookup a with
  | none => rw [e] at h1; cases h1
  | some o =>
    obtain ⟨oc, od, dt, osl⟩ := o
    rw [e] at h1
    cases oc with
    | type c =>
      cases dt with
      | seq its n =>
        obtain ⟨h2, h3⟩ := all2 (show (decide (c = "tuple") && its.isEmpty) = true from h1)
        have e2 : its = #[] := Array.isEmpty_iff.mp h3
        subst e2
        exact .inr ⟨_, #[], n, e, congrArg Value.type (of_decide_eq_true h2), rfl, Nat.zero_le _, .nil⟩
      | _ => cases h1
    | _ => cases dt <;> cases h1
/-- a def that closes over __class__ -/
structure FunS (K : PySem.W.Frag) (d : He.DefD) (f f2 : Addr) (m : Str) (fd : FuncData) : Prop where
  ex : ∃ (oc : Value) (od : Option Addr) (dV kV doc pm : Value) (an : Option Addr) (cda : Addr) (ct : Value) (osl : Array (Option Value)) (cc : Addr), fd = PySem.W.fnX d.name d.qual d.params d.body d.scope [(("__class__" : Str), cc)] dV kV doc pm an (.ref cda) ct ∧ K.lookup f = some ⟨oc, od, .func fd, osl⟩ ∧ PySem.W.codeIn K (.ref cda) d.qual = true ∧
    DflV K dV (d.dvs K) ∧ ((∃ ar, (d.params.posonlyargs ++ d.params.args).head? = some ar ∧ ar.arg = ("self" : Str)) → SupOk K fd cda cc (He.ga K "Keeping") (He.ga K "Keeping") m f2)
  kp : PySem.W.keepIn K (.ref f) = true
theorem funS_of {d : He.DefD} {m : Str} {f2 : Addr} (hat : d.at_ = (("Keeping" : Str), some m)) (e : fnS K d.at_ = valS d) (c : d.ok K = true) (s : supB K "Keeping" m f2 = true) : FunS K d (He.fAd K d.at_) f2 m (fdOf K d.at_) := by
  obtain ⟨kp, c2⟩ := all2 (show (PySem.W.keepIn K (.ref (He.fAd K d.at_)) && (match K.lookup (He.fAd K d.at_) with
    | some ⟨_, _, .func fd, _⟩ => PySem.W.codeIn K fd.code d.qual && (He.dflB K fd.defaults (d.dvs K) && He.kwdB K fd.kwdefaults (d.kws K))
    | _ => false)) = true from c)
  unfold fnS at e
  have efd : ∀ oc od fd osl, K.lookup (He.fAd K d.at_) = some ⟨oc, od, .func fd, osl⟩ → fdOf K d.at_ = fd ∧ cellOfC K d.at_ = (match fd.closure with | [(_, c)] => c | _ => 0) ∧ codeOfF K d.at_ = (match fd.code with | .ref c => c | _ => 0) := fun oc od fd osl q => by
    unfold fdOf cellOfC codeOfF
    rw [q]
    exact ⟨rfl, rfl, rfl⟩
  cases q : K.lookup (He.fAd K d.at_) with
  | none => rw [q] at c2; cases c2
  | some o =>
    obtain ⟨oc, od, dt, osl⟩ := o
    rw [q] at c2 e
    cases dt with
    | func fd =>
      obtain ⟨efd1, efd2, efd3⟩ := efd oc od fd osl q
      obtain ⟨n1, n2, n3, n4, n5, n6, n7, n8, n9, n10, n11, n12, n13, n14, n15⟩ := fd
      have e2 : (some (n1, n2, n3, n4, n5, n6, n7.map (·.1), n15) : FnS) = some (d.name, d.qual, d.params, .stmts d.body, d.scope, mainGlobals, [("__class__" : Str)], builtinsNs) := e
      simp only [Option.some.injEq, Prod.mk.injEq] at e2
      obtain ⟨h1, h2, h3, h4, h5, h6, h7, h8⟩ := e2
      subst h1 h2 h3 h4 h5 h6 h8
      obtain ⟨⟨y, cc⟩, r, rfl, hy, hr⟩ := List.map_eq_cons_iff.mp h7
      have hy : y = ("__class__" : Str) := hy
      subst hy
      obtain rfl : r = [] := List.map_eq_nil_iff.mp hr
      have c3 : (PySem.W.codeIn K n13 d.qual && (He.dflB K n8 (d.dvs K) && He.kwdB K n9 (d.kws K))) = true := c2
      obtain ⟨k1, k2⟩ := all2 c3
      obtain ⟨k3, _⟩ := all2 k2
      obtain ⟨cda, rfl⟩ : ∃ a, n13 = .ref a := by
        cases n13 with
        | ref a => exact ⟨a, rfl⟩
        | _ => cases k1
      have ecc : cellOfC K d.at_ = cc := efd2
      have ecd : codeOfF K d.at_ = cda := efd3
      refine ⟨⟨oc, od, n8, n9, n10, n11, n12, cda, n14, osl, cc, efd1, efd1 ▸ q, k1, He.dflB_ok k3, fun hh => ?_⟩, kp⟩
      unfold supB at s
      rw [← hat, ecc, ecd] at s
      obtain ⟨s1, s⟩ := all2 s
      obtain ⟨s2, s⟩ := all2 s
      obtain ⟨s3, s⟩ := all2 s
      obtain ⟨s4, s⟩ := all2 s
      obtain ⟨s5, s⟩ := all2 s
      obtain ⟨s6, s⟩ := all2 s
      obtain ⟨s7, s8⟩ := all2 s
      obtain ⟨cd, hcd⟩ := Option.isSome_iff_exists.mp s3
      refine ⟨efd1.symm ▸ hh, ?_, ?_, ⟨cd, hcd⟩, ⟨cd, hcd⟩, of_decide_eq_true s4, He.eqO_ok s5, of_decide_eq_true s6, of_decide_eq_true s7, s8⟩
      · cases z : K.lookup cda with
        | none => rw [z] at s1; cases s1
        | some o =>
          obtain ⟨a1, a2, a3, a4⟩ := o
          rw [z] at s1
          cases a3 with
          | fields vs =>
            have t1 : (match vs[2]? with | some (Value.str file _) => (PP.main.file : Str) == file | _ => false) = true := s1
            cases z2 : vs[2]? with
            | none => rw [z2] at t1; cases t1
            | some v =>
              rw [z2] at t1
              cases v with
              | str file tf => exact ⟨a1, a2, vs, a4, file, tf, rfl, z2, t1⟩
              | _ => cases t1
          | _ => cases s1
      · cases z : K.lookup cc with
        | none => rw [z] at s2; cases s2
        | some o =>
          obtain ⟨a1, a2, a3, a4⟩ := o
          rw [z] at s2
          cases a3 with
          | cell v =>
            cases v with
            | none => cases s2
            | some u =>
              cases u with
              | ref D =>
                have e3 : D = He.ga K "Keeping" := of_decide_eq_true s2
                rw [e3] at z
                exact ⟨a1, a2, a4, e3 ▸ rfl⟩
              | _ => cases s2
          | _ => cases s2
    | _ => cases c2

theorem Tx.g_as_tuples (T : Tx K mg) : mg ("as_tuples" : Str) = some (.ref (He.ga K "as_tuples")) := T.glo 0 rfl
theorem Tx.g_events_of (T : Tx K mg) : mg ("events_of" : Str) = some (.ref (He.ga K "events_of")) := T.glo 1 rfl
theorem Tx.g_looks (T : Tx K mg) : mg ("looks" : Str) = some (.ref (He.ga K "looks")) := T.glo 2 rfl
theorem Tx.g_adds (T : Tx K mg) : mg ("adds" : Str) = some (.ref (He.ga K "adds")) := T.glo 3 rfl
theorem Tx.g_check_look (T : Tx K mg) : mg ("check_look" : Str) = some (.ref (He.ga K "check_look")) := T.glo 4 rfl
theorem Tx.g_check_people (T : Tx K mg) : mg ("check_people" : Str) = some (.ref (He.ga K "check_people")) := T.glo 5 rfl
theorem Tx.g_branch (T : Tx K mg) : mg ("branch" : Str) = some (.ref (He.ga K "branch")) := T.glo 6 rfl
theorem Tx.g_kept_people (T : Tx K mg) : mg ("kept_people" : Str) = some (.ref (He.ga K "kept_people")) := T.glo 7 rfl
theorem Tx.g_kept_from (T : Tx K mg) : mg ("kept_from" : Str) = some (.ref (He.ga K "kept_from")) := T.glo 8 rfl
theorem Tx.g_way_of (T : Tx K mg) : mg ("way_of" : Str) = some (.ref (He.ga K "way_of")) := T.glo 9 rfl
theorem Tx.g_keep_way (T : Tx K mg) : mg ("keep_way" : Str) = some (.ref (He.ga K "keep_way")) := T.glo 10 rfl
theorem Tx.g_audiences (T : Tx K mg) : mg ("audiences" : Str) = some (.ref (He.ga K "audiences")) := T.glo 11 rfl
theorem Tx.g__law_lean (T : Tx K mg) : mg ("_law_lean" : Str) = some (.ref (He.ga K "_law_lean")) := T.glo 12 rfl
theorem Tx.g__law_take (T : Tx K mg) : mg ("_law_take" : Str) = some (.ref (He.ga K "_law_take")) := T.glo 13 rfl
theorem Tx.g__law_event (T : Tx K mg) : mg ("_law_event" : Str) = some (.ref (He.ga K "_law_event")) := T.glo 14 rfl
theorem Tx.g__law_table (T : Tx K mg) : mg ("_law_table" : Str) = some (.ref (He.ga K "_law_table")) := T.glo 15 rfl
theorem Tx.g__law_live (T : Tx K mg) : mg ("_law_live" : Str) = some (.ref (He.ga K "_law_live")) := T.glo 16 rfl
theorem Tx.g__law_same (T : Tx K mg) : mg ("_law_same" : Str) = some (.ref (He.ga K "_law_same")) := T.glo 17 rfl
theorem Tx.g__law_box (T : Tx K mg) : mg ("_law_box" : Str) = some (.ref (He.ga K "_law_box")) := T.glo 18 rfl
theorem Tx.g__law_heard (T : Tx K mg) : mg ("_law_heard" : Str) = some (.ref (He.ga K "_law_heard")) := T.glo 19 rfl
theorem Tx.g__law_right (T : Tx K mg) : mg ("_law_right" : Str) = some (.ref (He.ga K "_law_right")) := T.glo 20 rfl
theorem Tx.g_law (T : Tx K mg) : mg ("law" : Str) = some (.ref (He.ga K "law")) := T.glo 21 rfl
theorem Tx.g_Bonds (T : Tx K mg) : mg ("Bonds" : Str) = some (.ref (He.ga K "Bonds")) := T.glo 22 rfl
theorem Tx.g_Keeping (T : Tx K mg) : mg ("Keeping" : Str) = some (.ref (He.ga K "Keeping")) := T.glo 23 rfl
theorem Tx.g_Audience (T : Tx K mg) : mg ("Audience" : Str) = some (.ref (He.ga K "Audience")) := T.glo 24 rfl
theorem Tx.s_LOOK (T : Tx K mg) : ∃ t, mg ("LOOK" : Str) = some (.str "look" t) := T.str 25 rfl
theorem Tx.s_ADD (T : Tx K mg) : ∃ t, mg ("ADD" : Str) = some (.str "add" t) := T.str 26 rfl
theorem Tx.s_MEET (T : Tx K mg) : ∃ t, mg ("MEET" : Str) = some (.str "meet" t) := T.str 27 rfl
theorem Tx.s_LONG (T : Tx K mg) : ∃ t, mg ("LONG" : Str) = some (.str "long" t) := T.str 28 rfl
theorem Tx.s_ALIKE (T : Tx K mg) : ∃ t, mg ("ALIKE" : Str) = some (.str "alike" t) := T.str 29 rfl
theorem Tx.s_BEGINS (T : Tx K mg) : ∃ t, mg ("BEGINS" : Str) = some (.str "begins" t) := T.str 30 rfl
theorem Tx.s_NO (T : Tx K mg) : ∃ t, mg ("NO" : Str) = some (.str "no" t) := T.str 31 rfl
theorem Tx.s_DELAY (T : Tx K mg) : ∃ t, mg ("DELAY" : Str) = some (.str "delay" t) := T.str 32 rfl
theorem Tx.s_FORK (T : Tx K mg) : ∃ t, mg ("FORK" : Str) = some (.str "fork" t) := T.str 33 rfl
theorem Tx.f_len (T : Tx K mg) : mg ("len" : Str) = none := T.free 34 rfl
theorem Tx.f_range (T : Tx K mg) : mg ("range" : Str) = none := T.free 35 rfl
theorem Tx.f_list (T : Tx K mg) : mg ("list" : Str) = none := T.free 36 rfl
theorem Tx.f_tuple (T : Tx K mg) : mg ("tuple" : Str) = none := T.free 37 rfl
theorem Tx.f_isinstance (T : Tx K mg) : mg ("isinstance" : Str) = none := T.free 38 rfl
theorem Tx.f_sorted (T : Tx K mg) : mg ("sorted" : Str) = none := T.free 39 rfl
theorem Tx.f_set (T : Tx K mg) : mg ("set" : Str) = none := T.free 40 rfl
theorem Tx.f_any (T : Tx K mg) : mg ("any" : Str) = none := T.free 41 rfl
theorem Tx.f_all (T : Tx K mg) : mg ("all" : Str) = none := T.free 42 rfl
theorem Tx.f_max (T : Tx K mg) : mg ("max" : Str) = none := T.free 43 rfl
theorem Tx.f_min (T : Tx K mg) : mg ("min" : Str) = none := T.free 44 rfl
theorem Tx.f_enumerate (T : Tx K mg) : mg ("enumerate" : Str) = none := T.free 45 rfl
theorem Tx.f_zip (T : Tx K mg) : mg ("zip" : Str) = none := T.free 46 rfl
theorem Tx.f_int (T : Tx K mg) : mg ("int" : Str) = none := T.free 47 rfl
theorem Tx.f_abs (T : Tx K mg) : mg ("abs" : Str) = none := T.free 48 rfl
theorem Tx.f_bool (T : Tx K mg) : mg ("bool" : Str) = none := T.free 49 rfl
theorem Tx.f_str (T : Tx K mg) : mg ("str" : Str) = none := T.free 50 rfl
theorem Tx.f_super (T : Tx K mg) : mg ("super" : Str) = none := T.free 51 rfl
theorem Tx.c_Bonds (T : Tx K mg) : Cls K (He.ga K "Bonds") := He.cls_ok (T.fact 52 rfl)
theorem Tx.k_Bonds (T : Tx K mg) : Mk K (He.ga K "Bonds") (He.fAd K ("Bonds", some "__init__")) := He.mkr_ok (T.fact 53 rfl)
theorem Tx.n_B_own_people (T : Tx K mg) : NoAttr K (He.ga K "Bonds") "own_people" := He.noat_ok (T.fact 54 rfl)
theorem Tx.n_B_own_events (T : Tx K mg) : NoAttr K (He.ga K "Bonds") "own_events" := He.noat_ok (T.fact 55 rfl)
theorem Tx.n_B_own_kind (T : Tx K mg) : NoAttr K (He.ga K "Bonds") "own_kind" := He.noat_ok (T.fact 56 rfl)
theorem Tx.n_B_own_gone (T : Tx K mg) : NoAttr K (He.ga K "Bonds") "own_gone" := He.noat_ok (T.fact 57 rfl)
theorem Tx.n_B_own_looks (T : Tx K mg) : NoAttr K (He.ga K "Bonds") "own_looks" := He.noat_ok (T.fact 58 rfl)
theorem Tx.n_B_own_adds (T : Tx K mg) : NoAttr K (He.ga K "Bonds") "own_adds" := He.noat_ok (T.fact 59 rfl)
theorem Tx.n_B_own_alike (T : Tx K mg) : NoAttr K (He.ga K "Bonds") "own_alike" := He.noat_ok (T.fact 60 rfl)
theorem Tx.n_B_own_below (T : Tx K mg) : NoAttr K (He.ga K "Bonds") "own_below" := He.noat_ok (T.fact 61 rfl)
theorem Tx.n_B_own_has (T : Tx K mg) : NoAttr K (He.ga K "Bonds") "own_has" := He.noat_ok (T.fact 62 rfl)
theorem Tx.n_B_own_facts (T : Tx K mg) : NoAttr K (He.ga K "Bonds") "own_facts" := He.noat_ok (T.fact 63 rfl)
theorem Tx.m_B_many (T : Tx K mg) : Meth K (He.ga K "Bonds") "many" (He.fAd K ("Bonds", some "many")) := He.meth_ok (T.fact 64 rfl)
theorem Tx.m_B_is_alike (T : Tx K mg) : Meth K (He.ga K "Bonds") "is_alike" (He.fAd K ("Bonds", some "is_alike")) := He.meth_ok (T.fact 65 rfl)
theorem Tx.m_B_is_below (T : Tx K mg) : Meth K (He.ga K "Bonds") "is_below" (He.fAd K ("Bonds", some "is_below")) := He.meth_ok (T.fact 66 rfl)
theorem Tx.m_B_has (T : Tx K mg) : Meth K (He.ga K "Bonds") "has" (He.fAd K ("Bonds", some "has")) := He.meth_ok (T.fact 67 rfl)
theorem Tx.m_B_bind (T : Tx K mg) : Meth K (He.ga K "Bonds") "bind" (He.fAd K ("Bonds", some "bind")) := He.meth_ok (T.fact 68 rfl)
theorem Tx.m_B_lower (T : Tx K mg) : Meth K (He.ga K "Bonds") "lower" (He.fAd K ("Bonds", some "lower")) := He.meth_ok (T.fact 69 rfl)
theorem Tx.m_B_go_through (T : Tx K mg) : Meth K (He.ga K "Bonds") "go_through" (He.fAd K ("Bonds", some "go_through")) := He.meth_ok (T.fact 70 rfl)
theorem Tx.m_B_looked (T : Tx K mg) : Meth K (He.ga K "Bonds") "looked" (He.fAd K ("Bonds", some "looked")) := He.meth_ok (T.fact 71 rfl)
theorem Tx.m_B_compared (T : Tx K mg) : Meth K (He.ga K "Bonds") "compared" (He.fAd K ("Bonds", some "compared")) := He.meth_ok (T.fact 72 rfl)
theorem Tx.m_B_is_late (T : Tx K mg) : Meth K (He.ga K "Bonds") "is_late" (He.fAd K ("Bonds", some "is_late")) := He.meth_ok (T.fact 73 rfl)
theorem Tx.m_B_close (T : Tx K mg) : Meth K (He.ga K "Bonds") "close" (He.fAd K ("Bonds", some "close")) := He.meth_ok (T.fact 74 rfl)
theorem Tx.m_B_rules (T : Tx K mg) : Meth K (He.ga K "Bonds") "rules" (He.fAd K ("Bonds", some "rules")) := He.meth_ok (T.fact 75 rfl)
theorem Tx.m_B_newest (T : Tx K mg) : Meth K (He.ga K "Bonds") "newest" (He.fAd K ("Bonds", some "newest")) := He.meth_ok (T.fact 76 rfl)
theorem Tx.m_B_before (T : Tx K mg) : Meth K (He.ga K "Bonds") "before" (He.fAd K ("Bonds", some "before")) := He.meth_ok (T.fact 77 rfl)
theorem Tx.c_Keeping (T : Tx K mg) : Cls K (He.ga K "Keeping") := He.cls_ok (T.fact 78 rfl)
theorem Tx.k_Keeping (T : Tx K mg) : Mk K (He.ga K "Keeping") (He.fAd K ("Keeping", some "__init__")) := He.mkr_ok (T.fact 79 rfl)
theorem Tx.n_K_own_looks (T : Tx K mg) : NoAttr K (He.ga K "Keeping") "own_looks" := He.noat_ok (T.fact 80 rfl)
theorem Tx.n_K_own_adds (T : Tx K mg) : NoAttr K (He.ga K "Keeping") "own_adds" := He.noat_ok (T.fact 81 rfl)
theorem Tx.n_K_own_bonds (T : Tx K mg) : NoAttr K (He.ga K "Keeping") "own_bonds" := He.noat_ok (T.fact 82 rfl)
theorem Tx.n_K_own_unlike (T : Tx K mg) : NoAttr K (He.ga K "Keeping") "own_unlike" := He.noat_ok (T.fact 83 rfl)
theorem Tx.n_K_own_barred (T : Tx K mg) : NoAttr K (He.ga K "Keeping") "own_barred" := He.noat_ok (T.fact 84 rfl)
theorem Tx.m_K_stops (T : Tx K mg) : Meth K (He.ga K "Keeping") "stops" (He.fAd K ("Keeping", some "stops")) := He.meth_ok (T.fact 85 rfl)
theorem Tx.m_K_is_fine (T : Tx K mg) : Meth K (He.ga K "Keeping") "is_fine" (He.fAd K ("Keeping", some "is_fine")) := He.meth_ok (T.fact 86 rfl)
theorem Tx.m_K_everything (T : Tx K mg) : Meth K (He.ga K "Keeping") "everything" (He.fAd K ("Keeping", some "everything")) := He.meth_ok (T.fact 87 rfl)
theorem Tx.m_K_last_add (T : Tx K mg) : Meth K (He.ga K "Keeping") "last_add" (He.fAd K ("Keeping", some "last_add")) := He.meth_ok (T.fact 88 rfl)
theorem Tx.m_K_is_first (T : Tx K mg) : Meth K (He.ga K "Keeping") "is_first" (He.fAd K ("Keeping", some "is_first")) := He.meth_ok (T.fact 89 rfl)
theorem Tx.m_K_parts (T : Tx K mg) : Meth K (He.ga K "Keeping") "parts" (He.fAd K ("Keeping", some "parts")) := He.meth_ok (T.fact 90 rfl)
theorem Tx.m_K_firsts (T : Tx K mg) : Meth K (He.ga K "Keeping") "firsts" (He.fAd K ("Keeping", some "firsts")) := He.meth_ok (T.fact 91 rfl)
theorem Tx.m_K_stuck (T : Tx K mg) : Meth K (He.ga K "Keeping") "stuck" (He.fAd K ("Keeping", some "stuck")) := He.meth_ok (T.fact 92 rfl)
theorem Tx.c_Audience (T : Tx K mg) : Cls K (He.ga K "Audience") := He.cls_ok (T.fact 93 rfl)
theorem Tx.k_Audience (T : Tx K mg) : Mk K (He.ga K "Audience") (He.fAd K ("Audience", some "__init__")) := He.mkr_ok (T.fact 94 rfl)
theorem Tx.n_A_own_bonds (T : Tx K mg) : NoAttr K (He.ga K "Audience") "own_bonds" := He.noat_ok (T.fact 95 rfl)
theorem Tx.n_A_own_people (T : Tx K mg) : NoAttr K (He.ga K "Audience") "own_people" := He.noat_ok (T.fact 96 rfl)
theorem Tx.n_A_own_mark (T : Tx K mg) : NoAttr K (He.ga K "Audience") "own_mark" := He.noat_ok (T.fact 97 rfl)
theorem Tx.n_A_own_newest (T : Tx K mg) : NoAttr K (He.ga K "Audience") "own_newest" := He.noat_ok (T.fact 98 rfl)
theorem Tx.n_A_own_before (T : Tx K mg) : NoAttr K (He.ga K "Audience") "own_before" := He.noat_ok (T.fact 99 rfl)
theorem Tx.m_A_numbers (T : Tx K mg) : Meth K (He.ga K "Audience") "numbers" (He.fAd K ("Audience", some "numbers")) := He.meth_ok (T.fact 100 rfl)
theorem Tx.m_A_sets (T : Tx K mg) : Meth K (He.ga K "Audience") "sets" (He.fAd K ("Audience", some "sets")) := He.meth_ok (T.fact 101 rfl)
theorem Tx.m_A_is_possible (T : Tx K mg) : Meth K (He.ga K "Audience") "is_possible" (He.fAd K ("Audience", some "is_possible")) := He.meth_ok (T.fact 102 rfl)
theorem Tx.m_A_part_of (T : Tx K mg) : Meth K (He.ga K "Audience") "part_of" (He.fAd K ("Audience", some "part_of")) := He.meth_ok (T.fact 103 rfl)
theorem Tx.m_A_cut (T : Tx K mg) : Meth K (He.ga K "Audience") "cut" (He.fAd K ("Audience", some "cut")) := He.meth_ok (T.fact 104 rfl)
theorem Tx.m_A_people (T : Tx K mg) : Meth K (He.ga K "Audience") "people" (He.fAd K ("Audience", some "people")) := He.meth_ok (T.fact 105 rfl)
theorem Tx.F_as_tuples (T : Tx K mg) : FunD K "as_tuples" "as_tuples" (defArgs s_as_tuples) (defBody s_as_tuples) (defScope s_as_tuples) (d_as_tuples.dvs K) [] (He.fAd K d_as_tuples.at_) (fdOf K d_as_tuples.at_) := T.def_ 0 (d := d_as_tuples) rfl
theorem Tx.F_events_of (T : Tx K mg) : FunD K "events_of" "events_of" (defArgs s_events_of) (defBody s_events_of) (defScope s_events_of) (d_events_of.dvs K) [] (He.fAd K d_events_of.at_) (fdOf K d_events_of.at_) := T.def_ 1 (d := d_events_of) rfl
theorem Tx.F_looks (T : Tx K mg) : FunD K "looks" "looks" (defArgs s_looks) (defBody s_looks) (defScope s_looks) (d_looks.dvs K) [] (He.fAd K d_looks.at_) (fdOf K d_looks.at_) := T.def_ 2 (d := d_looks) rfl
theorem Tx.F_adds (T : Tx K mg) : FunD K "adds" "adds" (defArgs s_adds) (defBody s_adds) (defScope s_adds) (d_adds.dvs K) [] (He.fAd K d_adds.at_) (fdOf K d_adds.at_) := T.def_ 3 (d := d_adds) rfl
theorem Tx.F_B_init (T : Tx K mg) : FunD K "__init__" "Bonds.__init__" (defArgs s_B_init) (defBody s_B_init) (defScope s_B_init) (d_B_init.dvs K) [] (He.fAd K d_B_init.at_) (fdOf K d_B_init.at_) := T.def_ 4 (d := d_B_init) rfl
theorem Tx.F_B_many (T : Tx K mg) : FunD K "many" "Bonds.many" (defArgs s_B_many) (defBody s_B_many) (defScope s_B_many) (d_B_many.dvs K) [] (He.fAd K d_B_many.at_) (fdOf K d_B_many.at_) := T.def_ 5 (d := d_B_many) rfl
theorem Tx.F_B_is_alike (T : Tx K mg) : FunD K "is_alike" "Bonds.is_alike" (defArgs s_B_is_alike) (defBody s_B_is_alike) (defScope s_B_is_alike) (d_B_is_alike.dvs K) [] (He.fAd K d_B_is_alike.at_) (fdOf K d_B_is_alike.at_) := T.def_ 6 (d := d_B_is_alike) rfl
theorem Tx.F_B_is_below (T : Tx K mg) : FunD K "is_below" "Bonds.is_below" (defArgs s_B_is_below) (defBody s_B_is_below) (defScope s_B_is_below) (d_B_is_below.dvs K) [] (He.fAd K d_B_is_below.at_) (fdOf K d_B_is_below.at_) := T.def_ 7 (d := d_B_is_below) rfl
theorem Tx.F_B_has (T : Tx K mg) : FunD K "has" "Bonds.has" (defArgs s_B_has) (defBody s_B_has) (defScope s_B_has) (d_B_has.dvs K) [] (He.fAd K d_B_has.at_) (fdOf K d_B_has.at_) := T.def_ 8 (d := d_B_has) rfl
theorem Tx.F_B_bind (T : Tx K mg) : FunD K "bind" "Bonds.bind" (defArgs s_B_bind) (defBody s_B_bind) (defScope s_B_bind) (d_B_bind.dvs K) [] (He.fAd K d_B_bind.at_) (fdOf K d_B_bind.at_) := T.def_ 9 (d := d_B_bind) rfl
theorem Tx.F_B_lower (T : Tx K mg) : FunD K "lower" "Bonds.lower" (defArgs s_B_lower) (defBody s_B_lower) (defScope s_B_lower) (d_B_lower.dvs K) [] (He.fAd K d_B_lower.at_) (fdOf K d_B_lower.at_) := T.def_ 10 (d := d_B_lower) rfl
theorem Tx.F_B_go_through (T : Tx K mg) : FunD K "go_through" "Bonds.go_through" (defArgs s_B_go_through) (defBody s_B_go_through) (defScope s_B_go_through) (d_B_go_through.dvs K) [] (He.fAd K d_B_go_through.at_) (fdOf K d_B_go_through.at_) := T.def_ 11 (d := d_B_go_through) rfl
theorem Tx.F_B_looked (T : Tx K mg) : FunD K "looked" "Bonds.looked" (defArgs s_B_looked) (defBody s_B_looked) (defScope s_B_looked) (d_B_looked.dvs K) [] (He.fAd K d_B_looked.at_) (fdOf K d_B_looked.at_) := T.def_ 12 (d := d_B_looked) rfl
theorem Tx.F_B_compared (T : Tx K mg) : FunD K "compared" "Bonds.compared" (defArgs s_B_compared) (defBody s_B_compared) (defScope s_B_compared) (d_B_compared.dvs K) [] (He.fAd K d_B_compared.at_) (fdOf K d_B_compared.at_) := T.def_ 13 (d := d_B_compared) rfl
theorem Tx.F_B_is_late (T : Tx K mg) : FunD K "is_late" "Bonds.is_late" (defArgs s_B_is_late) (defBody s_B_is_late) (defScope s_B_is_late) (d_B_is_late.dvs K) [] (He.fAd K d_B_is_late.at_) (fdOf K d_B_is_late.at_) := T.def_ 14 (d := d_B_is_late) rfl
theorem Tx.F_B_close (T : Tx K mg) : FunD K "close" "Bonds.close" (defArgs s_B_close) (defBody s_B_close) (defScope s_B_close) (d_B_close.dvs K) [] (He.fAd K d_B_close.at_) (fdOf K d_B_close.at_) := T.def_ 15 (d := d_B_close) rfl
theorem Tx.F_B_rules (T : Tx K mg) : FunD K "rules" "Bonds.rules" (defArgs s_B_rules) (defBody s_B_rules) (defScope s_B_rules) (d_B_rules.dvs K) [] (He.fAd K d_B_rules.at_) (fdOf K d_B_rules.at_) := T.def_ 16 (d := d_B_rules) rfl
theorem Tx.F_B_newest (T : Tx K mg) : FunD K "newest" "Bonds.newest" (defArgs s_B_newest) (defBody s_B_newest) (defScope s_B_newest) (d_B_newest.dvs K) [] (He.fAd K d_B_newest.at_) (fdOf K d_B_newest.at_) := T.def_ 17 (d := d_B_newest) rfl
theorem Tx.F_B_before (T : Tx K mg) : FunD K "before" "Bonds.before" (defArgs s_B_before) (defBody s_B_before) (defScope s_B_before) (d_B_before.dvs K) [] (He.fAd K d_B_before.at_) (fdOf K d_B_before.at_) := T.def_ 18 (d := d_B_before) rfl
theorem Tx.F_check_look (T : Tx K mg) : FunD K "check_look" "check_look" (defArgs s_check_look) (defBody s_check_look) (defScope s_check_look) (d_check_look.dvs K) [] (He.fAd K d_check_look.at_) (fdOf K d_check_look.at_) := T.def_ 19 (d := d_check_look) rfl
theorem Tx.F_P_init (T : Tx K mg) : FunD K "__init__" "Peeling.__init__" (defArgs s_P_init) (defBody s_P_init) (defScope s_P_init) (d_P_init.dvs K) [] (He.fAd K d_P_init.at_) (fdOf K d_P_init.at_) := T.def_ 20 (d := d_P_init) rfl
theorem Tx.F_P_everything (T : Tx K mg) : FunD K "everything" "Peeling.everything" (defArgs s_P_everything) (defBody s_P_everything) (defScope s_P_everything) (d_P_everything.dvs K) [] (He.fAd K d_P_everything.at_) (fdOf K d_P_everything.at_) := T.def_ 21 (d := d_P_everything) rfl
theorem Tx.F_P_last_add (T : Tx K mg) : FunD K "last_add" "Peeling.last_add" (defArgs s_P_last_add) (defBody s_P_last_add) (defScope s_P_last_add) (d_P_last_add.dvs K) [] (He.fAd K d_P_last_add.at_) (fdOf K d_P_last_add.at_) := T.def_ 22 (d := d_P_last_add) rfl
theorem Tx.F_P_stops (T : Tx K mg) : FunD K "stops" "Peeling.stops" (defArgs s_P_stops) (defBody s_P_stops) (defScope s_P_stops) (d_P_stops.dvs K) [] (He.fAd K d_P_stops.at_) (fdOf K d_P_stops.at_) := T.def_ 23 (d := d_P_stops) rfl
theorem Tx.F_P_is_first (T : Tx K mg) : FunD K "is_first" "Peeling.is_first" (defArgs s_P_is_first) (defBody s_P_is_first) (defScope s_P_is_first) (d_P_is_first.dvs K) [] (He.fAd K d_P_is_first.at_) (fdOf K d_P_is_first.at_) := T.def_ 24 (d := d_P_is_first) rfl
theorem Tx.F_P_parts (T : Tx K mg) : FunD K "parts" "Peeling.parts" (defArgs s_P_parts) (defBody s_P_parts) (defScope s_P_parts) (d_P_parts.dvs K) [] (He.fAd K d_P_parts.at_) (fdOf K d_P_parts.at_) := T.def_ 25 (d := d_P_parts) rfl
theorem Tx.F_P_firsts (T : Tx K mg) : FunD K "firsts" "Peeling.firsts" (defArgs s_P_firsts) (defBody s_P_firsts) (defScope s_P_firsts) (d_P_firsts.dvs K) [] (He.fAd K d_P_firsts.at_) (fdOf K d_P_firsts.at_) := T.def_ 26 (d := d_P_firsts) rfl
theorem Tx.F_P_stuck (T : Tx K mg) : FunD K "stuck" "Peeling.stuck" (defArgs s_P_stuck) (defBody s_P_stuck) (defScope s_P_stuck) (d_P_stuck.dvs K) [] (He.fAd K d_P_stuck.at_) (fdOf K d_P_stuck.at_) := T.def_ 27 (d := d_P_stuck) rfl
theorem Tx.F_K_is_fine (T : Tx K mg) : FunD K "is_fine" "Keeping.is_fine" (defArgs s_K_is_fine) (defBody s_K_is_fine) (defScope s_K_is_fine) (d_K_is_fine.dvs K) [] (He.fAd K d_K_is_fine.at_) (fdOf K d_K_is_fine.at_) := T.def_ 28 (d := d_K_is_fine) rfl
theorem Tx.F_A_init (T : Tx K mg) : FunD K "__init__" "Audience.__init__" (defArgs s_A_init) (defBody s_A_init) (defScope s_A_init) (d_A_init.dvs K) [] (He.fAd K d_A_init.at_) (fdOf K d_A_init.at_) := T.def_ 29 (d := d_A_init) rfl
theorem Tx.F_A_numbers (T : Tx K mg) : FunD K "numbers" "Audience.numbers" (defArgs s_A_numbers) (defBody s_A_numbers) (defScope s_A_numbers) (d_A_numbers.dvs K) [] (He.fAd K d_A_numbers.at_) (fdOf K d_A_numbers.at_) := T.def_ 30 (d := d_A_numbers) rfl
theorem Tx.F_A_sets (T : Tx K mg) : FunD K "sets" "Audience.sets" (defArgs s_A_sets) (defBody s_A_sets) (defScope s_A_sets) (d_A_sets.dvs K) [] (He.fAd K d_A_sets.at_) (fdOf K d_A_sets.at_) := T.def_ 31 (d := d_A_sets) rfl
theorem Tx.F_A_is_possible (T : Tx K mg) : FunD K "is_possible" "Audience.is_possible" (defArgs s_A_is_possible) (defBody s_A_is_possible) (defScope s_A_is_possible) (d_A_is_possible.dvs K) [] (He.fAd K d_A_is_possible.at_) (fdOf K d_A_is_possible.at_) := T.def_ 32 (d := d_A_is_possible) rfl
theorem Tx.F_A_part_of (T : Tx K mg) : FunD K "part_of" "Audience.part_of" (defArgs s_A_part_of) (defBody s_A_part_of) (defScope s_A_part_of) (d_A_part_of.dvs K) [] (He.fAd K d_A_part_of.at_) (fdOf K d_A_part_of.at_) := T.def_ 33 (d := d_A_part_of) rfl
theorem Tx.F_A_cut (T : Tx K mg) : FunD K "cut" "Audience.cut" (defArgs s_A_cut) (defBody s_A_cut) (defScope s_A_cut) (d_A_cut.dvs K) [] (He.fAd K d_A_cut.at_) (fdOf K d_A_cut.at_) := T.def_ 34 (d := d_A_cut) rfl
theorem Tx.F_A_people (T : Tx K mg) : FunD K "people" "Audience.people" (defArgs s_A_people) (defBody s_A_people) (defScope s_A_people) (d_A_people.dvs K) [] (He.fAd K d_A_people.at_) (fdOf K d_A_people.at_) := T.def_ 35 (d := d_A_people) rfl
theorem Tx.F_check_people (T : Tx K mg) : FunD K "check_people" "check_people" (defArgs s_check_people) (defBody s_check_people) (defScope s_check_people) (d_check_people.dvs K) [] (He.fAd K d_check_people.at_) (fdOf K d_check_people.at_) := T.def_ 36 (d := d_check_people) rfl
theorem Tx.F_branch (T : Tx K mg) : FunD K "branch" "branch" (defArgs s_branch) (defBody s_branch) (defScope s_branch) (d_branch.dvs K) [] (He.fAd K d_branch.at_) (fdOf K d_branch.at_) := T.def_ 37 (d := d_branch) rfl
theorem Tx.F_kept_people (T : Tx K mg) : FunD K "kept_people" "kept_people" (defArgs s_kept_people) (defBody s_kept_people) (defScope s_kept_people) (d_kept_people.dvs K) [] (He.fAd K d_kept_people.at_) (fdOf K d_kept_people.at_) := T.def_ 38 (d := d_kept_people) rfl
theorem Tx.F_kept_from (T : Tx K mg) : FunD K "kept_from" "kept_from" (defArgs s_kept_from) (defBody s_kept_from) (defScope s_kept_from) (d_kept_from.dvs K) [] (He.fAd K d_kept_from.at_) (fdOf K d_kept_from.at_) := T.def_ 39 (d := d_kept_from) rfl
theorem Tx.F_way_of (T : Tx K mg) : FunD K "way_of" "way_of" (defArgs s_way_of) (defBody s_way_of) (defScope s_way_of) (d_way_of.dvs K) [] (He.fAd K d_way_of.at_) (fdOf K d_way_of.at_) := T.def_ 40 (d := d_way_of) rfl
theorem Tx.F_keep_way (T : Tx K mg) : FunD K "keep_way" "keep_way" (defArgs s_keep_way) (defBody s_keep_way) (defScope s_keep_way) (d_keep_way.dvs K) [] (He.fAd K d_keep_way.at_) (fdOf K d_keep_way.at_) := T.def_ 41 (d := d_keep_way) rfl
theorem Tx.F_audiences (T : Tx K mg) : FunD K "audiences" "audiences" (defArgs s_audiences) (defBody s_audiences) (defScope s_audiences) (d_audiences.dvs K) [] (He.fAd K d_audiences.at_) (fdOf K d_audiences.at_) := T.def_ 42 (d := d_audiences) rfl
theorem Tx.F_law_lean (T : Tx K mg) : FunD K "_law_lean" "_law_lean" (defArgs s_law_lean) (defBody s_law_lean) (defScope s_law_lean) (d_law_lean.dvs K) [] (He.fAd K d_law_lean.at_) (fdOf K d_law_lean.at_) := T.def_ 43 (d := d_law_lean) rfl
theorem Tx.F_law_take (T : Tx K mg) : FunD K "_law_take" "_law_take" (defArgs s_law_take) (defBody s_law_take) (defScope s_law_take) (d_law_take.dvs K) [] (He.fAd K d_law_take.at_) (fdOf K d_law_take.at_) := T.def_ 44 (d := d_law_take) rfl
theorem Tx.F_law_event (T : Tx K mg) : FunD K "_law_event" "_law_event" (defArgs s_law_event) (defBody s_law_event) (defScope s_law_event) (d_law_event.dvs K) [] (He.fAd K d_law_event.at_) (fdOf K d_law_event.at_) := T.def_ 45 (d := d_law_event) rfl
theorem Tx.F_law_table (T : Tx K mg) : FunD K "_law_table" "_law_table" (defArgs s_law_table) (defBody s_law_table) (defScope s_law_table) (d_law_table.dvs K) [] (He.fAd K d_law_table.at_) (fdOf K d_law_table.at_) := T.def_ 46 (d := d_law_table) rfl
theorem Tx.F_law_live (T : Tx K mg) : FunD K "_law_live" "_law_live" (defArgs s_law_live) (defBody s_law_live) (defScope s_law_live) (d_law_live.dvs K) [] (He.fAd K d_law_live.at_) (fdOf K d_law_live.at_) := T.def_ 47 (d := d_law_live) rfl
theorem Tx.F_law_same (T : Tx K mg) : FunD K "_law_same" "_law_same" (defArgs s_law_same) (defBody s_law_same) (defScope s_law_same) (d_law_same.dvs K) [] (He.fAd K d_law_same.at_) (fdOf K d_law_same.at_) := T.def_ 48 (d := d_law_same) rfl
theorem Tx.F_law_box (T : Tx K mg) : FunD K "_law_box" "_law_box" (defArgs s_law_box) (defBody s_law_box) (defScope s_law_box) (d_law_box.dvs K) [] (He.fAd K d_law_box.at_) (fdOf K d_law_box.at_) := T.def_ 49 (d := d_law_box) rfl
theorem Tx.F_law_heard (T : Tx K mg) : FunD K "_law_heard" "_law_heard" (defArgs s_law_heard) (defBody s_law_heard) (defScope s_law_heard) (d_law_heard.dvs K) [] (He.fAd K d_law_heard.at_) (fdOf K d_law_heard.at_) := T.def_ 50 (d := d_law_heard) rfl
theorem Tx.F_law_right (T : Tx K mg) : FunD K "_law_right" "_law_right" (defArgs s_law_right) (defBody s_law_right) (defScope s_law_right) (d_law_right.dvs K) [] (He.fAd K d_law_right.at_) (fdOf K d_law_right.at_) := T.def_ 51 (d := d_law_right) rfl
theorem Tx.F_law (T : Tx K mg) : FunD K "law" "law" (defArgs s_law) (defBody s_law) (defScope s_law) (d_law.dvs K) [] (He.fAd K d_law.at_) (fdOf K d_law.at_) := T.def_ 52 (d := d_law) rfl
theorem Tx.F_K_init (T : Tx K mg) : FunS K d_K_init (He.fAd K d_K_init.at_) (He.fAd K ("Peeling", some "__init__")) "__init__" (fdOf K d_K_init.at_) := by
  obtain ⟨_, _, _, c⟩ := id T
  have e := congrArg (fun l : List FnS => l[0]?) (sup_list c)
  have ok := List.all_eq_true.mp (all2 (ex_flag c)).1 d_K_init (by simp [fx])
  have ex := all2 T.ex
  exact funS_of rfl (Option.some.inj e) ok ex.1
theorem Tx.F_K_stops (T : Tx K mg) : FunS K d_K_stops (He.fAd K d_K_stops.at_) (He.fAd K ("Peeling", some "stops")) "stops" (fdOf K d_K_stops.at_) := by
  obtain ⟨_, _, _, c⟩ := id T
  have e := congrArg (fun l : List FnS => l[1]?) (sup_list c)
  have ok := List.all_eq_true.mp (all2 (ex_flag c)).1 d_K_stops (by simp [fx])
  have ex := all2 T.ex
  exact funS_of rfl (Option.some.inj e) ok (all2 ex.2).1
end
section
variable {K : PySem.W.Frag} {mg : Str → Option Value}
theorem Tx.b_as_tuples (T : Tx K mg) : Binds K (fdOf K d_as_tuples.at_) ["thing"] [] := FunD.bindsN (ps := ["thing"]) T.F_as_tuples fun _ _ _ _ _ _ us hl => match us, hl with | [_], _ => rfl
theorem Tx.b_events_of (T : Tx K mg) : Binds K (fdOf K d_events_of.at_) ["timetable", "word"] [] := FunD.bindsN (ps := ["timetable", "word"]) T.F_events_of fun _ _ _ _ _ _ us hl => match us, hl with | [_, _], _ => rfl
theorem Tx.b_looks (T : Tx K mg) : Binds K (fdOf K d_looks.at_) ["timetable"] [] := FunD.bindsN (ps := ["timetable"]) T.F_looks fun _ _ _ _ _ _ us hl => match us, hl with | [_], _ => rfl
theorem Tx.b_adds (T : Tx K mg) : Binds K (fdOf K d_adds.at_) ["timetable"] [] := FunD.bindsN (ps := ["timetable"]) T.F_adds fun _ _ _ _ _ _ us hl => match us, hl with | [_], _ => rfl
theorem Tx.b_B_many (T : Tx K mg) : Binds K (fdOf K d_B_many.at_) ["self"] [] := FunD.bindsN (ps := ["self"]) T.F_B_many fun _ _ _ _ _ _ us hl => match us, hl with | [_], _ => rfl
theorem Tx.b_B_is_alike (T : Tx K mg) : Binds K (fdOf K d_B_is_alike.at_) ["self", "one", "other"] [] := FunD.bindsN (ps := ["self", "one", "other"]) T.F_B_is_alike fun _ _ _ _ _ _ us hl => match us, hl with | [_, _, _], _ => rfl
theorem Tx.b_B_is_below (T : Tx K mg) : Binds K (fdOf K d_B_is_below.at_) ["self", "one", "other"] [] := FunD.bindsN (ps := ["self", "one", "other"]) T.F_B_is_below fun _ _ _ _ _ _ us hl => match us, hl with | [_, _, _], _ => rfl
theorem Tx.b_B_has (T : Tx K mg) : Binds K (fdOf K d_B_has.at_) ["self", "person"] [] := FunD.bindsN (ps := ["self", "person"]) T.F_B_has fun _ _ _ _ _ _ us hl => match us, hl with | [_, _], _ => rfl
theorem Tx.b_B_go_through (T : Tx K mg) : Binds K (fdOf K d_B_go_through.at_) ["self"] [] := FunD.bindsN (ps := ["self"]) T.F_B_go_through fun _ _ _ _ _ _ us hl => match us, hl with | [_], _ => rfl
theorem Tx.b_B_looked (T : Tx K mg) : Binds K (fdOf K d_B_looked.at_) ["self", "person", "number"] [] := FunD.bindsN (ps := ["self", "person", "number"]) T.F_B_looked fun _ _ _ _ _ _ us hl => match us, hl with | [_, _, _], _ => rfl
theorem Tx.b_B_compared (T : Tx K mg) : Binds K (fdOf K d_B_compared.at_) ["self", "event"] [] := FunD.bindsN (ps := ["self", "event"]) T.F_B_compared fun _ _ _ _ _ _ us hl => match us, hl with | [_, _], _ => rfl
theorem Tx.b_B_is_late (T : Tx K mg) : Binds K (fdOf K d_B_is_late.at_) ["self", "one", "other"] [] := FunD.bindsN (ps := ["self", "one", "other"]) T.F_B_is_late fun _ _ _ _ _ _ us hl => match us, hl with | [_, _, _], _ => rfl
theorem Tx.b_B_close (T : Tx K mg) : Binds K (fdOf K d_B_close.at_) ["self"] [] := FunD.bindsN (ps := ["self"]) T.F_B_close fun _ _ _ _ _ _ us hl => match us, hl with | [_], _ => rfl
theorem Tx.b_B_rules (T : Tx K mg) : Binds K (fdOf K d_B_rules.at_) ["self", "one", "other"] [] := FunD.bindsN (ps := ["self", "one", "other"]) T.F_B_rules fun _ _ _ _ _ _ us hl => match us, hl with | [_, _, _], _ => rfl
theorem Tx.b_B_newest (T : Tx K mg) : Binds K (fdOf K d_B_newest.at_) ["self", "number"] [] := FunD.bindsN (ps := ["self", "number"]) T.F_B_newest fun _ _ _ _ _ _ us hl => match us, hl with | [_, _], _ => rfl
theorem Tx.b_B_before (T : Tx K mg) : Binds K (fdOf K d_B_before.at_) ["self", "number"] [] := FunD.bindsN (ps := ["self", "number"]) T.F_B_before fun _ _ _ _ _ _ us hl => match us, hl with | [_, _], _ => rfl
theorem Tx.b_check_look (T : Tx K mg) : Binds K (fdOf K d_check_look.at_) ["timetable", "number"] [] := FunD.bindsN (ps := ["timetable", "number"]) T.F_check_look fun _ _ _ _ _ _ us hl => match us, hl with | [_, _], _ => rfl
theorem Tx.b_P_everything (T : Tx K mg) : Binds K (fdOf K d_P_everything.at_) ["self"] [] := FunD.bindsN (ps := ["self"]) T.F_P_everything fun _ _ _ _ _ _ us hl => match us, hl with | [_], _ => rfl
theorem Tx.b_P_last_add (T : Tx K mg) : Binds K (fdOf K d_P_last_add.at_) ["self", "look"] [] := FunD.bindsN (ps := ["self", "look"]) T.F_P_last_add fun _ _ _ _ _ _ us hl => match us, hl with | [_, _], _ => rfl
theorem Tx.b_P_stops (T : Tx K mg) : Binds K (fdOf K d_P_stops.at_) ["self", "look", "other"] [] := FunD.bindsN (ps := ["self", "look", "other"]) T.F_P_stops fun _ _ _ _ _ _ us hl => match us, hl with | [_, _, _], _ => rfl
theorem Tx.b_P_is_first (T : Tx K mg) : Binds K (fdOf K d_P_is_first.at_) ["self", "look", "part"] [] := FunD.bindsN (ps := ["self", "look", "part"]) T.F_P_is_first fun _ _ _ _ _ _ us hl => match us, hl with | [_, _, _], _ => rfl
theorem Tx.b_P_parts (T : Tx K mg) : Binds K (fdOf K d_P_parts.at_) ["self", "some"] [] := FunD.bindsN (ps := ["self", "some"]) T.F_P_parts fun _ _ _ _ _ _ us hl => match us, hl with | [_, _], _ => rfl
theorem Tx.b_P_firsts (T : Tx K mg) : Binds K (fdOf K d_P_firsts.at_) ["self", "part"] [] := FunD.bindsN (ps := ["self", "part"]) T.F_P_firsts fun _ _ _ _ _ _ us hl => match us, hl with | [_, _], _ => rfl
theorem Tx.b_P_stuck (T : Tx K mg) : Binds K (fdOf K d_P_stuck.at_) ["self", "some"] [] := FunD.bindsN (ps := ["self", "some"]) T.F_P_stuck fun _ _ _ _ _ _ us hl => match us, hl with | [_, _], _ => rfl
theorem Tx.b_K_is_fine (T : Tx K mg) : Binds K (fdOf K d_K_is_fine.at_) ["self"] [] := FunD.bindsN (ps := ["self"]) T.F_K_is_fine fun _ _ _ _ _ _ us hl => match us, hl with | [_], _ => rfl
theorem Tx.b_A_init (T : Tx K mg) : Binds K (fdOf K d_A_init.at_) ["self", "timetable", "kind", "mark"] [] := FunD.bindsN (ps := ["self", "timetable", "kind", "mark"]) T.F_A_init fun _ _ _ _ _ _ us hl => match us, hl with | [_, _, _, _], _ => rfl
theorem Tx.b_A_numbers (T : Tx K mg) : Binds K (fdOf K d_A_numbers.at_) ["self"] [] := FunD.bindsN (ps := ["self"]) T.F_A_numbers fun _ _ _ _ _ _ us hl => match us, hl with | [_], _ => rfl
theorem Tx.b_A_sets (T : Tx K mg) : Binds K (fdOf K d_A_sets.at_) ["self"] [] := FunD.bindsN (ps := ["self"]) T.F_A_sets fun _ _ _ _ _ _ us hl => match us, hl with | [_], _ => rfl
theorem Tx.b_A_is_possible (T : Tx K mg) : Binds K (fdOf K d_A_is_possible.at_) ["self", "shown"] [] := FunD.bindsN (ps := ["self", "shown"]) T.F_A_is_possible fun _ _ _ _ _ _ us hl => match us, hl with | [_, _], _ => rfl
theorem Tx.b_A_part_of (T : Tx K mg) : Binds K (fdOf K d_A_part_of.at_) ["self", "look", "shown"] [] := FunD.bindsN (ps := ["self", "look", "shown"]) T.F_A_part_of fun _ _ _ _ _ _ us hl => match us, hl with | [_, _, _], _ => rfl
theorem Tx.b_A_cut (T : Tx K mg) : Binds K (fdOf K d_A_cut.at_) ["self", "look", "shown"] [] := FunD.bindsN (ps := ["self", "look", "shown"]) T.F_A_cut fun _ _ _ _ _ _ us hl => match us, hl with | [_, _, _], _ => rfl
theorem Tx.b_A_people (T : Tx K mg) : Binds K (fdOf K d_A_people.at_) ["self", "shown"] [] := FunD.bindsN (ps := ["self", "shown"]) T.F_A_people fun _ _ _ _ _ _ us hl => match us, hl with | [_, _], _ => rfl
theorem Tx.b_check_people (T : Tx K mg) : Binds K (fdOf K d_check_people.at_) ["timetable", "people"] [] := FunD.bindsN (ps := ["timetable", "people"]) T.F_check_people fun _ _ _ _ _ _ us hl => match us, hl with | [_, _], _ => rfl
theorem Tx.b_branch (T : Tx K mg) : Binds K (fdOf K d_branch.at_) ["bonds", "number"] [] := FunD.bindsN (ps := ["bonds", "number"]) T.F_branch fun _ _ _ _ _ _ us hl => match us, hl with | [_, _], _ => rfl
theorem Tx.b_kept_people (T : Tx K mg) : Binds K (fdOf K d_kept_people.at_) ["timetable", "kind", "number"] [] := FunD.bindsN (ps := ["timetable", "kind", "number"]) T.F_kept_people fun _ _ _ _ _ _ us hl => match us, hl with | [_, _, _], _ => rfl
theorem Tx.b_kept_from (T : Tx K mg) : Binds K (fdOf K d_kept_from.at_) ["timetable", "kind", "i"] [] := FunD.bindsN (ps := ["timetable", "kind", "i"]) T.F_kept_from fun _ _ _ _ _ _ us hl => match us, hl with | [_, _, _], _ => rfl
theorem Tx.b_way_of (T : Tx K mg) : Binds K (fdOf K d_way_of.at_) ["timetable", "kind", "wishes"] [] := FunD.bindsN (ps := ["timetable", "kind", "wishes"]) T.F_way_of fun _ _ _ _ _ _ us hl => match us, hl with | [_, _, _], _ => rfl
theorem Tx.b_keep_way (T : Tx K mg) : Binds K (fdOf K d_keep_way.at_) ["timetable", "kind", "i", "people"] [] := FunD.bindsN (ps := ["timetable", "kind", "i", "people"]) T.F_keep_way fun _ _ _ _ _ _ us hl => match us, hl with | [_, _, _, _], _ => rfl
theorem Tx.b_audiences (T : Tx K mg) : Binds K (fdOf K d_audiences.at_) ["timetable", "kind", "i"] [] := FunD.bindsN (ps := ["timetable", "kind", "i"]) T.F_audiences fun _ _ _ _ _ _ us hl => match us, hl with | [_, _, _], _ => rfl
theorem Tx.b_law_lean (T : Tx K mg) : Binds K (fdOf K d_law_lean.at_) ["_law_table_here", "_law_most"] [] := FunD.bindsN (ps := ["_law_table_here", "_law_most"]) T.F_law_lean fun _ _ _ _ _ _ us hl => match us, hl with | [_, _], _ => rfl
theorem Tx.b_law_take (T : Tx K mg) : Binds K (fdOf K d_law_take.at_) ["_law_box_here", "_law_below"] [] := FunD.bindsN (ps := ["_law_box_here", "_law_below"]) T.F_law_take fun _ _ _ _ _ _ us hl => match us, hl with | [_, _], _ => rfl
theorem Tx.b_law_event (T : Tx K mg) : Binds K (fdOf K d_law_event.at_) ["_law_box_here", "_law_folk", "_law_words"] [] := FunD.bindsN (ps := ["_law_box_here", "_law_folk", "_law_words"]) T.F_law_event fun _ _ _ _ _ _ us hl => match us, hl with | [_, _, _], _ => rfl
theorem Tx.b_law_table (T : Tx K mg) : Binds K (fdOf K d_law_table.at_) ["_law_box_here", "_law_folk", "_law_laps", "_law_words", "_law_most"] [] := FunD.bindsN (ps := ["_law_box_here", "_law_folk", "_law_laps", "_law_words", "_law_most"]) T.F_law_table fun _ _ _ _ _ _ us hl => match us, hl with | [_, _, _, _, _], _ => rfl
theorem Tx.b_law_live (T : Tx K mg) : Binds K (fdOf K d_law_live.at_) ["_law_box_here", "_law_folk", "_law_laps", "_law_most"] [] := FunD.bindsN (ps := ["_law_box_here", "_law_folk", "_law_laps", "_law_most"]) T.F_law_live fun _ _ _ _ _ _ us hl => match us, hl with | [_, _, _, _], _ => rfl
theorem Tx.b_law_same (T : Tx K mg) : Binds K (fdOf K d_law_same.at_) ["_law_found", "_law_due"] [] := FunD.bindsN (ps := ["_law_found", "_law_due"]) T.F_law_same fun _ _ _ _ _ _ us hl => match us, hl with | [_, _], _ => rfl
theorem Tx.b_law_box (T : Tx K mg) : Binds K (fdOf K d_law_box.at_) ["_law_script", "_law_lap"] [] := FunD.bindsN (ps := ["_law_script", "_law_lap"]) T.F_law_box fun _ _ _ _ _ _ us hl => match us, hl with | [_, _], _ => rfl
theorem Tx.b_law_heard (T : Tx K mg) : Binds K (fdOf K d_law_heard.at_) ["_law_table_here", "_law_sort_so", "_law_some"] [] := FunD.bindsN (ps := ["_law_table_here", "_law_sort_so", "_law_some"]) T.F_law_heard fun _ _ _ _ _ _ us hl => match us, hl with | [_, _, _], _ => rfl
theorem Tx.b_law_right (T : Tx K mg) : Binds K (fdOf K d_law_right.at_) ["_law_box_here"] [] := FunD.bindsN (ps := ["_law_box_here"]) T.F_law_right fun _ _ _ _ _ _ us hl => match us, hl with | [_], _ => rfl
theorem Tx.b_law (T : Tx K mg) : Binds K (fdOf K d_law.at_) ["_law_script"] [] := FunD.bindsN (ps := ["_law_script"]) T.F_law fun _ _ _ _ _ _ us hl => match us, hl with | [_], _ => rfl
end
end HF
set_option maxHeartbeats 4000000
namespace HF
open PySem PySem.Spec PyProof.Rows L2
/-! an attribute as a part of a tuple target -/
def gFld (K : PySem.W.Frag) (ta : TE) (f : Str) : TG := fun v σ H Q => ta σ H fun x H2 => ∃ a C dx fs, x = .ref a ∧ H2 a = some (.ins C dx fs) ∧ Cls K C ∧ NoAttr K C f ∧ fs.length < 1000 ∧ Q σ (upd H2 a (.ins C dx (putF f v fs)))
theorem pg_fld {X : Cx} {o : Expr} {f : Str} {pos : Pos} {ta : TE} (ha : PE X o ta) : PG X (.Attribute o f pos) (gFld X.K ta f) := by
  refine ⟨fun pins s σ H v u Q I r h => ?_⟩
  rw [assign_Attribute]
  refine wpAny_bind (wpAny_holding (thn (ha.run pins s σ H _ I h) fun ov s2 ⟨x, H2, I2, rx, a, C, dx, fs, ex, ea, c, n, l, q2⟩ => ?_))
  subst ex
  obtain rfl : ov = Value.ref a := rx
  refine wpAny_bind (wpAny_standAt (wpAny_bind (wpAny_holding (setattr_ok I2 ea c n l r fun s3 I3 => ?_))))
  exact wpAny_release ⟨σ, _, I3, q2⟩

/-! enumerate of a tuple -/
theorem mk_enumT (l : Addr) (items : Array Value) (n : Nat) (dct : Option Addr) (sl : Array (Option Value)) :
    Meets (Builtin.«enumerate.__new__» ⟨[.type "enumerate", .ref l], []⟩) (fun _ R s => s.heap.get? l = some { cls := .type "tuple", dict := dct, data := .seq items n, slots := sl } ∧
      R (.ok (.ret (.ref (s.heap.push { cls := .type "tuple_iterator", data := .fields #[.ref l, .int 0 0] }).objs.size)))
        { s with heap := (s.heap.push { cls := .type "tuple_iterator", data := .fields #[.ref l, .int 0 0] }).push { cls := .type "enumerate", data := .fields #[.none, .bool false, .ref s.heap.objs.size, rawInt 0, .none, .none] } }) :=
  .of_wp fun prog w A R s h => by
    obtain ⟨hp, g, d, tk, os⟩ := s; obtain ⟨hl, h⟩ := h
    have hsub := sub_enumerate
    have hL : Heap.IsTuple (Shared.heap ⟨hp, g, d, tk, os⟩) l items := ⟨_, hl, rfl, n, rfl⟩
    wp_walk using AutoSeq1.wpAny_loadPart' hl
    refine wpAny_stack_any fun st => wpAny_pure ?_
    split
    · rename_i c _ _ _ _ _
      cases (c == Value.type "enumerate")
      · wp_walk using AutoSeq1.wpAny_loadPart' hl, wpAny_pyIter_tuple hL
        exact ⟨_, rfl, h⟩
      · wp_walk using AutoSeq1.wpAny_loadPart' hl, wpAny_pyIter_tuple hL
        exact ⟨_, rfl, h⟩
    · wp_walk using AutoSeq1.wpAny_loadPart' hl, wpAny_pyIter_tuple hL
      exact ⟨_, rfl, h⟩
theorem call_enumT {prog : Program} {w : World} {A : Around} {E : Value → Shared → Prop} {s : Shared} {l : Addr} {items : Array Value} {Q : Value → Shared → Prop} (hL : s.heap.IsTuple l items)
    (h : ∀ h', IsEnum h' (s.heap.objs.size + 1) s.heap.objs.size 0 .none → h'.IsTupleIter s.heap.objs.size l 0 → h'.objs.size = s.heap.objs.size + 2 →
      (∀ b o, s.heap.get? b = some o → h'.get? b = some o) → Q (.ref (s.heap.objs.size + 1)) { s with heap := h' }) :
    wpAny (model prog w) A (call (.type "enumerate") [.ref l]) Q E s := by
  obtain ⟨⟨c, dct, dt, sl⟩, hl, hc, n, hd⟩ := hL
  replace hc : c = .type "tuple" := hc
  replace hd : dt = .seq items n := hd
  subst hc hd
  refine callType_new F.called_enumerate (by decide) (F.typeCall_enumerate_1 _) (F.newCall_enumerate_1 _) (fun obj => F.args_object_init_2 obj _) F.entry_enumerate_new
    (mk_enumT l items n dct sl) ⟨hl, ?_⟩
  have hz : (s.heap.push { cls := .type "tuple_iterator", data := .fields #[.ref l, .int 0 0] }).objs.size = s.heap.objs.size + 1 := Heap.size_push ..
  show _ ∧ _
  rw [hz]
  have he : IsEnum ((s.heap.push { cls := .type "tuple_iterator", data := .fields #[.ref l, .int 0 0] }).push
      { cls := .type "enumerate", data := .fields #[.none, .bool false, .ref s.heap.objs.size, rawInt 0, .none, .none] }) (s.heap.objs.size + 1) s.heap.objs.size 0 .none := by
    have := Heap.get?_push_size (s.heap.push { cls := .type "tuple_iterator", data := .fields #[.ref l, .int 0 0] })
      (o := { cls := .type "enumerate", data := .fields #[.none, .bool false, .ref s.heap.objs.size, rawInt 0, .none, .none] }) rfl
    rw [hz] at this; exact this
  exact ⟨⟨_, he, rfl⟩, h _ he ⟨_, Heap.get?_push_of_some _ (Heap.get?_push_size _ rfl), rfl, rfl⟩ (by rw [Heap.size_push, hz]) fun b o x => Heap.get?_push_of_some _ (Heap.get?_push_of_some _ x)⟩
/-- the tuple at a as it stands at each turn, each item in a new pair -/
def IteT (K : PySem.W.Frag) (a : Addr) : It :=
  ⟨fun i H => ∃ (xs : List V) (x : V), SqT K H a xs ∧ xs[i]? = some x, fun i H v H' => ∃ T x, v = .ref T ∧ H T = none ∧ H' = upd H T (.tup [.int (i : Nat), x]) ∧ ∀ xs, SqT K H a xs → xs[i]? = some x, fun i H => ∃ xs : List V, SqT K H a xs ∧ xs.length ≤ i⟩
theorem turn_enumT {P : Program} {w : World} {K : PySem.W.Frag} {elts : List Expr} {kk : Nat} {tpos : Pos} (a e it : Addr) :
    Turn P w K (.Tuple elts kk tpos) (IteT K a) [e, it] e (fun i h => (∃ old, IsEnum h e it ((i : Nat) : Int) old) ∧ h.IsTupleIter it a i ∧ e ≠ it) where
  mem := by simp
  obj := fun i h st b hb => by
    obtain ⟨⟨old, he⟩, ⟨o, ho, hc, hd⟩, _⟩ := st
    have e' : b = e ∨ b = it := by simpa using hb
    rcases e' with z | z
    · rw [z]; exact ⟨_, he, fun v q => nomatch q⟩
    · rw [z]; exact ⟨o, ho, fun v q => by rw [hd] at q; cases q⟩
  keep := fun i h h' st k => let ⟨⟨old, he⟩, hi, hne⟩ := st; ⟨⟨old, k e (by simp) _ he⟩, hi.at fun o q => k it (by simp) o q, hne⟩
  item := by
    intro X hP hw hK hc i pins s σ H E I hf st hg
    subst hP hw hK
    obtain ⟨⟨old, he⟩, hit, hne⟩ := st
    obtain ⟨xs, x, hq, hx⟩ := hg
    obtain ⟨its, rv, p, hz⟩ := I.tuple hq
    obtain ⟨u, hu, ru⟩ := rv.get hx
    have hel : e < s.heap.objs.size := Heap.lt_size he
    have hil : it < s.heap.objs.size := by obtain ⟨_, q, _⟩ := hit; exact Heap.lt_size q
    have hea : e ≠ a := by
      rintro rfl
      obtain ⟨o, ho, hcl, _⟩ := id p
      have z : some o = _ := ho.symm.trans he
      cases z
      exact absurd (Value.type.inj hcl) (by decide)
    have hia : a ≠ it := by
      rintro rfl
      obtain ⟨o, ho, hcl, _⟩ := id p
      obtain ⟨o2, ho2, hc2, _⟩ := hit
      have z : some o = some o2 := ho.symm.trans ho2
      cases z
      exact absurd (Value.type.inj (hcl.symm.trans hc2)) (by decide)
    refine wpAny_pyNext_enum_itemD (Draws.tuple (A := X.A.in1) (I.ok.hd hc) it a hia its.toArray) he ⟨hit, show s.heap.IsTuple a its.toArray from p⟩
      (by have := (List.getElem?_eq_some_iff.mp hu).1; simpa using this) hne (by simp; exact ⟨hne, hea⟩) fun y h' tk hy ho hst hT hsz hk => ?_
    have ey : y = u := by
      have q : its.toArray[i]? = some u := by simpa using hu
      exact Option.some.inj (hy.symm.trans q)
    subst ey
    refine ⟨_, rfl, wpAny_letOwnedTupleGo_enum (s := { s with heap := h', toks := tk + 1 }) ho fun h'' he' sb => ?_⟩
    have hT2 : h''.get? s.heap.objs.size = some { cls := .type "tuple", data := .seq #[.int i tk, y] } := (sb.2 _ (Nat.ne_of_gt hel)).trans hT
    have new : ObjOk X.prog X.w (upd H s.heap.objs.size (.tup [.int (i : Nat), x])) h'' s.heap.objs.size (.tup [.int (i : Nat), x]) :=
      ⟨by show 2 ≤ sizeLine; decide, [.int i tk, y], .cons ⟨_, rfl⟩ (.cons ru .nil), ⟨_, hT2, rfl, _, rfl⟩⟩
    have I1 : Inv X pins σ (upd H s.heap.objs.size (.tup [.int (i : Nat), x])) { s with heap := h'', toks := tk + 1 } :=
      I.turnedNew (ch := [e, it]) (fun b ob hb q => (sb.2 b (fun z => hb (by simp [z]))).trans (hk b ob (fun z => hb (by simp [z])) (fun z => hb (by simp [z])) q)) hf (Nat.le_refl _) new
    refine ⟨.ref s.heap.objs.size, _, I1, rfl, ⟨_, x, rfl, I.hok.fresh (Nat.le_refl _), rfl, fun ys hy => by rw [I.tuple_inj hy hq]; exact hx⟩, ⟨⟨y, ?_⟩, hst.1.at fun o q => (sb.2 it (Ne.symm hne)).trans q, hne⟩, fun b hb => ?_⟩
    · have e1 : ((i + 1 : Nat) : Int) = (i : Int) + 1 := by omega
      rw [e1]; exact he'
    · have hb' : b < s.heap.objs.size := by
        have e' : b = e ∨ b = it := by simpa using hb
        rcases e' with z | z
        · rw [z]; exact hel
        · rw [z]; exact hil
      rw [upd_ne (Nat.ne_of_lt hb')]
      exact (hf b hb).1
  done := by
    intro X hP hw hK hc i pins s σ H E I hf st hg
    subst hP hw hK
    obtain ⟨⟨old, he⟩, hit, hne⟩ := st
    obtain ⟨xs, hq, hx⟩ := hg
    obtain ⟨its, rv, p, hz⟩ := I.tuple hq
    obtain ⟨f0, f1, f2, f3, f4, f5⟩ := hf it (by simp)
    have hl := rv.length
    have hT : s.TypeIs (.ref e) "enumerate" := ⟨_, he, rfl⟩
    unfold pyNext
    refine wpAny_bind (wpAny_attempt (wpAny_callSpecial?_slot (name := Str.ofString "__next__") hT F.slot_enumerate_next
      (wpAny_call_entry F.slot_enumerate_next hT F.entry_enumerate_next ?_ (F.args_enumerate_next_1 _))))
    show wpAny _ _ (field (.ref e) 2 >>= _) _ _ _
    refine wpAny_bind (wpAny_field he rfl (x := .ref it) rfl ?_)
    refine wpAny_bind (wpAny_nextOf_tuple_end (I.ok.hd hc) hit (show s.heap.IsTuple a its.toArray from p) (by simp; omega) fun h' x eb hx' => ?_)
    obtain ⟨o, ho, hcx⟩ := hx'
    refine wpAny_bind (wpAny_isInstance (T := "StopIteration") (b := true) ⟨o, ho, hcx⟩ isSubtype_stop ?_)
    exact wpAny_pure ⟨rfl, I.turned (t' := s.toks) (fun b o hb q => eb b o hb q) f0 f1 f3 f4 f5⟩
  self := fun A i s Q E st h => let ⟨⟨_, he⟩, _⟩ := st; wpAny_pyIter_enum he h
def iEnumT (K : PySem.W.Frag) (ta : TA) : TI := fun σ H R => ta σ H fun vs H1 => ∃ a xs, vs = [.ref a] ∧ SqT K H1 a xs ∧ R (IteT K a) H1
theorem pi_enumT {X : Cx} {e : Expr} {ta : TA} {p pos tpos : Pos} {elts : List Expr} {kk : Nat} (hg : Gl X "enumerate") (hm : X.mg "enumerate" = none) (ha : PA X [e] ta) (hs : starEach [e] X.env = [(false, eval e X.env)] := by rfl) :
    PI X (.Tuple elts kk tpos) (.Call (.Name "enumerate" p) [e] [] pos) (iEnumT X.K ta) := by
  refine ⟨fun pins s σ H R I h => ?_⟩
  refine Call_ (ld_blt I hg hm boot_enumerate (PyProof.Rows.callWith_type1 (thn (ha.run pos pins s σ H _ I h) fun us s1 ⟨vs, H1, I1, r1, q1⟩ => ?_) hs rfl))
  obtain ⟨a, xs, ex, hq, q⟩ := q1
  subst ex
  cases r1 with
  | cons r rr =>
    cases rr
    cases r
    obtain ⟨its, rv, p', hz⟩ := I1.tuple hq
    refine call_enumT (show s1.heap.IsTuple a its.toArray from p') fun h' he hit hsz hk => wpAny_pyIter_enum he ?_
    have I2 : Inv X pins σ H1 { s1 with heap := h' } := I1.kept (t' := s1.toks) hk
    refine ⟨s1.heap.objs.size + 1, [s1.heap.objs.size + 1, s1.heap.objs.size], _, _, H1, rfl, I2, turn_enumT a (s1.heap.objs.size + 1) s1.heap.objs.size, ⟨⟨.none, he⟩, hit, Nat.succ_ne_self _⟩, fun b hb => ?_, q⟩
    have e' : b = s1.heap.objs.size + 1 ∨ b = s1.heap.objs.size := by simpa using hb
    have hle : s1.heap.objs.size ≤ b := by
      rcases e' with z | z
      · rw [z]; exact Nat.le_add_right _ _
      · rw [z]; exact Nat.le_refl _
    exact I1.fpOk hle (I1.hok.fresh hle)
end HF
set_option maxHeartbeats 4000000
namespace HF
open PySem PySem.Spec PyProof.Rows L2
/-! set(xs) of a list of ints -/
abbrev eSet (w : World) : Obj := { cls := .type "set", dict := none, data := .set #[] 0 (.fresh 0 0 (!w.params.followText "set-order")) }
section
variable {P : Program} {w : World} {A : Around} {E : Value → Shared → Prop} {s : Shared}
theorem set_ofL {l : Addr} {items : Array Value} (ns : List Int) {Q : Value → Shared → Prop} (hh : A.handled = none) (hl : s.heap.IsList l items) (hit : IntsAre items.toList ns) (hb : ns.length + 1 < scanBound)
    (h : ∀ (h' : Heap) (tk c : Nat), SetR w h' s.heap.objs.size (fun j => decide (j ∈ ns)) c → c ≤ ns.length → (∀ b o, s.heap.get? b = some o → h'.get? b = some o) → Q (.ref s.heap.objs.size) { s with heap := h', toks := tk }) :
    wpAny (model P w) A (call (.type "set") [.ref l]) Q E s := by
  have hisz : items.size = ns.length := by rw [← Array.length_toList]; exact IntsAre.length hit
  obtain ⟨c, tl, hmro⟩ := F.called_set.mro
  have m1 := F.called_set.made; have m2 := F.called_set.sub
  refine wpAny_call (codeAny_of_tree (show wpAny _ _ (callAny (.type "set") _) _ _ _ from wpAny_pure ⟨Code.quiet_builtin _ (by decide +kernel), codeAny_builtin F.entry_type_call ?_⟩))
  rw [Around.under_plain (weight_type_call_type "set" [.ref l] []) rfl]
  have m3 := F.called_set.notType; have m4 := F.called_set.canCreate; have m5 := F.typeCall_set_1 (.ref l)
  repeat (any_goals (first | assumption | wp_step))
  refine codeAny_mono (code_set_led1 (.ref l) (E := E) (Q₁ := fun obj s₁ => obj = .ref s.heap.objs.size ∧ s₁ = { s with heap := s.heap.push (eSet w) }) ⟨rfl, rfl⟩) fun r s₁ hr => ?_
  match r, hr with
  | .error _, hr => exact hr
  | .ok .next, hr => exact hr.elim
  | .ok .brk, hr => exact hr.elim
  | .ok .cont, hr => exact hr.elim
  | .ok (.ret obj), hr =>
    obtain ⟨rfl, rfl⟩ := hr
    have g0 : (s.heap.push (eSet w)).get? s.heap.objs.size = some (eSet w) := Heap.get?_push_size _ rfl
    have hT : Shared.TypeIs { s with heap := s.heap.push (eSet w) } (.ref s.heap.objs.size) "set" := ⟨_, g0, rfl⟩
    have n1 := F.called_set.init.lookup; have n2 := F.called_set.init.bind (.ref s.heap.objs.size)
    repeat (any_goals (first | assumption | wp_step))
    refine codeAny_mono (codeAny_call_builtin (R := wants (fun r s₂ => r = .none ∧ ∃ h' tk c, s₂ = { s with heap := h', toks := tk } ∧ SetR w h' s.heap.objs.size (fun j => decide (j ∈ ns)) c ∧ c ≤ ns.length ∧ (∀ b o, s.heap.get? b = some o → h'.get? b = some o)) E)
      F.called_set.init.plain F.entry_set_init (check_set_init_1 hT ?_)) fun r₂ s₂ hr₂ => ?_
    · obtain ⟨⟨ocls, odict, odata, oslots⟩, hol, hcl, nl, hdl⟩ := hl
      simp only at hcl hdl
      subst hcl; subst hdl
      have hol' : (s.heap.push (eSet w)).get? l = some { cls := .type "list", dict := odict, data := .seq items nl, slots := oslots } := Heap.get?_push_of_some _ hol
      have k1 := F.sub_list_set; have k2 := F.sub_list_frozenset
      have k3 : (Value.type "list" == Value.type "dict") = false := by decide
      have hl1 : (s.heap.push (eSet w)).IsList l items := ⟨_, hol', rfl, nl, rfl⟩
      unfold Builtin.«set.__init__» noKeywords Builtin.Frozenset.updateFrom
      generalize hPI : pyIter = PI
      wp_walk
      subst hPI
      refine wpAny_pyIter_list hl1 (wpAny_bind (wpAny_runValue ?_))
      have lS : l < s.heap.objs.size := Heap.lt_size hol
      have hh3 : A.in1.in1.in1.handled = none := by simp [hh]
      have z1 : (s.heap.push (eSet w)).objs.size = s.heap.objs.size + 1 := Heap.size_push ..
      have neI : l ≠ (s.heap.push (eSet w)).objs.size := by rw [z1]; exact Nat.ne_of_lt (Nat.lt_succ_of_lt lS)
      have hSf : s.heap.objs.size ∉ [(s.heap.push (eSet w)).objs.size, l] := by
        rw [z1]; simp only [List.mem_cons, List.not_mem_nil, or_false, not_or]
        exact ⟨Nat.ne_of_lt (Nat.lt_succ_self _), Nat.ne_of_gt lS⟩
      have hval : ∀ (i : Nat) (v : Value), items[i]? = some v → ∃ k t, ns[i]? = some k ∧ v = .int k t := fun i v hv => by
        have hi : i < ns.length := hisz ▸ (Array.getElem?_eq_some_iff.mp hv).1
        obtain ⟨t, e⟩ := PyProof.Rows.IntsAre.int_at hit i v (by rw [Array.getElem?_toList]; exact hv)
        exact ⟨ns[i], t, List.getElem?_eq_getElem hi, by rw [e, List.getD_eq_getElem?_getD, List.getElem?_eq_getElem hi] <;> rfl⟩
      refine set_update_ints ((Walks.list hh3 _ l neI items).toS) s.heap.objs.size hSf ns hisz hb hval (items.size - 0) 0 _ (by omega) (Nat.zero_le _) ⟨⟨_, Heap.get?_push_size _ rfl, rfl, rfl⟩, (hl1.push _)⟩ ⟨0, Nat.le_refl 0, setR_new_at (Heap.get?_push_of_some _ g0)⟩ fun s' c' hm hc' hS' => ?_
      obtain ⟨h', g2, d', tk', os'⟩ := s'
      obtain rfl : g2 = s.gens := hm.gens
      obtain rfl : d' = s.drawn := hm.drawn
      obtain rfl : os' = s.os := hm.os
      refine (show wpAny _ _ _ _ _ _ from wpAny_pure (show wpAny _ _ (ret Value.none) _ _ _ from wpAny_pure ⟨rfl, h', tk', c', rfl, hS', hisz ▸ hc', fun b o e => ?_⟩))
      have hb0 : b < s.heap.objs.size := Heap.lt_size e
      refine hm.heap b o (fun hbm => ?_) (Heap.get?_push_of_some _ (Heap.get?_push_of_some _ e))
      rcases List.mem_cons.mp hbm with q | q
      · exact absurd q (Nat.ne_of_lt hb0)
      · exact absurd (List.mem_singleton.mp q) (by rw [z1]; exact Nat.ne_of_lt (Nat.lt_succ_of_lt hb0))
    · match r₂, hr₂ with
      | .error _, hr₂ => exact hr₂
      | .ok .next, hr₂ => exact hr₂.elim
      | .ok .brk, hr₂ => exact hr₂.elim
      | .ok .cont, hr₂ => exact hr₂.elim
      | .ok (.ret r), hr₂ =>
        obtain ⟨rfl, h', tk, c, rfl, hS', hc', hk'⟩ := hr₂
        repeat (any_goals (first | assumption | wp_step))
        exact h _ _ _ hS' hc' hk'
end
/-- set(xs) -/
def rSetL (K : PySem.W.Frag) (w : World) : List V → Hp → VK → Prop := fun xs H Q => ∃ (l : Addr) (ns : List Int), xs = [V.ref l] ∧ SqL K H l (ns.map V.int) ∧ ns.length ≤ 1000 ∧
  ∀ a c, H a = none → c ≤ ns.length → Q (.ref a) (upd H a (SetO w a (fun j => decide (j ∈ ns)) c))
theorem cr_setL {X : Cx} (hc : X.calm = true) : CallR X (.type "set") (rSetL X.K X.w) := by
  intro pins s σ H xs us Q I r h
  obtain ⟨l, ns, rfl, hl, hz, q⟩ := h
  rw [Vals.ref1 r]
  obtain ⟨its, rv, pl, _⟩ := I.list hl
  refine set_ofL ns (I.ok.hd hc) pl.isList (by simpa using rv.ints) (by unfold scanBound; omega) fun h' tk c hS hc' k => ?_
  exact ⟨.ref _, _, I.laid (t' := tk) k (Nat.le_refl _) (setO_new hS), rfl, q _ c (I.hok.fresh (Nat.le_refl _)) hc'⟩
end HF
set_option maxHeartbeats 4000000
namespace HF
open PySem PySem.Spec PyProof.Rows L2
/-! the order of lists of ints -/
theorem lex_asym : ∀ x y : List Int, HT.lexLt x y = true → HT.lexLt y x = false
  | [], [], h => by cases h
  | [], _ :: _, _ => rfl
  | _ :: _, [], h => by cases h
  | a :: x, b :: y, h => by
    rw [HT.lexLt_cons] at h ⊢
    by_cases e : a = b
    · subst e
      rw [if_pos rfl] at h ⊢
      exact lex_asym x y h
    · rw [if_neg e, decide_eq_true_eq] at h
      rw [if_neg (Ne.symm e)]
      exact decide_eq_false (by omega)
theorem lex_tr : ∀ x y z : List Int, HT.lexLt y x = false → HT.lexLt z y = false → HT.lexLt z x = false
  | [], [], _, _, h => h
  | [], _ :: _, [], _, h => by cases h
  | [], _ :: _, _ :: _, _, _ => rfl
  | _ :: _, [], _, h, _ => by cases h
  | _ :: _, _ :: _, [], _, h => by cases h
  | a :: x, b :: y, c :: z, h1, h2 => by
    rw [HT.lexLt_cons] at h1 h2 ⊢
    by_cases e1 : b = a
    · subst e1
      rw [if_pos rfl] at h1
      by_cases e2 : c = b
      · rw [if_pos e2] at h2 ⊢
        exact lex_tr x y z h1 h2
      · rw [if_neg e2] at h2 ⊢
        exact h2
    · rw [if_neg e1, decide_eq_false_iff_not] at h1
      by_cases e2 : c = b
      · subst e2
        rw [if_neg e1]
        exact decide_eq_false h1
      · rw [if_neg e2, decide_eq_false_iff_not] at h2
        rw [if_neg (by omega)]
        exact decide_eq_false (by omega)
theorem lex_tot : ∀ x y : List Int, HT.lexLt x y = false → HT.lexLt y x = false → x = y
  | [], [], _, _ => rfl
  | [], _ :: _, h, _ => by cases h
  | _ :: _, [], _, h => by cases h
  | a :: x, b :: y, h1, h2 => by
    rw [HT.lexLt_cons] at h1 h2
    by_cases e : a = b
    · subst e
      rw [if_pos rfl] at h1 h2
      rw [lex_tot x y h1 h2]
    · rw [if_neg e, decide_eq_false_iff_not] at h1
      rw [if_neg (Ne.symm e), decide_eq_false_iff_not] at h2
      omega
section
variable {prog : Program} {w : World} {A : Around} {E : Value → Shared → Prop} {s : Shared}
theorem lexK {Q : Bool → Shared → Prop} : ∀ {xs : List Value} {ns : List Int}, IntsAre xs ns → ∀ {ys : List Value} {ms : List Int}, IntsAre ys ms → ∀ i, Q (HT.lexLt ns ms) s → PySem.W.KatLex prog w A true (decide (ns.length < ms.length)) Q (xs.zip ys) i s := by
  intro xs ns hx
  induction hx with
  | nil =>
    intro ys ms hy i h
    cases hy with
    | nil => exact h
    | cons q u ys' => exact h
  | @cons p t xs ns hx ih =>
    intro ys ms hy i h
    cases hy with
    | nil => exact h
    | @cons q u ys ms hy =>
      refine PySem.W.kat_cons (wpAny_eqBool_int ?_)
      rw [HT.lexLt_cons] at h
      have el : decide ((p :: ns).length < (q :: ms).length) = decide (ns.length < ms.length) := by
        rw [List.length_cons, List.length_cons]
        exact decide_eq_decide.mpr ⟨fun z => by omega, fun z => by omega⟩
      rw [el]
      by_cases e : p = q
      · subst e
        rw [if_pos rfl] at h
        rw [beq_self_eq_true]
        exact PySem.W.kat_yes (ih hy (i + 1) h)
      · rw [if_neg e] at h
        rw [show (p == q) = false from beq_eq_false_iff_ne.mpr e]
        exact PySem.W.kat_no (TS.oneLt_ints _ h)
def TupsV (h : Heap) (vs : List Value) : Prop := ∀ v ∈ vs, ∃ ns, TS.TupInts h v ns ∧ ns ≠ []
theorem firstsV {h : Heap} : ∀ vs : List Value, TupsV h vs → ∃ fs, PySem.W.KatTups h vs fs ∧ fs.length = vs.length ∧ ∀ f, f ∈ fs → ∃ n t, f = Value.int n t
  | [], _ => ⟨[], PySem.W.KatTups.nil, rfl, fun f hf => nomatch hf⟩
  | v :: vs, x => by
    obtain ⟨fs, k, hl, hi⟩ := firstsV vs fun u hu => x u (.tail _ hu)
    obtain ⟨ns, ⟨a, xs, rfl, ⟨o, ho, hc, n, hdt⟩, i⟩, hn⟩ := x v (.head _)
    generalize hxl : xs.toList = xl at i
    cases i with
    | nil => exact absurd rfl hn
    | cons m t i2 =>
      refine ⟨.int m t :: fs, PySem.W.KatTups.cons ho hc hdt ?_ k, congrArg (· + 1) hl, fun f hf => ?_⟩
      · rw [← Array.getElem?_toList, hxl] <;> rfl
      · rcases List.mem_cons.mp hf with rfl | hf
        · exact ⟨m, t, rfl⟩
        · exact hi f hf
theorem TupsV.keeps {h h' : Heap} {vs : List Value} (x : TupsV h vs) (k : ∀ b o, h.get? b = some o → o.cls = .type "tuple" → h'.get? b = some o) : TupsV h' vs := fun v hv =>
  let ⟨ns, t, r⟩ := x v hv; ⟨ns, t.keeps k, r⟩
theorem sortableV {a : Addr} {vs : List Value} {g : Heap} (h0 : 0 < vs.length) (x : TupsV s.heap vs) (ha : ∀ o, s.heap.get? a = some o → o.cls ≠ .type "tuple") (hg : ∀ v ∈ vs, TS.intsOf g v = TS.intsOf s.heap v) :
    SrtO.SortableO prog w A s a vs fun v u => HT.lexLt (TS.intsOf g v) (TS.intsOf g u) := by
  intro h' keep
  have kk : ∀ b o, s.heap.get? b = some o → o.cls = .type "tuple" → h'.get? b = some o := fun b o e c => keep b o (fun z => by subst z; exact ha o e c) e
  have x' := x.keeps kk
  obtain ⟨fs, h1, h2, h3⟩ := firstsV vs x'
  refine ⟨tuples' true, fun Q E hq => ?_, ?_⟩
  · refine PySem.W.kat_kind (T := .type "int") h1 (by omega) (fun f hm => ?_) (by rfl) ?_
    · obtain ⟨y, t, rfl⟩ := h3 f hm
      exact PySem.W.Looks.now
    · rw [show (Value.type "int" != Value.type "tuple") = true by decide +kernel]
      exact hq
  · intro p q hp hq
    obtain ⟨ns, tp, _⟩ := x _ hp
    obtain ⟨ms, tq, _⟩ := x _ hq
    have e1 : TS.intsOf g p.1 = ns := (hg _ hp).trans tp.ints
    have e2 : TS.intsOf g q.1 = ms := (hg _ hq).trans tq.ints
    show wpAny (model prog w) A (keyLt' (tuples' true) p.1 q.1) (fun r s' => s' = { s with heap := h' } ∧ r = HT.lexLt (TS.intsOf g p.1) (TS.intsOf g q.1)) (fun _ _ => False) { s with heap := h' }
    rw [e1, e2]
    obtain ⟨b, xs, z1, ⟨o, ho, hc, n, hdt⟩, i⟩ := tp.keeps kk
    obtain ⟨b', ys, z2, ⟨o', ho', hc', n', hdt'⟩, i'⟩ := tq.keeps kk
    rw [z1, z2]
    refine PySem.W.kat_lt ho hdt ho' hdt' ?_
    have l1 := i.length
    have l2 := i'.length
    rw [Array.length_toList] at l1 l2
    rw [l1, l2]
    exact lexK i i' 0 ⟨rfl, rfl⟩
end
theorem lex_swo (f : Value → List Int) : SrtO.Swo fun v u => HT.lexLt (f v) (f u) := ⟨fun x y h => lex_asym _ _ h, fun x y z h1 h2 => lex_tr _ _ _ h1 h2⟩
section
variable {P : Program} {w : World} {A : Around} {E : Value → Shared → Prop} {s : Shared}
/-- sorted of a set of tuples of ints, none empty -/
theorem sorted_setV {a : Addr} {L : List (Addr × List Int)} {es : Array (Int × Value)} {ep : Nat} {t : SetTable} {Q : Value → Shared → Prop} (R : SetTR P w s.heap a L es ep t) (hh : A.handled = none) (hne : ∀ p ∈ L, p.2 ≠ [])
    (hQ : ∀ s' p (out : Array Value) (c : Nat) (L' : List (Addr × List Int)), (∀ b o, s.heap.get? b = some o → s'.heap.get? b = some o) → s'.gens = s.gens → s'.os = s.os → s.heap.objs.size ≤ p →
      s'.heap.get? p = some (seqObj "list" out c) → out.toList = L'.map (fun q => Value.ref q.1) → L'.Perm L → L'.Pairwise (fun q r => HT.lexLt r.2 q.2 = false) → Q (.ref p) s') :
    wpAny (model P w) A (call (.builtin "sorted") [.ref a]) Q E s := by
  obtain ⟨o, ho, hex, hd⟩ := R.ob
  have hsz := R.size
  have hfew := R.few
  refine Calls.call_function_entry kind_sorted plain_sorted entry_sorted (args_sorted1 _) ?_
  unfold Builtin.«sorted»
  refine wpAny_bind (m := checkCount "sorted" 1 1 _) (wpAny_pure (wpAny_bind (collect_set (A := A.in1) hh ⟨o, ho, hex.1, hd⟩ R.fits (by unfold scanBound; omega) R.tab.ris R.led fun s1 vs k1 hz g1 o1 pm => ?_)))
  have hes : es.toList.map (·.2) = L.map fun q => Value.ref q.1 := by
    rw [R.rows, rowsOf, List.map_map] <;> rfl
  rw [hes] at pm
  -- an address has one key; so the values in any order are the rows in some order
  have one : ∀ q ∈ L, ∀ r ∈ L, q.1 = r.1 → q = r := fun q hq r hr e => Prod.ext e ((e ▸ R.tup q hq).inj (R.tup r hr))
  have mem : ∀ {vs' : List Value}, vs'.Perm (L.map fun q => Value.ref q.1) → ∀ v ∈ vs', ∃ q ∈ L, v = Value.ref q.1 := fun p v hv => by
    obtain ⟨q, hq, e⟩ := List.mem_map.mp (p.mem_iff.mp hv)
    exact ⟨q, hq, e.symm⟩
  have ord : ∀ vs' : List Value, (∀ v ∈ vs', ∃ q ∈ L, v = Value.ref q.1) → ∃ L1 : List (Addr × List Int), vs' = L1.map (fun q => Value.ref q.1) ∧ ∀ q ∈ L1, q ∈ L := by
    intro vs'
    induction vs' with
    | nil => exact fun _ => ⟨[], rfl, fun q hq => nomatch hq⟩
    | cons v vs' ih =>
      intro hv
      obtain ⟨q, hq, rfl⟩ := hv v (.head _)
      obtain ⟨L1, rfl, hs⟩ := ih fun u hu => hv u (.tail _ hu)
      exact ⟨q :: L1, rfl, fun r hr => (List.mem_cons.mp hr).elim (fun z => z ▸ hq) (hs r)⟩
  have perm_of : ∀ L1 : List (Addr × List Int), (∀ q ∈ L1, q ∈ L) → (L1.map (fun q => Value.ref q.1)).Perm (L.map fun q => Value.ref q.1) → L1.Perm L := by
    intro L1 hs pm1
    have nL : L.Nodup := nodup_of_map R.nd
    have nref : (L.map fun q => Value.ref q.1).Nodup := List.pairwise_map.mpr (List.Pairwise.imp_of_mem (fun {q r} hq hr hn e => hn (one q hq r hr (Value.ref.inj e))) nL)
    refine (List.perm_ext_iff_of_nodup (nodup_of_map (pm1.nodup_iff.mpr nref)) nL).mpr fun q => ⟨hs q, fun hq => ?_⟩
    obtain ⟨r, hr, e⟩ := List.mem_map.mp (pm1.mem_iff.mpr (List.mem_map.mpr ⟨q, hq, rfl⟩))
    exact one r (hs r hr) q hq (Value.ref.inj e) ▸ hr
  have hvl : vs.length = L.length := by rw [pm.length_eq, List.length_map]
  refine wpAny_bind (wpAny_newList ?_ (by rw [sizeLine_eq]; omega))
  have hoL : (s1.heap.push (seqObj "list" vs.toArray 0)).get? s1.heap.objs.size = some (seqObj "list" vs.toArray 0) := Heap.get?_push_size _ rfl
  have tk : ∀ q ∈ L, TS.TupInts (s1.heap.push (seqObj "list" vs.toArray 0)) (.ref q.1) q.2 := fun q hq => tupInts_of (P := P) (w := w) (isT_keep (R.tup q hq) fun b u e => Heap.get?_push_of_some _ (k1 b u e))
  have x : TupsV (s1.heap.push (seqObj "list" vs.toArray 0)) vs := fun v hv => by
    obtain ⟨q, hq, rfl⟩ := mem pm v hv
    exact ⟨q.2, tk q hq, hne q hq⟩
  refine wpAny_bind (wpAny_holding (wpAny_call_entry slot_list_sort ⟨_, hoL, rfl⟩ entry_list_sort (SrtO.list_sort_ord (s := { s1 with heap := s1.heap.push (seqObj "list" vs.toArray 0) })
    (lex_swo (TS.intsOf (s1.heap.push (seqObj "list" vs.toArray 0)))) hoL (by rw [sizeLine_eq]; omega) (fun h2 => ?_) fun out hs hb => ⟨_, rfl, ?_⟩) (args_list_sort _)))
  · refine sortableV (by omega) x (fun o e c => ?_) fun v _ => rfl
    have e' : some o = some (seqObj "list" vs.toArray 0) := e.symm.trans hoL
    cases e'
    exact absurd (Value.type.inj c) (by decide)
  · obtain ⟨c, hc⟩ := sortedHeap_at (vs := vs) (out := out.toArray) hoL
    have po : out.Perm (L.map fun q => Value.ref q.1) := hb.perm.trans pm
    obtain ⟨L', e', hs'⟩ := ord out (mem po)
    have pL : L'.Perm L := perm_of L' hs' (by rw [← e']; exact po)
    have pw : L'.Pairwise (fun q r => HT.lexLt r.2 q.2 = false) := by
      have hs2 : out.Pairwise (fun v u => HT.lexLt (TS.intsOf (s1.heap.push (seqObj "list" vs.toArray 0)) u) (TS.intsOf (s1.heap.push (seqObj "list" vs.toArray 0)) v) = false) := hs
      rw [e'] at hs2
      refine List.Pairwise.imp_of_mem (fun {q r} hq hr hle => ?_) (List.pairwise_map.mp hs2)
      rw [← (tk q (hs' q hq)).ints, ← (tk r (hs' r hr)).ints]
      exact hle
    refine wpAny_pure ⟨_, rfl, hQ _ s1.heap.objs.size out.toArray c L' (fun b u e => ?_) g1 o1 hz hc (by simpa using e') pL pw⟩
    have q := k1 b u e
    have hlt := Heap.lt_size q
    show (sortedHeap (s1.heap.push (seqObj "list" vs.toArray 0)) s1.heap.objs.size vs out.toArray).get? b = some u
    rw [sortedHeap_old (Nat.ne_of_lt hlt) (by rw [size_push']; exact Nat.lt_succ_of_lt hlt)]
    exact Heap.get?_push_of_some _ q
end
/-- sorted(set of tuples) -/
def rSrtV (K : PySem.W.Frag) (P : Program) (w : World) : List V → Hp → VK → Prop := fun vs H Q => ∃ (a : Addr) (L : List (Addr × List Int)), vs = [V.ref a] ∧ H a = some (SetTO P w a L) ∧ (∀ p ∈ L, SqT K H p.1 (p.2.map V.int)) ∧ (∀ p ∈ L, p.2 ≠ []) ∧
  ∀ (L' : List (Addr × List Int)) (p : Addr), L'.Perm L → (L'.map (·.2)).Nodup → L'.length < 64 → L'.Pairwise (fun q r => HT.lexLt r.2 q.2 = false) → H p = none → Q (.ref p) (upd H p (.lst (L'.map fun q => V.ref q.1)))
theorem cr_srtV {X : Cx} (hc : X.calm = true) : CallR X (.builtin "sorted") (rSrtV X.K X.prog X.w) := by
  intro pins s σ H vs us Q I r h
  obtain ⟨a, L, rfl, ha, hk, hn0, q⟩ := h
  obtain ⟨es, ep, t, R⟩ := SetT0.full (show SetT0 X.prog X.w s.heap a L from (I.hok a _ ha).1) fun p hp => I.isT (hk p hp)
  rw [Vals.ref1 r]
  refine sorted_setV R (I.ok.hd hc) hn0 fun s' p out c L' k g o hp hg hout pm pw => ?_
  have f : L'.length < 64 := by rw [pm.length_eq]; exact R.few
  have hn : H p = none := I.hok.fresh hp
  have J : Inv X pins σ (upd H p (.lst (L'.map fun q => V.ref q.1))) { s with heap := s'.heap, gens := s'.gens, drawn := s'.drawn, toks := s'.toks } :=
    I.call (ch := []) (Un.laid k hp hn) (I.hok.laid k hp ⟨by rw [List.length_map, sizeLine_eq]; omega, out.toList, c, hout ▸ vals_of_refs L', hg⟩) (g ▸ I.bare) (fun _ z => nomatch z)
  have e : s' = { s with heap := s'.heap, gens := s'.gens, drawn := s'.drawn, toks := s'.toks } := by
    cases s'; cases s; cases o; rfl
  rw [e]
  exact ⟨.ref p, _, J, rfl, q L' p pm ((pm.map (·.2)).nodup_iff.mpr R.nd) f pw hn⟩
end HF
set_option maxHeartbeats 200000
namespace HF
open PySem PyProof.Rows L2 Evl
/-! ### what a value is, in a heap that only grows -/
structure Ty where
  r : V → Hp → Prop
  m : ∀ v H H', Ex H H' → r v H → r v H'
def Is (u : V) : Ty := ⟨fun v _ => v = u, fun _ _ _ _ h => h⟩
abbrev tI (i : Int) : Ty := Is (.int i)
abbrev tN (i : Nat) : Ty := Is (.int (i : Int))
abbrev tBo (b : Bool) : Ty := Is (.bl b)
abbrev tSt (z : Str) : Ty := Is (.str z)
def AllR : List V → List Ty → Hp → Prop
  | [], [], _ => True
  | v :: vs, R :: Rs, H => R.r v H ∧ AllR vs Rs H
  | _, _, _ => False
theorem AllR.m {H H' : Hp} (e : Ex H H') : ∀ {vs : List V} {Rs : List Ty}, AllR vs Rs H → AllR vs Rs H'
  | [], [], _ => trivial
  | _ :: _, R :: _, h => ⟨R.m _ _ _ e h.1, AllR.m e h.2⟩
  | [], _ :: _, h => h.elim
  | _ :: _, [], h => h.elim
theorem AllR.len {H : Hp} : ∀ {vs : List V} {Rs : List Ty}, AllR vs Rs H → vs.length = Rs.length
  | [], [], _ => rfl
  | _ :: vs, _ :: Rs, h => congrArg (· + 1) (AllR.len h.2)
  | [], _ :: _, h => h.elim
  | _ :: _, [], h => h.elim
theorem AllR.get {H : Hp} : ∀ {vs : List V} {Rs : List Ty} {i : Nat} {R : Ty}, AllR vs Rs H → Rs[i]? = some R → ∃ v, vs[i]? = some v ∧ R.r v H
  | [], [], _, _, _, e => by simp at e
  | v :: vs, R :: Rs, 0, _, h, e => by
    simp at e
    subst e
    exact ⟨v, rfl, h.1⟩
  | v :: vs, R :: Rs, i + 1, _, h, e => by
    obtain ⟨u, h1, h2⟩ := AllR.get (i := i) h.2 (by simpa using e)
    exact ⟨u, by simpa using h1, h2⟩
  | [], _ :: _, _, _, h, _ => h.elim
  | _ :: _, [], _, _, h, _ => h.elim
theorem AllR.get' {H : Hp} {vs : List V} {Rs : List Ty} {i : Nat} {R : Ty} {v : V} (h : AllR vs Rs H) (e : Rs[i]? = some R) (ev : vs[i]? = some v) : R.r v H := by
  obtain ⟨u, h1, h2⟩ := h.get e
  rw [ev] at h1
  cases h1
  exact h2
theorem AllR.app {H : Hp} : ∀ {vs ws : List V} {Rs Ss : List Ty}, AllR vs Rs H → AllR ws Ss H → AllR (vs ++ ws) (Rs ++ Ss) H
  | [], _, [], _, _, g => g
  | _ :: _, _, _ :: _, _, h, g => ⟨h.1, AllR.app h.2 g⟩
  | [], _, _ :: _, _, h, _ => h.elim
  | _ :: _, _, [], _, h, _ => h.elim
theorem AllR.take {H : Hp} : ∀ {vs : List V} {Rs : List Ty} (n : Nat), AllR vs Rs H → AllR (vs.take n) (Rs.take n) H
  | _, _, 0, _ => by simp [AllR]
  | [], [], n + 1, _ => by simp [AllR]
  | _ :: _, _ :: _, n + 1, h => ⟨h.1, AllR.take n h.2⟩
  | [], _ :: _, _ + 1, h => h.elim
  | _ :: _, [], _ + 1, h => h.elim
theorem AllR.drop {H : Hp} : ∀ {vs : List V} {Rs : List Ty} (n : Nat), AllR vs Rs H → AllR (vs.drop n) (Rs.drop n) H
  | _, _, 0, h => h
  | [], [], n + 1, _ => by simp [AllR]
  | _ :: _, _ :: _, n + 1, h => AllR.drop n h.2
  | [], _ :: _, _ + 1, h => h.elim
  | _ :: _, [], _ + 1, h => h.elim
theorem AllR.is {H : Hp} : ∀ {vs xs : List V}, AllR vs (xs.map Is) H → vs = xs
  | [], [], _ => rfl
  | v :: vs, x :: xs, h => by
    have h1 : v = x := h.1
    rw [h1, AllR.is h.2]
  | [], _ :: _, h => h.elim
  | _ :: _, [], h => h.elim
theorem AllR.ofIs {H : Hp} : ∀ {xs : List V}, AllR xs (xs.map Is) H
  | [] => trivial
  | _ :: _ => ⟨rfl, AllR.ofIs⟩
theorem AllR.mem {H : Hp} : ∀ {vs : List V} {Rs : List Ty} {v : V}, AllR vs Rs H → v ∈ vs → ∃ R, R ∈ Rs ∧ R.r v H
  | v :: vs, R :: Rs, u, h, hu => by
    rcases List.mem_cons.mp hu with rfl | hu
    · exact ⟨R, List.mem_cons_self, h.1⟩
    · obtain ⟨S, a, b⟩ := AllR.mem h.2 hu
      exact ⟨S, List.mem_cons_of_mem _ a, b⟩
theorem AllR.one {H : Hp} {vs : List V} {R : Ty} (h : AllR vs [R] H) : ∃ v, vs = [v] ∧ R.r v H := by
  cases vs with
  | nil => exact h.elim
  | cons v vs =>
    cases vs with
    | nil => exact ⟨v, rfl, h.1⟩
    | cons w vs => exact h.2.elim
theorem AllR.two {H : Hp} {vs : List V} {R S : Ty} (h : AllR vs [R, S] H) : ∃ v w, vs = [v, w] ∧ R.r v H ∧ S.r w H := by
  cases vs with
  | nil => exact h.elim
  | cons v vs =>
    obtain ⟨w, rfl, h2⟩ := AllR.one h.2
    exact ⟨v, w, rfl, h.1, h2⟩
theorem AllR.three {H : Hp} {vs : List V} {R S T : Ty} (h : AllR vs [R, S, T] H) : ∃ v w z, vs = [v, w, z] ∧ R.r v H ∧ S.r w H ∧ T.r z H := by
  cases vs with
  | nil => exact h.elim
  | cons v vs =>
    obtain ⟨w, z, rfl, h2, h3⟩ := AllR.two h.2
    exact ⟨v, w, z, rfl, h.1, h2, h3⟩
def Lst (Rs : List Ty) : Ty := ⟨fun v H => ∃ a vs, v = .ref a ∧ H a = some (.lst vs) ∧ AllR vs Rs H, fun v H H' e ⟨a, vs, h1, h2, h3⟩ => ⟨a, vs, h1, e a _ h2, h3.m e⟩⟩
def Tup (K : PySem.W.Frag) (Rs : List Ty) : Ty := ⟨fun v H => ∃ a vs, v = .ref a ∧ SqT K H a vs ∧ AllR vs Rs H, fun v H H' e ⟨a, vs, h1, h2, h3⟩ => ⟨a, vs, h1, ex_t e h2, h3.m e⟩⟩
/-! ### heaps: the kept part H0 of H -/
structure Gr (H0 H H0' H' : Hp) : Prop where
  e0 : Ex H0 H0'
  e : Ex H H'
  p : Ex H0' H'
  f : ∀ a, H0 a = none → H a ≠ none → H0' a = none
theorem ne_none {H : Hp} {a : Addr} {o : HO} (h : H a = some o) : H a ≠ none := by rw [h]; exact fun q => nomatch q
theorem Ex.nn {H H' : Hp} (e : Ex H H') {a : Addr} (h : H a ≠ none) : H' a ≠ none := by
  cases q : H a with
  | none => exact absurd q h
  | some o => exact ne_none (e a o q)
section
variable {H0 H H0' H' H0'' H'' : Hp} {p : Addr} {o : HO}
theorem Gr.refl (h : Ex H0 H) : Gr H0 H H0 H := ⟨Ex.refl _, Ex.refl _, h, fun _ h _ => h⟩
theorem Gr.trans (a : Gr H0 H H0' H') (b : Gr H0' H' H0'' H'') : Gr H0 H H0'' H'' :=
  ⟨a.e0.trans b.e0, a.e.trans b.e, b.p, fun c h h' => b.f c (a.f c h h') (Ex.nn a.e h')⟩
theorem Gr.new (h : Ex H0 H) (hp : H p = none) : Gr H0 H (upd H0 p o) (upd H p o) := by
  have hp0 : H0 p = none := fresh_back h hp
  refine ⟨Ex.new hp0, Ex.new hp, fun a u q => ?_, fun a q q' => ?_⟩
  · by_cases e : a = p
    · subst e; rw [upd_same] at q ⊢; exact q
    · rw [upd_ne e] at q ⊢; exact h a u q
  · rw [upd_ne (fun e => q' (by rw [e]; exact hp))]; exact q
/-- a new object that stays out of the kept part -/
theorem Gr.own (h : Ex H0 H) (hp : H p = none) : Gr H0 H H0 (upd H p o) := by
  have hp0 : H0 p = none := fresh_back h hp
  exact ⟨Ex.refl _, Ex.new hp, fun a u q => by rw [upd_ne (ne_of_none q hp0)]; exact h a u q, fun _ q _ => q⟩
/-- the kept part stays, something was made -/
theorem Gr.on (h : Ex H0 H) (e : Ex H H') : Gr H0 H H0 H' := ⟨Ex.refl _, e, h.trans e, fun _ q _ => q⟩
/-- a cell that is not of the entry, nor kept, is written -/
theorem Gr.put (g : Gr H0 H H0' H') (n0 : H p = none) (n : H0' p = none) : Gr H0 H H0' (upd H' p o) :=
  ⟨g.e0, fun a u q => by rw [upd_ne (ne_of_none q n0)]; exact g.e a u q, fun a u q => by rw [upd_ne (ne_of_none q n)]; exact g.p a u q, g.f⟩
/-- everything that was made is kept -/
def Rest (H0 H H' : Hp) : Hp := fun a => match H0 a, H a with
  | none, some _ => none
  | _, _ => H' a
theorem Rest.gr (h : Ex H0 H) (e : Ex H H') : Gr H0 H (Rest H0 H H') H' := by
  refine ⟨fun a u q => ?_, e, fun a u q => ?_, fun a q q' => ?_⟩
  · unfold Rest; rw [q]; exact e a u (h a u q)
  · unfold Rest at q
    cases q0 : H0 a with
    | none =>
      cases q1 : H a with
      | none => rw [q0, q1] at q; exact q
      | some o => rw [q0, q1] at q; cases q
    | some o => rw [q0] at q; exact q
  · unfold Rest
    rw [q]
    cases q1 : H a with
    | none => exact absurd q1 q'
    | some o => rfl
theorem Gr.rest (g : Gr H0 H H0' H') : Ex H0' (Rest H0 H H') := fun a u q => by
  unfold Rest
  cases q0 : H0 a with
  | none =>
    cases q1 : H a with
    | none => exact g.p a u q
    | some o => rw [g.f a q0 (ne_none q1)] at q; cases q
  | some o => exact g.p a u q
theorem Rest.at {a : Addr} {u : HO} (h : H a = none) (q : H' a = some u) : Rest H0 H H' a = some u := by
  unfold Rest
  rw [h]
  cases H0 a <;> exact q
end
structure Mt where
  p : Hp → Hp → Prop
  m : ∀ H0 H H0' H', Gr H0 H H0' H' → p H0 H → p H0' H'
def M0 : Mt := ⟨fun _ _ => True, fun _ _ _ _ _ _ => trivial⟩
def Mt.and (a b : Mt) : Mt := ⟨fun H0 H => a.p H0 H ∧ b.p H0 H, fun _ _ _ _ g h => ⟨a.m _ _ _ _ g h.1, b.m _ _ _ _ g h.2⟩⟩
/-! ### slots -/
abbrev Ctx := List (Option Ty)
def Sl (σ : L2.St) (H : Hp) (Γ : Ctx) : Prop := σ.length = Γ.length ∧ ∀ (i : Nat) (R : Ty), Γ[i]? = some (some R) → ∃ v, σ[i]? = some (some v) ∧ R.r v H
theorem Sl.mono {σ : L2.St} {H H' : Hp} {Γ : Ctx} (e : Ex H H') (h : Sl σ H Γ) : Sl σ H' Γ :=
  ⟨h.1, fun i R q => let ⟨v, a, b⟩ := h.2 i R q; ⟨v, a, R.m _ _ _ e b⟩⟩
theorem Sl.set {σ : L2.St} {H : Hp} {Γ : Ctx} (h : Sl σ H Γ) (i : Nat) {v : V} {R : Ty} (r : R.r v H) : Sl (σ.set i (some v)) H (Γ.set i (some R)) := by
  refine ⟨by rw [List.length_set, List.length_set, h.1], fun j S q => ?_⟩
  by_cases e : i = j
  · subst e
    rw [List.getElem?_set] at q ⊢
    rw [if_pos rfl] at q ⊢
    by_cases l : i < Γ.length
    · rw [if_pos l] at q
      rw [if_pos (by rw [h.1]; exact l)]
      cases q
      exact ⟨v, rfl, r⟩
    · rw [if_neg l] at q; cases q
  · rw [List.getElem?_set_ne e] at q
    rw [List.getElem?_set_ne e]
    exact h.2 j S q
def wipeG (Γ : Ctx) : List Nat → Ctx
  | [] => Γ
  | v :: vs => (wipeG Γ vs).set v none
theorem Sl.unset {σ : L2.St} {H : Hp} {Γ : Ctx} (h : Sl σ H Γ) (i : Nat) (x : Option V) : Sl (σ.set i x) H (Γ.set i none) := by
  refine ⟨by rw [List.length_set, List.length_set, h.1], fun j S q => ?_⟩
  by_cases e : i = j
  · subst e
    rw [List.getElem?_set] at q
    rw [if_pos rfl] at q
    by_cases l : i < Γ.length
    · rw [if_pos l] at q; cases q
    · rw [if_neg l] at q; cases q
  · rw [List.getElem?_set_ne e] at q ⊢
    exact h.2 j S q
theorem Sl.wipe {σ : L2.St} {H : Hp} {Γ : Ctx} (h : Sl σ H Γ) : ∀ vs : List Nat, Sl (L2.wipe σ vs) H (wipeG Γ vs)
  | [] => h
  | v :: vs => (Sl.wipe h vs).unset v none
def Wk (Γ Γ' : Ctx) : Prop := Γ.length = Γ'.length ∧ ∀ (i : Nat) (R : Ty), Γ'[i]? = some (some R) → Γ[i]? = some (some R)
theorem Wk.refl {Γ : Ctx} : Wk Γ Γ := ⟨rfl, fun _ _ h => h⟩
theorem Wk.nil : Wk [] [] := Wk.refl
theorem Wk.skip {Γ Γ' : Ctx} {x : Option Ty} (h : Wk Γ Γ') : Wk (x :: Γ) (none :: Γ') := ⟨by simp [h.1], fun i R q => by
  cases i with
  | zero => simp at q
  | succ i => simpa using h.2 i R (by simpa using q)⟩
theorem Wk.keep {Γ Γ' : Ctx} {x : Option Ty} (h : Wk Γ Γ') : Wk (x :: Γ) (x :: Γ') := ⟨by simp [h.1], fun i R q => by
  cases i with
  | zero => simpa using q
  | succ i => simpa using h.2 i R (by simpa using q)⟩
theorem Wk.trans {Γ Γ' Γ'' : Ctx} (a : Wk Γ Γ') (b : Wk Γ' Γ'') : Wk Γ Γ'' := ⟨a.1.trans b.1, fun i R q => a.2 i R (b.2 i R q)⟩
theorem Sl.weak {σ : L2.St} {H : Hp} {Γ Γ' : Ctx} (w : Wk Γ Γ') (h : Sl σ H Γ) : Sl σ H Γ' := ⟨h.1.trans w.1, fun i R q => h.2 i R (w.2 i R q)⟩
structure Sx (σ : L2.St) (H0 H : Hp) (Γ : Ctx) (μ : Mt) : Prop where
  sl : Sl σ H0 Γ
  ex : Ex H0 H
  mu : μ.p H0 H
section
variable {σ : L2.St} {H0 H H0' H' : Hp} {Γ Γ' : Ctx} {μ : Mt}
theorem Sx.gr (S : Sx σ H0 H Γ μ) (g : Gr H0 H H0' H') : Sx σ H0' H' Γ μ := ⟨S.sl.mono g.e0, g.p, μ.m _ _ _ _ g S.mu⟩
theorem Sx.set (S : Sx σ H0 H Γ μ) (i : Nat) {v : V} {R : Ty} (r : R.r v H0) : Sx (σ.set i (some v)) H0 H (Γ.set i (some R)) μ := ⟨S.sl.set i r, S.ex, S.mu⟩
theorem Sx.weak (w : Wk Γ Γ') (S : Sx σ H0 H Γ μ) : Sx σ H0 H Γ' μ := ⟨S.sl.weak w, S.ex, S.mu⟩
theorem Sx.g0 (S : Sx σ H0 H Γ μ) : Gr H0 H H0 H := Gr.refl S.ex
end
/-! ### judgements on readings -/
def Y (te : TE) (Γ : Ctx) (μ : Mt) (R : Ty) : Prop := ∀ σ H0 H, Sx σ H0 H Γ μ → ∀ Q : VK, (∀ v H0' H', Gr H0 H H0' H' → R.r v H0' → Q v H') → te σ H Q
def YT (tt : TT) (Γ : Ctx) (μ : Mt) (b : Bool) : Prop := ∀ σ H0 H, Sx σ H0 H Γ μ → ∀ Q : Bool → Hp → Prop, (∀ H0' H', Gr H0 H H0' H' → Q b H') → tt σ H Q
def YA (ta : TA) (Γ : Ctx) (μ : Mt) (Rs : List Ty) : Prop := ∀ σ H0 H, Sx σ H0 H Γ μ → ∀ Q : List V → Hp → Prop, (∀ vs H0' H', Gr H0 H H0' H' → AllR vs Rs H0' → Q vs H') → ta σ H Q
/-- a new list that is not kept yet -/
def YL (te : TE) (Γ : Ctx) (μ : Mt) (Rs : List Ty) : Prop := ∀ σ H0 H, Sx σ H0 H Γ μ → ∀ Q : VK, (∀ p vs H0' H', Gr H0 H H0' H' → H p = none → H0' p = none → H' p = some (.lst vs) → AllR vs Rs H0' → Q (.ref p) H') → te σ H Q
section
variable {Γ Γ' : Ctx} {μ : Mt} {R RA RB S : Ty} {Rs Ss : List Ty} {ta tb tc te : TE} {tt tu : TT} {tr : TA} {K : PySem.W.Frag} {i j : Int} {b c : Bool} {x y : V}
theorem Y.cast (h : Y te Γ μ R) (e : ∀ v H, R.r v H → S.r v H) : Y te Γ μ S := fun σ H0 H s Q q => h σ H0 H s Q fun v H0' H' g r => q v H0' H' g (e _ _ r)
theorem Y.to (h : Y te Γ μ R) (e : R = S) : Y te Γ μ S := e ▸ h
theorem YT.to (h : YT tt Γ μ b) (e : b = c) : YT tt Γ μ c := e ▸ h
theorem YA.to (h : YA tr Γ μ Rs) (e : Rs = Ss) : YA tr Γ μ Ss := e ▸ h
theorem YL.yy (h : YL te Γ μ Rs) : Y te Γ μ (Lst Rs) := fun σ H0 H s Q q => h σ H0 H s Q fun p vs H0' H' g n n0 hp ha => by
  refine q _ (upd H0' p (.lst vs)) H' ⟨g.e0.trans (Ex.new n0), g.e, fun a u z => ?_, fun a z z' => ?_⟩ ⟨p, vs, rfl, upd_same, ha.m (Ex.new n0)⟩
  · by_cases e : a = p
    · subst e; rw [upd_same] at z; cases z; exact hp
    · rw [upd_ne e] at z; exact g.p a u z
  · rw [upd_ne (fun e => z' (by rw [e]; exact n))]; exact g.f a z z'
theorem y_var {k : Nat} (h : Γ[k]? = some (some R)) : Y (tVar k) Γ μ R := fun σ H0 H s Q q =>
  let ⟨v, a, r⟩ := s.sl.2 k R h
  ⟨v, a, q v H0 H s.g0 r⟩
theorem y_c {v : V} : Y (tC v) Γ μ (Is v) := fun σ H0 H s Q q => q v H0 H s.g0 rfl
/-- two places by values -/
theorem y_op {r : R2} (ha : Y ta Γ μ RA) (hb : Y tb Γ μ RB) (hr : ∀ x y H0 H, Ex H0 H → RA.r x H0 → RB.r y H0 → ∀ Q : VK, (∀ z H0' H', Gr H0 H H0' H' → R.r z H0' → Q z H') → r x y H Q) : Y (tOp r ta tb) Γ μ R :=
  fun σ H0 H s Q q => ha σ H0 H s _ fun x H1 G1 g1 r1 => hb σ H1 G1 (s.gr g1) _ fun y H2 G2 g2 r2 => hr x y H2 G2 g2.p (RA.m _ _ _ g2.e0 r1) r2 Q fun z H3 G3 g3 r3 => q z H3 G3 ((g1.trans g2).trans g3) r3
theorem y_opI {g : Int → Int → V} (ha : Y ta Γ μ (tI i)) (hb : Y tb Γ μ (tI j)) : Y (tOp (rI0 g) ta tb) Γ μ (Is (g i j)) :=
  y_op ha hb fun x y H0 H e r1 r2 Q q => ⟨i, j, r1, r2, q _ H0 H (Gr.refl e) rfl⟩
theorem y_add (ha : Y ta Γ μ (tI i)) (hb : Y tb Γ μ (tI j)) : Y (tOp (rI0 fun i j => V.int (i + j)) ta tb) Γ μ (tI (i + j)) := y_opI ha hb
theorem y_sub (ha : Y ta Γ μ (tI i)) (hb : Y tb Γ μ (tI j)) : Y (tOp (rI0 fun i j => V.int (i - j)) ta tb) Γ μ (tI (i - j)) := y_opI ha hb
theorem y_lt (ha : Y ta Γ μ (tI i)) (hb : Y tb Γ μ (tI j)) : Y (tOp (rI0 fun i j => V.bl (decide (i < j))) ta tb) Γ μ (tBo (decide (i < j))) := y_opI ha hb
theorem y_le (ha : Y ta Γ μ (tI i)) (hb : Y tb Γ μ (tI j)) : Y (tOp (rI0 fun i j => V.bl (decide (i ≤ j))) ta tb) Γ μ (tBo (decide (i ≤ j))) := y_opI ha hb
theorem y_gt (ha : Y ta Γ μ (tI i)) (hb : Y tb Γ μ (tI j)) : Y (tOp (rI0 fun i j => V.bl (decide (j < i))) ta tb) Γ μ (tBo (decide (j < i))) := y_opI ha hb
theorem y_ge (ha : Y ta Γ μ (tI i)) (hb : Y tb Γ μ (tI j)) : Y (tOp (rI0 fun i j => V.bl (decide (j ≤ i))) ta tb) Γ μ (tBo (decide (j ≤ i))) := y_opI ha hb
theorem y_opC {C : Int → Int → Prop} {g : Int → Int → V} (ha : Y ta Γ μ (tI i)) (hb : Y tb Γ μ (tI j)) (hc : C i j) : Y (tOp (rI C g) ta tb) Γ μ (Is (g i j)) :=
  y_op ha hb fun x y H0 H e r1 r2 Q q => ⟨i, j, r1, r2, hc, q _ H0 H (Gr.refl e) rfl⟩
theorem y_mul (ha : Y ta Γ μ (tI i)) (hb : Y tb Γ μ (tI j)) (hc : CMul i j) : Y (tOp (rI CMul fun i j => V.int (i * j)) ta tb) Γ μ (tI (i * j)) := y_opC ha hb hc
theorem y_mod (ha : Y ta Γ μ (tI i)) (hb : Y tb Γ μ (tI j)) (hc : 0 < j) : Y (tOp (rI (fun _ j => 0 < j) fun i j => V.int (i % j)) ta tb) Γ μ (tI (i % j)) := y_opC ha hb hc
theorem y_fdiv (ha : Y ta Γ μ (tI i)) (hb : Y tb Γ μ (tI j)) (hc : CDivN i j) : Y (tOp (rI CDivN fun i j => V.int (Int.fdiv i j)) ta tb) Γ μ (tI (Int.fdiv i j)) := y_opC ha hb hc
theorem y_pow (ha : Y ta Γ μ (tI i)) (hb : Y tb Γ μ (tI j)) (hc : CPow i j) : Y (tOp (rI CPow fun i j => V.int (i ^ j.toNat)) ta tb) Γ μ (tI (i ^ j.toNat)) := y_opC ha hb hc
theorem y_eq (ha : Y ta Γ μ (Is x)) (hb : Y tb Γ μ (Is y)) (hs : scal x y = true) : Y (tOp rEq ta tb) Γ μ (tBo (decide (x = y))) :=
  y_op ha hb fun x' y' H0 H e r1 r2 Q q => by
    obtain rfl : x' = x := r1
    obtain rfl : y' = y := r2
    exact ⟨hs, q _ H0 H (Gr.refl e) rfl⟩
theorem y_ne (ha : Y ta Γ μ (Is x)) (hb : Y tb Γ μ (Is y)) (hs : scal x y = true) : Y (tOp rNe ta tb) Γ μ (tBo (!decide (x = y))) :=
  y_op ha hb fun x' y' H0 H e r1 r2 Q q => by
    obtain rfl : x' = x := r1
    obtain rfl : y' = y := r2
    exact ⟨hs, q _ H0 H (Gr.refl e) rfl⟩
theorem y_eqI (ha : Y ta Γ μ (tI i)) (hb : Y tb Γ μ (tI j)) : Y (tOp rEq ta tb) Γ μ (tBo (decide (i = j))) := (y_eq ha hb rfl).to (by
  have : decide (V.int i = V.int j) = decide (i = j) := by simp
  rw [this])
theorem y_neI (ha : Y ta Γ μ (tI i)) (hb : Y tb Γ μ (tI j)) : Y (tOp rNe ta tb) Γ μ (tBo (!decide (i = j))) := (y_ne ha hb rfl).to (by
  have : decide (V.int i = V.int j) = decide (i = j) := by simp
  rw [this])
theorem y_eqS {a d : Str} (ha : Y ta Γ μ (tSt a)) (hb : Y tb Γ μ (tSt d)) : Y (tOp rEq ta tb) Γ μ (tBo (decide (a = d))) := (y_eq ha hb rfl).to (by
  have : decide (V.str a = V.str d) = decide (a = d) := by simp
  rw [this])
theorem y_neS {a d : Str} (ha : Y ta Γ μ (tSt a)) (hb : Y tb Γ μ (tSt d)) : Y (tOp rNe ta tb) Γ μ (tBo (!decide (a = d))) := (y_ne ha hb rfl).to (by
  have : decide (V.str a = V.str d) = decide (a = d) := by simp
  rw [this])
theorem y_isN (ha : Y ta Γ μ R) (hR : ∀ v H, R.r v H → decide (v = .non) = b) : Y (tOp (fun x y H Q => y = V.non ∧ Q (V.bl (decide (x = V.non))) H) ta (tC .non)) Γ μ (tBo b) :=
  y_op ha y_c fun x y H0 H e r1 r2 Q q => by
    obtain rfl : y = V.non := r2
    refine ⟨rfl, ?_⟩
    rw [hR _ _ r1]
    exact q _ H0 H (Gr.refl e) rfl
theorem y_notN (ha : Y ta Γ μ R) (hR : ∀ v H, R.r v H → (!decide (v = .non)) = b) : Y (tOp (fun x y H Q => y = V.non ∧ Q (V.bl (!decide (x = V.non))) H) ta (tC .non)) Γ μ (tBo b) :=
  y_op ha y_c fun x y H0 H e r1 r2 Q q => by
    obtain rfl : y = V.non := r2
    refine ⟨rfl, ?_⟩
    rw [hR _ _ r1]
    exact q _ H0 H (Gr.refl e) rfl
theorem y_neg (ha : Y ta Γ μ (tI i)) : Y (tUn (rU fun i => V.int (-i)) ta) Γ μ (tI (-i)) := fun σ H0 H s Q q =>
  ha σ H0 H s _ fun x H1 G1 g1 r1 => ⟨i, r1, q _ H1 G1 g1 rfl⟩
/-! lists, tuples -/
theorem ya_nil : YA tNil Γ μ [] := fun σ H0 H s Q q => q [] H0 H s.g0 trivial
theorem ya_cons (h : Y te Γ μ R) (hr : YA tr Γ μ Rs) : YA (tCons te tr) Γ μ (R :: Rs) := fun σ H0 H s Q q =>
  h σ H0 H s _ fun x H1 G1 g1 r1 => hr σ H1 G1 (s.gr g1) _ fun xs H2 G2 g2 r2 => q _ H2 G2 (g1.trans g2) ⟨R.m _ _ _ g2.e0 r1, r2⟩
theorem y_tup (h : YA tr Γ μ Rs) (hl : Rs.length ≤ 100000) : Y (tTup tr) Γ μ (Tup K Rs) := fun σ H0 H s Q q =>
  h σ H0 H s _ fun vs H1 G1 g1 r1 => ⟨sz_of (by rw [r1.len]; exact hl), fun p hp => q _ (upd H1 p (.tup vs)) _ (g1.trans (Gr.new g1.p hp)) ⟨p, vs, rfl, st_of upd_same, r1.m (Ex.new (fresh_back g1.p hp))⟩⟩
theorem yl_lst (h : YA tr Γ μ Rs) (hl : Rs.length ≤ 100000) : YL (tLst tr) Γ μ Rs := fun σ H0 H s Q q =>
  h σ H0 H s _ fun vs H1 G1 g1 r1 => ⟨sz_of (by rw [r1.len]; exact hl), fun p hp => q p vs H1 _ (g1.trans (Gr.own g1.p hp)) (fresh_back g1.e hp) (fresh_back g1.p hp) upd_same r1⟩
theorem y_lst (h : YA tr Γ μ Rs) (hl : Rs.length ≤ 100000) : Y (tLst tr) Γ μ (Lst Rs) := (yl_lst h hl).yy
theorem yl_cat (ha : Y ta Γ μ (Lst Rs)) (hb : Y tb Γ μ (Lst Ss)) (hl : Rs.length + Ss.length ≤ 100000) : YL (tOp rCat ta tb) Γ μ (Rs ++ Ss) := fun σ H0 H s Q q =>
  ha σ H0 H s _ fun x H1 G1 g1 r1 => hb σ H1 G1 (s.gr g1) _ fun y H2 G2 g2 r2 => by
    obtain ⟨a, vs, rfl, h1, h2⟩ := (Lst Rs).m _ _ _ g2.e0 r1
    obtain ⟨b, ws, rfl, k1, k2⟩ := r2
    exact ⟨a, b, vs, ws, rfl, rfl, g2.p a _ h1, g2.p b _ k1, sz_of (by rw [h2.len, k2.len]; exact hl), fun p hp => q p _ H2 _ ((g1.trans g2).trans (Gr.own g2.p hp)) (fresh_back (g1.trans g2).e hp) (fresh_back g2.p hp) upd_same (h2.app k2)⟩
theorem y_cat (ha : Y ta Γ μ (Lst Rs)) (hb : Y tb Γ μ (Lst Ss)) (hl : Rs.length + Ss.length ≤ 100000) : Y (tOp rCat ta tb) Γ μ (Lst (Rs ++ Ss)) := (yl_cat ha hb hl).yy
theorem y_catA (ha : Y ta Γ μ (Tup K Rs)) (hb : Y tb Γ μ (Tup K Ss)) (hl : Rs.length + Ss.length ≤ 100000) : Y (tOp (rCatA K) ta tb) Γ μ (Tup K (Rs ++ Ss)) :=
  y_op ha hb fun x y H0 H e r1 r2 Q q => by
    obtain ⟨a, vs, rfl, h1, h2⟩ := r1
    obtain ⟨b, ws, rfl, k1, k2⟩ := r2
    refine ⟨a, b, vs, ws, rfl, rfl, ex_t e h1, ex_t e k1, sz_of (by rw [h2.len, k2.len]; exact hl), fun z => ?_, fun _ z => ?_, fun _ _ p hp => ?_⟩
    · subst z
      exact q _ H0 H (Gr.refl e) ⟨b, ws, rfl, k1, h2.app k2⟩
    · subst z
      exact q _ H0 H (Gr.refl e) ⟨a, vs, rfl, h1, by simpa using h2.app k2⟩
    · exact q _ _ _ (Gr.new e hp) ⟨p, _, rfl, st_of upd_same, (h2.app k2).m (Ex.new (fresh_back e hp))⟩
theorem y_tupL (ha : Y ta Γ μ (Lst Rs)) : Y (tCB (fun xs H Q => ∃ p ys, xs = [V.ref p] ∧ ((SqL K H p ys ∧ ∀ (l : Addr), H l = none → Q (V.ref l) (upd H l (HO.tup ys))) ∨ SqT K H p ys ∧ Q (V.ref p) H)) (tCons ta tNil)) Γ μ (Tup K Rs) := fun σ H0 H s Q q =>
  ha σ H0 H s _ fun x H1 G1 g1 r1 => by
    obtain ⟨a, vs, rfl, h1, h2⟩ := r1
    exact ⟨a, vs, rfl, .inl ⟨sq_of (g1.p a _ h1), fun p hp => q _ _ _ (g1.trans (Gr.new g1.p hp)) ⟨p, vs, rfl, st_of upd_same, h2.m (Ex.new (fresh_back g1.p hp))⟩⟩⟩
theorem y_tupT (ha : Y ta Γ μ (Tup K Rs)) : Y (tCB (fun xs H Q => ∃ p ys, xs = [V.ref p] ∧ ((SqL K H p ys ∧ ∀ (l : Addr), H l = none → Q (V.ref l) (upd H l (HO.tup ys))) ∨ SqT K H p ys ∧ Q (V.ref p) H)) (tCons ta tNil)) Γ μ (Tup K Rs) := fun σ H0 H s Q q =>
  ha σ H0 H s _ fun x H1 G1 g1 r1 => by
    obtain ⟨a, vs, rfl, h1, h2⟩ := r1
    exact ⟨a, vs, rfl, .inr ⟨ex_t g1.p h1, q _ _ _ g1 ⟨a, vs, rfl, h1, h2⟩⟩⟩
theorem yl_listL (ha : Y ta Γ μ (Lst Rs)) : YL (tCB (fun xs H Q => ∃ p ys, xs = [V.ref p] ∧ (SqL K H p ys ∨ SqT K H p ys) ∧ ∀ (l : Addr), H l = none → Q (V.ref l) (upd H l (HO.lst ys))) (tCons ta tNil)) Γ μ Rs := fun σ H0 H s Q q =>
  ha σ H0 H s _ fun x H1 G1 g1 r1 => by
    obtain ⟨a, vs, rfl, h1, h2⟩ := r1
    exact ⟨a, vs, rfl, .inl (sq_of (g1.p a _ h1)), fun p hp => q p vs H1 _ (g1.trans (Gr.own g1.p hp)) (fresh_back g1.e hp) (fresh_back g1.p hp) upd_same h2⟩
theorem yl_listT (ha : Y ta Γ μ (Tup K Rs)) : YL (tCB (fun xs H Q => ∃ p ys, xs = [V.ref p] ∧ (SqL K H p ys ∨ SqT K H p ys) ∧ ∀ (l : Addr), H l = none → Q (V.ref l) (upd H l (HO.lst ys))) (tCons ta tNil)) Γ μ Rs := fun σ H0 H s Q q =>
  ha σ H0 H s _ fun x H1 G1 g1 r1 => by
    obtain ⟨a, vs, rfl, h1, h2⟩ := r1
    exact ⟨a, vs, rfl, .inr (ex_t g1.p h1), fun p hp => q p vs H1 _ (g1.trans (Gr.own g1.p hp)) (fresh_back g1.e hp) (fresh_back g1.p hp) upd_same h2⟩
theorem y_listL (ha : Y ta Γ μ (Lst Rs)) : Y (tCB (fun xs H Q => ∃ p ys, xs = [V.ref p] ∧ (SqL K H p ys ∨ SqT K H p ys) ∧ ∀ (l : Addr), H l = none → Q (V.ref l) (upd H l (HO.lst ys))) (tCons ta tNil)) Γ μ (Lst Rs) := (yl_listL ha).yy
theorem y_listT (ha : Y ta Γ μ (Tup K Rs)) : Y (tCB (fun xs H Q => ∃ p ys, xs = [V.ref p] ∧ (SqL K H p ys ∨ SqT K H p ys) ∧ ∀ (l : Addr), H l = none → Q (V.ref l) (upd H l (HO.lst ys))) (tCons ta tNil)) Γ μ (Lst Rs) := (yl_listT ha).yy
/-- the ints 0 .. n - 1 -/
theorem AllR.nats {H : Hp} {ns : List Nat} {vs : List V} (h : AllR vs (ns.map tN) H) : vs = ns.map fun n : Nat => V.int (n : Int) := by
  have e : ns.map tN = (ns.map fun n : Nat => V.int (n : Int)).map Is := by rw [List.map_map]; rfl
  rw [e] at h
  exact h.is
theorem AllR.ofNats {H : Hp} {ns : List Nat} : AllR (ns.map fun n : Nat => V.int (n : Int)) (ns.map tN) H := by
  have e : ns.map tN = (ns.map fun n : Nat => V.int (n : Int)).map Is := by rw [List.map_map]; rfl
  rw [e]
  exact AllR.ofIs
theorem rgV_nat (n : Nat) : rgV 0 (n : Int) = (List.range n).map fun i : Nat => V.int (i : Int) := by
  unfold rgV
  have e : ((n : Int) - 0).toNat = n := by omega
  rw [e]
  refine List.map_congr_left fun i _ => ?_
  rw [Int.zero_add]
theorem yl_listRg {n : Nat} (ha : Y ta Γ μ (tN n)) (hn : n ≤ 100000) : YL (tLstRg (tRg1 ta)) Γ μ ((List.range n).map tN) := fun σ H0 H s Q q =>
  ha σ H0 H s _ fun x H1 G1 g1 r1 => ⟨(n : Int), r1, RgOk.of_le (Int.le_refl 0) (by omega) (by omega) (by omega), fun p hp => by
    rw [rgV_nat]
    exact q p _ H1 _ (g1.trans (Gr.own g1.p hp)) (fresh_back g1.e hp) (fresh_back g1.p hp) upd_same AllR.ofNats⟩
theorem y_listRg {n : Nat} (ha : Y ta Γ μ (tN n)) (hn : n ≤ 100000) : Y (tLstRg (tRg1 ta)) Γ μ (Lst ((List.range n).map tN)) := (yl_listRg ha hn).yy
theorem y_lenL (ha : Y ta Γ μ (Lst Rs)) : Y (tCB (fun xs H Q => ∃ p ys, xs = [V.ref p] ∧ (SqL K H p ys ∨ SqT K H p ys) ∧ Q (V.int ↑(List.length ys)) H) (tCons ta tNil)) Γ μ (tN Rs.length) := fun σ H0 H s Q q =>
  ha σ H0 H s _ fun x H1 G1 g1 r1 => by
    obtain ⟨a, vs, rfl, h1, h2⟩ := r1
    exact ⟨a, vs, rfl, .inl (sq_of (g1.p a _ h1)), q _ _ _ g1 (by rw [h2.len]; exact rfl)⟩
theorem y_lenT (ha : Y ta Γ μ (Tup K Rs)) : Y (tCB (fun xs H Q => ∃ p ys, xs = [V.ref p] ∧ (SqL K H p ys ∨ SqT K H p ys) ∧ Q (V.int ↑(List.length ys)) H) (tCons ta tNil)) Γ μ (tN Rs.length) := fun σ H0 H s Q q =>
  ha σ H0 H s _ fun x H1 G1 g1 r1 => by
    obtain ⟨a, vs, rfl, h1, h2⟩ := r1
    exact ⟨a, vs, rfl, .inr (ex_t g1.p h1), q _ _ _ g1 (by rw [h2.len]; exact rfl)⟩
theorem y_ixL {n : Nat} (ha : Y ta Γ μ (Lst Rs)) (hb : Y tb Γ μ (tI i)) (hi : i = (n : Int)) (hR : Rs[n]? = some R) : Y (tOp (rIxL K) ta tb) Γ μ R :=
  y_op ha hb fun x y H0 H e r1 r2 Q q => by
    obtain ⟨a, vs, rfl, h1, h2⟩ := r1
    obtain rfl : y = V.int i := r2
    obtain ⟨v, hv, rv⟩ := h2.get hR
    exact ⟨a, vs, i, v, rfl, rfl, sq_of (e a _ h1), by rw [hi]; exact atI_nat hv, q _ _ _ (Gr.refl e) rv⟩
theorem y_ixT {n : Nat} (ha : Y ta Γ μ (Tup K Rs)) (hb : Y tb Γ μ (tI i)) (hi : i = (n : Int)) (hR : Rs[n]? = some R) : Y (tOp (rIxT K) ta tb) Γ μ R :=
  y_op ha hb fun x y H0 H e r1 r2 Q q => by
    obtain ⟨a, vs, rfl, h1, h2⟩ := r1
    obtain rfl : y = V.int i := r2
    obtain ⟨v, hv, rv⟩ := h2.get hR
    exact ⟨a, vs, i, v, rfl, rfl, ex_t e h1, by rw [hi]; exact atI_nat hv, q _ _ _ (Gr.refl e) rv⟩
theorem inV_nat (i : Nat) (ns : List Nat) : inV (.int (i : Int)) (ns.map fun n : Nat => V.int (n : Int)) = decide (i ∈ ns) := by
  unfold inV
  rw [List.any_map]
  induction ns with
  | nil => rfl
  | cons n ns ih =>
    rw [List.any_cons, ih]
    show ((n : Int) == (i : Int) || _) = _
    by_cases e : n = i
    · subst e; simp
    · have e1 : ((n : Int) == (i : Int)) = false := by simp; omega
      rw [e1]
      simp [show ¬ i = n from fun z => e z.symm]
theorem flat_nats (ns : List Nat) : (ns.map fun n : Nat => V.int (n : Int)).all flatV = true := by
  rw [List.all_map]
  exact List.all_eq_true.mpr fun _ _ => rfl
theorem y_inL {n : Nat} {ns : List Nat} (ha : Y ta Γ μ (tN n)) (hb : Y tb Γ μ (Lst (ns.map tN))) : Y (tOp (rIn K false) ta tb) Γ μ (tBo (decide (n ∈ ns))) :=
  y_op ha hb fun x y H0 H e r1 r2 Q q => by
    obtain ⟨a, vs, rfl, h1, h2⟩ := r2
    obtain rfl : x = V.int n := r1
    obtain rfl := h2.nats
    exact ⟨a, _, rfl, .inl (sq_of (e a _ h1)), rfl, flat_nats ns, q _ _ _ (Gr.refl e) (by rw [inV_nat]; rfl)⟩
theorem y_ninL {n : Nat} {ns : List Nat} (ha : Y ta Γ μ (tN n)) (hb : Y tb Γ μ (Lst (ns.map tN))) : Y (tOp (rIn K true) ta tb) Γ μ (tBo (!decide (n ∈ ns))) :=
  y_op ha hb fun x y H0 H e r1 r2 Q q => by
    obtain ⟨a, vs, rfl, h1, h2⟩ := r2
    obtain rfl : x = V.int n := r1
    obtain rfl := h2.nats
    exact ⟨a, _, rfl, .inl (sq_of (e a _ h1)), rfl, flat_nats ns, q _ _ _ (Gr.refl e) (by rw [inV_nat]; rfl)⟩
theorem y_inT {n : Nat} {ns : List Nat} (ha : Y ta Γ μ (tN n)) (hb : Y tb Γ μ (Tup K (ns.map tN))) : Y (tOp (rIn K false) ta tb) Γ μ (tBo (decide (n ∈ ns))) :=
  y_op ha hb fun x y H0 H e r1 r2 Q q => by
    obtain ⟨a, vs, rfl, h1, h2⟩ := r2
    obtain rfl : x = V.int n := r1
    obtain rfl := h2.nats
    exact ⟨a, _, rfl, .inr (ex_t e h1), rfl, flat_nats ns, q _ _ _ (Gr.refl e) (by rw [inV_nat]; rfl)⟩
theorem y_ninT {n : Nat} {ns : List Nat} (ha : Y ta Γ μ (tN n)) (hb : Y tb Γ μ (Tup K (ns.map tN))) : Y (tOp (rIn K true) ta tb) Γ μ (tBo (!decide (n ∈ ns))) :=
  y_op ha hb fun x y H0 H e r1 r2 Q q => by
    obtain ⟨a, vs, rfl, h1, h2⟩ := r2
    obtain rfl : x = V.int n := r1
    obtain rfl := h2.nats
    exact ⟨a, _, rfl, .inr (ex_t e h1), rfl, flat_nats ns, q _ _ _ (Gr.refl e) (by rw [inV_nat]; rfl)⟩
/-! slices -/
def YO (to : TO) (Γ : Ctx) (μ : Mt) (o : Option Int) : Prop := ∀ σ H0 H, Sx σ H0 H Γ μ → ∀ Q : Option Int → Hp → Prop, (∀ H0' H', Gr H0 H H0' H' → Q o H') → to σ H Q
theorem yo_none : YO tNoPart Γ μ none := fun σ H0 H s Q q => q H0 H s.g0
theorem yo_some (h : Y te Γ μ (tI i)) : YO (tPart te) Γ μ (some i) := fun σ H0 H s Q q => h σ H0 H s _ fun x H1 G1 g1 r1 => ⟨i, r1, q _ _ g1⟩
def cutR {α : Type} (xs : List α) (lo hi : Option Int) : List α := (xs.drop (HT.sIx xs.length 0 lo)).take (HT.sIx xs.length xs.length hi - HT.sIx xs.length 0 lo)
theorem AllR.cut {H : Hp} {vs : List V} {Rs : List Ty} {lo hi : Option Int} (h : AllR vs Rs H) : AllR (cutV vs lo hi) (cutR Rs lo hi) H := by
  unfold cutV cutR
  rw [h.len]
  exact AllR.take _ (AllR.drop _ h)
theorem yl_slL {tl th : TO} {lo hi : Option Int} (h : Y te Γ μ (Lst Rs)) (h1 : YO tl Γ μ lo) (h2 : YO th Γ μ hi) : YL (tSl (rSlL K) te tl th) Γ μ (cutR Rs lo hi) := fun σ H0 H s Q q =>
  h σ H0 H s _ fun x H1 G1 g1 r1 => h1 σ H1 G1 (s.gr g1) _ fun H2 G2 g2 => h2 σ H2 G2 ((s.gr g1).gr g2) _ fun H3 G3 g3 => by
    obtain ⟨a, vs, rfl, k1, k2⟩ := r1
    have g := (g1.trans g2).trans g3
    exact ⟨a, vs, rfl, sq_of ((g2.trans g3).e a _ (g1.p a _ k1)), fun p hp => q p _ H3 _ (g.trans (Gr.own g3.p hp)) (fresh_back g.e hp) (fresh_back g3.p hp) upd_same (k2.m (g2.trans g3).e0).cut⟩
theorem y_slL {tl th : TO} {lo hi : Option Int} (h : Y te Γ μ (Lst Rs)) (h1 : YO tl Γ μ lo) (h2 : YO th Γ μ hi) : Y (tSl (rSlL K) te tl th) Γ μ (Lst (cutR Rs lo hi)) := (yl_slL h h1 h2).yy
theorem cut_from {α : Type} (xs : List α) (n : Nat) : cutR xs (some (n : Int)) none = xs.drop n := by
  unfold cutR
  rw [HT.sIx_nat, HT.sIx_none]
  by_cases h : n ≤ xs.length
  · rw [Nat.min_eq_left h]
    exact List.take_of_length_le (by rw [List.length_drop]; exact Nat.le_refl _)
  · rw [Nat.min_eq_right (by omega), List.drop_eq_nil_of_le (by omega : xs.length ≤ n), List.drop_eq_nil_of_le (Nat.le_refl _)]
    simp
theorem cut_one {α : Type} (xs : List α) : cutR xs none (some 1) = xs.take 1 := by
  unfold cutR
  have e : HT.sIx xs.length xs.length (some 1) = min 1 xs.length := HT.sIx_nat xs.length xs.length 1
  rw [e, HT.sIx_none, List.drop_zero]
  cases xs with
  | nil => rfl
  | cons x xs => simp
theorem cut_last {α : Type} (xs : List α) : cutR xs (some (-1)) none = xs.drop (xs.length - 1) := by
  unfold cutR
  have e : HT.sIx xs.length 0 (some (-1)) = xs.length - 1 := by
    show (if (-1 : Int) < 0 then ((-1 : Int) + (xs.length : Int)).toNat else min (-1 : Int).toNat xs.length) = _
    rw [if_pos (by decide)]
    omega
  rw [e, HT.sIx_none]
  exact List.take_of_length_le (by rw [List.length_drop]; omega)
/-! any, all, max, min, sorted -/
theorem allR_bools {H : Hp} {vs : List V} {bs : List Bool} (h : AllR vs (bs.map tBo) H) : vs = bs.map V.bl := by
  have e : bs.map tBo = (bs.map V.bl).map Is := by rw [List.map_map]; rfl
  rw [e] at h
  exact h.is
theorem allR_ints {H : Hp} {vs : List V} {bs : List Int} (h : AllR vs (bs.map tI) H) : vs = bs.map V.int := by
  have e : bs.map tI = (bs.map V.int).map Is := by rw [List.map_map]; rfl
  rw [e] at h
  exact h.is
theorem allR_ofInts {H : Hp} {bs : List Int} : AllR (bs.map V.int) (bs.map tI) H := by
  have e : bs.map tI = (bs.map V.int).map Is := by rw [List.map_map]; rfl
  rw [e]
  exact AllR.ofIs
theorem y_any0 {bs : List Bool} (ha : Y ta Γ μ (Lst (bs.map tBo))) : Y (tCB (rAny K) (tCons ta tNil)) Γ μ (tBo (bs.any id)) := fun σ H0 H s Q q =>
  ha σ H0 H s _ fun x H1 G1 g1 r1 => by
    obtain ⟨a, vs, rfl, h1, h2⟩ := r1
    exact ⟨a, bs, rfl, allR_bools h2 ▸ sq_of (g1.p a _ h1), q _ _ _ g1 rfl⟩
theorem y_all0 {bs : List Bool} (ha : Y ta Γ μ (Lst (bs.map tBo))) : Y (tCB (rAll K) (tCons ta tNil)) Γ μ (tBo (bs.all id)) := fun σ H0 H s Q q =>
  ha σ H0 H s _ fun x H1 G1 g1 r1 => by
    obtain ⟨a, vs, rfl, h1, h2⟩ := r1
    exact ⟨a, bs, rfl, allR_bools h2 ▸ sq_of (g1.p a _ h1), q _ _ _ g1 rfl⟩
theorem y_any {α : Type} {xs : List α} {f : α → Bool} (ha : Y ta Γ μ (Lst (xs.map fun x => tBo (f x)))) : Y (tCB (rAny K) (tCons ta tNil)) Γ μ (tBo (xs.any f)) := by
  have e : (xs.map fun x => tBo (f x)) = (xs.map f).map tBo := by rw [List.map_map]; rfl
  rw [e] at ha
  exact (y_any0 ha).to (by rw [List.any_map]; rfl)
theorem y_all {α : Type} {xs : List α} {f : α → Bool} (ha : Y ta Γ μ (Lst (xs.map fun x => tBo (f x)))) : Y (tCB (rAll K) (tCons ta tNil)) Γ μ (tBo (xs.all f)) := by
  have e : (xs.map fun x => tBo (f x)) = (xs.map f).map tBo := by rw [List.map_map]; rfl
  rw [e] at ha
  exact (y_all0 ha).to (by rw [List.all_map]; rfl)
theorem y_max {ns : List Int} {m : Int} (ha : Y ta Γ μ (Lst (ns.map tI))) (hm : m ∈ ns) (hle : ∀ y ∈ ns, y ≤ m) : Y (tCB (rMax K) (tCons ta tNil)) Γ μ (tI m) := fun σ H0 H s Q q =>
  ha σ H0 H s _ fun x H1 G1 g1 r1 => by
    obtain ⟨a, vs, rfl, h1, h2⟩ := r1
    refine ⟨a, ns, rfl, allR_ints h2 ▸ sq_of (g1.p a _ h1), List.length_pos_of_mem hm, fun m' hm' hle' => q _ _ _ g1 ?_⟩
    have e : m' = m := Int.le_antisymm (hle m' hm') (hle' m hm)
    rw [e]
    rfl
theorem y_min {ns : List Int} {m : Int} (ha : Y ta Γ μ (Lst (ns.map tI))) (hm : m ∈ ns) (hle : ∀ y ∈ ns, m ≤ y) : Y (tCB (rMin K) (tCons ta tNil)) Γ μ (tI m) := fun σ H0 H s Q q =>
  ha σ H0 H s _ fun x H1 G1 g1 r1 => by
    obtain ⟨a, vs, rfl, h1, h2⟩ := r1
    refine ⟨a, ns, rfl, allR_ints h2 ▸ sq_of (g1.p a _ h1), List.length_pos_of_mem hm, fun m' hm' hle' => q _ _ _ g1 ?_⟩
    have e : m' = m := Int.le_antisymm (hle' m hm) (hle m' hm')
    rw [e]
    rfl
theorem y_int1 (ha : Y ta Γ μ (tI i)) : Y (tCB (fun xs H Q => (∃ i, xs = [V.int i] ∧ Q (V.int i) H) ∨ ∃ k, xs = [V.bl k] ∧ Q (V.int (if k = true then 1 else 0)) H) (tCons ta tNil)) Γ μ (tI i) := fun σ H0 H s Q q =>
  ha σ H0 H s _ fun x H1 G1 g1 r1 => .inl ⟨i, by rw [show x = V.int i from r1], q _ _ _ g1 rfl⟩
theorem y_intB (ha : Y ta Γ μ (tBo b)) : Y (tCB (fun xs H Q => (∃ i, xs = [V.int i] ∧ Q (V.int i) H) ∨ ∃ k, xs = [V.bl k] ∧ Q (V.int (if k = true then 1 else 0)) H) (tCons ta tNil)) Γ μ (tI (if b = true then 1 else 0)) := fun σ H0 H s Q q =>
  ha σ H0 H s _ fun x H1 G1 g1 r1 => .inr ⟨b, by rw [show x = V.bl b from r1], q _ _ _ g1 rfl⟩
theorem y_abs (ha : Y ta Γ μ (tI i)) : Y (tCB (fun xs H Q => ∃ i, xs = [V.int i] ∧ Q (V.int (if i < 0 then -i else i)) H) (tCons ta tNil)) Γ μ (tI (if i < 0 then -i else i)) := fun σ H0 H s Q q =>
  ha σ H0 H s _ fun x H1 G1 g1 r1 => ⟨i, by rw [show x = V.int i from r1], q _ _ _ g1 rfl⟩
theorem y_max2 (ha : Y ta Γ μ (tI i)) (hb : Y tb Γ μ (tI j)) : Y (tCB (fun xs H Q => ∃ i j, xs = [V.int i, V.int j] ∧ Q (V.int (if j > i then j else i)) H) (tCons ta (tCons tb tNil))) Γ μ (tI (if j > i then j else i)) := fun σ H0 H s Q q =>
  ha σ H0 H s _ fun x H1 G1 g1 r1 => hb σ H1 G1 (s.gr g1) _ fun y H2 G2 g2 r2 => ⟨i, j, by rw [show x = V.int i from r1, show y = V.int j from r2], q _ _ _ (g1.trans g2) rfl⟩
theorem y_min2 (ha : Y ta Γ μ (tI i)) (hb : Y tb Γ μ (tI j)) : Y (tCB (fun xs H Q => ∃ i j, xs = [V.int i, V.int j] ∧ Q (V.int (if j < i then j else i)) H) (tCons ta (tCons tb tNil))) Γ μ (tI (if j < i then j else i)) := fun σ H0 H s Q q =>
  ha σ H0 H s _ fun x H1 G1 g1 r1 => hb σ H1 G1 (s.gr g1) _ fun y H2 G2 g2 r2 => ⟨i, j, by rw [show x = V.int i from r1, show y = V.int j from r2], q _ _ _ (g1.trans g2) rfl⟩
theorem nats_ints (ns : List Nat) : ns.map tN = (ns.map fun n : Nat => (n : Int)).map tI := by rw [List.map_map]; rfl
/-! tests -/
theorem yt_t (h : Y te Γ μ (tBo b)) : YT (tTest te) Γ μ b := fun σ H0 H s Q q => h σ H0 H s _ fun x H1 G1 g1 r1 => ⟨b, r1, q _ _ g1⟩
theorem yt_B (h : Y te Γ μ (tBo b)) : YT (L2.tB te) Γ μ b := fun σ H0 H s Q q => h σ H0 H s _ fun x H1 G1 g1 r1 => ⟨b, r1, q _ _ g1⟩
theorem yt_yes : YT tYes Γ μ true := fun σ H0 H s Q q => q H0 H s.g0
theorem yt_and (h1 : YT tt Γ μ b) (h2 : b = true → YT tu Γ μ c) : YT (tAnd tt tu) Γ μ (b && c) := fun σ H0 H s Q q => h1 σ H0 H s _ fun H1 G1 g1 => by
  cases b with
  | true => exact h2 rfl σ H1 G1 (s.gr g1) Q fun H2 G2 g2 => q _ _ (g1.trans g2)
  | false => exact q _ _ g1
theorem yt_or (h1 : YT tt Γ μ b) (h2 : b = false → YT tu Γ μ c) : YT (tOr tt tu) Γ μ (b || c) := fun σ H0 H s Q q => h1 σ H0 H s _ fun H1 G1 g1 => by
  cases b with
  | true => exact q _ _ g1
  | false => exact h2 rfl σ H1 G1 (s.gr g1) Q fun H2 G2 g2 => q _ _ (g1.trans g2)
theorem yt_not (h : YT tt Γ μ b) : YT (tNot tt) Γ μ (!b) := fun σ H0 H s Q q => h σ H0 H s _ fun H1 G1 g1 => q _ _ g1
theorem y_and (h1 : Y ta Γ μ (tBo b)) (h2 : b = true → Y tb Γ μ (tBo c)) : Y (tAndV ta tb) Γ μ (tBo (b && c)) := fun σ H0 H s Q q => h1 σ H0 H s _ fun x H1 G1 g1 r1 => ⟨b, r1, by
  cases b with
  | true => exact h2 rfl σ H1 G1 (s.gr g1) Q fun x H2 G2 g2 r2 => q _ _ _ (g1.trans g2) r2
  | false => exact q _ _ _ g1 rfl⟩
theorem y_or (h1 : Y ta Γ μ (tBo b)) (h2 : b = false → Y tb Γ μ (tBo c)) : Y (tOrV ta tb) Γ μ (tBo (b || c)) := fun σ H0 H s Q q => h1 σ H0 H s _ fun x H1 G1 g1 r1 => ⟨b, r1, by
  cases b with
  | true => exact q _ _ _ g1 rfl
  | false => exact h2 rfl σ H1 G1 (s.gr g1) Q fun x H2 G2 g2 r2 => q _ _ _ (g1.trans g2) r2⟩
theorem y_not (h : Y ta Γ μ (tBo b)) : Y (tNotV ta) Γ μ (tBo (!b)) := fun σ H0 H s Q q => h σ H0 H s _ fun x H1 G1 g1 r1 => ⟨b, r1, q _ _ _ g1 rfl⟩
theorem y_if (h : YT tt Γ μ b) (h1 : b = true → Y ta Γ μ R) (h2 : b = false → Y tb Γ μ R) : Y (tIf tt ta tb) Γ μ R := fun σ H0 H s Q q => h σ H0 H s _ fun H1 G1 g1 => by
  cases b with
  | true => exact h1 rfl σ H1 G1 (s.gr g1) Q fun x H2 G2 g2 r2 => q _ _ _ (g1.trans g2) r2
  | false => exact h2 rfl σ H1 G1 (s.gr g1) Q fun x H2 G2 g2 r2 => q _ _ _ (g1.trans g2) r2
/-- a < b < c -/
theorem y_chain {r r' : R2} {x y z : V} (ha : Y ta Γ μ (Is x)) (hb : Y tb Γ μ (Is y)) (hc : Y tc Γ μ (Is z)) (h1 : ∀ H (Q : VK), Q (.bl b) H → r x y H Q) (h2 : ∀ H (Q : VK), Q (.bl c) H → r' y z H Q) : Y (tChain r r' ta tb tc) Γ μ (tBo (b && c)) := fun σ H0 H s Q q =>
  ha σ H0 H s _ fun x' H1 G1 g1 r1 => hb σ H1 G1 (s.gr g1) _ fun y' H2 G2 g2 r2 => by
    obtain rfl : x' = x := r1
    obtain rfl : y' = y := r2
    refine h1 _ _ ⟨b, rfl, ?_⟩
    cases b with
    | true =>
      show tc σ G2 _
      exact hc σ H2 G2 ((s.gr g1).gr g2) _ fun z' H3 G3 g3 r3 => by
        obtain rfl : z' = z := r3
        exact h2 _ _ (q _ _ _ ((g1.trans g2).trans g3) rfl)
    | false => exact q _ _ _ (g1.trans g2) rfl
theorem ch_lt (i j : Int) (H : Hp) (Q : VK) (q : Q (.bl (decide (i < j))) H) : (rI0 fun i j => V.bl (decide (i < j))) (.int i) (.int j) H Q := ⟨i, j, rfl, rfl, q⟩
theorem ch_le (i j : Int) (H : Hp) (Q : VK) (q : Q (.bl (decide (i ≤ j))) H) : (rI0 fun i j => V.bl (decide (i ≤ j))) (.int i) (.int j) H Q := ⟨i, j, rfl, rfl, q⟩
end
end HF
set_option maxHeartbeats 200000
namespace HF
open PySem PyProof.Rows L2 Evl
section
variable {Γ Γ' : Ctx} {μ : Mt} {R RA RB S : Ty} {Rs Ss : List Ty} {ta tb tc te : TE} {tt tu : TT} {tr : TA} {K : PySem.W.Frag} {i j : Int} {b c : Bool} {x y : V}
/-! ### dicts -/
def keyN (p : Nat × Nat) : List L2.Key := [Sum.inl (p.1 : Int), Sum.inl (p.2 : Int)]
theorem keyN_inj {p q : Nat × Nat} (h : keyN p = keyN q) : p = q := by
  obtain ⟨a, b⟩ := p
  obtain ⟨a', b'⟩ := q
  unfold keyN at h
  simp at h
  obtain ⟨h1, h2⟩ := h
  rw [show a = a' by omega, show b = b' by omega]
/-- a dict whose keys are pairs of numbers -/
def DT (A : List (Nat × Nat)) : Ty := ⟨fun v H => ∃ a kvs, v = .ref a ∧ H a = some (.dT kvs) ∧ kvs.map (·.1) = A.map keyN, fun v H H' e ⟨a, kvs, h1, h2, h3⟩ => ⟨a, kvs, h1, e a _ h2, h3⟩⟩
/-- a dict whose keys are numbers -/
def DKR (es : List (Nat × Ty)) : Ty := ⟨fun v H => ∃ a kvs, v = .ref a ∧ Rd H a (.dK kvs) ∧ kvs.map (·.1) = es.map (fun p : Nat × Ty => (Sum.inl (p.1 : Int) : L2.Key)) ∧ AllR (kvs.map (·.2)) (es.map (·.2)) H, by
  rintro v H H' e ⟨a, kvs, h1, h2, h3, h4⟩
  exact ⟨a, kvs, h1, ex_rd e h2, h3, AllR.m e h4⟩⟩
def DK (es : List (Nat × Ty)) : Ty := ⟨fun v H => ∃ a kvs, v = .ref a ∧ H a = some (.dK kvs) ∧ kvs.map (·.1) = es.map (fun p : Nat × Ty => (Sum.inl (p.1 : Int) : L2.Key)) ∧ AllR (kvs.map (·.2)) (es.map (·.2)) H, by
  rintro v H H' e ⟨a, kvs, h1, h2, h3, h4⟩
  exact ⟨a, kvs, h1, e a _ h2, h3, AllR.m e h4⟩⟩
theorem DK.toR {es : List (Nat × Ty)} {v : V} {H : Hp} (h : (DK es).r v H) : (DKR es).r v H := by
  obtain ⟨a, kvs, h1, h2, h3, h4⟩ := h
  exact ⟨a, kvs, h1, .inl h2, h3, h4⟩
/-- while a loop walks it -/
def DKF (es : List (Nat × Ty)) : Ty := ⟨fun v H => ∃ a o kvs, v = .ref a ∧ H a = some (.frz o (.dK kvs)) ∧ kvs.map (·.1) = es.map (fun p : Nat × Ty => (Sum.inl (p.1 : Int) : L2.Key)) ∧ AllR (kvs.map (·.2)) (es.map (·.2)) H, by
  rintro v H H' e ⟨a, o, kvs, h1, h2, h3, h4⟩
  exact ⟨a, o, kvs, h1, e a _ h2, h3, AllR.m e h4⟩⟩
theorem DKF.toR {es : List (Nat × Ty)} {v : V} {H : Hp} (h : (DKF es).r v H) : (DKR es).r v H := by
  obtain ⟨a, o, kvs, h1, h2, h3, h4⟩ := h
  exact ⟨a, kvs, h1, .inr ⟨o, h2⟩, h3, h4⟩
theorem valV_some {κ : Type} [DecidableEq κ] (kvs : List (κ × V)) (k : κ) : (valV kvs k).isSome = decide (k ∈ kvs.map (·.1)) := by
  unfold valV
  rw [Option.isSome_map]
  induction kvs with
  | nil => simp
  | cons p kvs ih =>
    rw [List.find?_cons]
    by_cases e : p.1 = k
    · simp [e]
    · simp only [e, decide_false]
      rw [ih]
      simp [show ¬ k = p.1 from fun z => e z.symm]
theorem valV_nat : ∀ {es : List (Nat × Ty)} {kvs : List (L2.Key × V)} {H : Hp} {n : Nat} {R : Ty}, kvs.map (·.1) = es.map (fun p : Nat × Ty => (Sum.inl (p.1 : Int) : L2.Key)) → AllR (kvs.map (·.2)) (es.map (·.2)) H → es.lookup n = some R → ∃ v, valV kvs (Sum.inl (n : Int)) = some v ∧ R.r v H
  | [], _, _, _, _, _, _, h => by simp at h
  | p :: es, [], _, _, _, h, _, _ => by simp at h
  | p :: es, kv :: kvs, H, n, R, h, ha, hl => by
    obtain ⟨h1, h2⟩ := List.cons.inj (show kv.1 :: kvs.map (·.1) = Sum.inl (p.1 : Int) :: es.map (fun p : Nat × Ty => (Sum.inl (p.1 : Int) : L2.Key)) from h)
    have ha' : p.2.r kv.2 H ∧ AllR (kvs.map (·.2)) (es.map (·.2)) H := ha
    by_cases e : n = p.1
    · subst e
      have : es.lookup p.1 = es.lookup p.1 := rfl
      have hl' : some p.2 = some R := by
        rw [← hl]
        show _ = (p :: es).lookup p.1
        obtain ⟨a, b⟩ := p
        simp [List.lookup]
      cases hl'
      refine ⟨kv.2, ?_, ha'.1⟩
      unfold valV
      rw [List.find?_cons, h1]
      simp
    · obtain ⟨v, k1, k2⟩ := valV_nat (es := es) (kvs := kvs) (n := n) h2 ha'.2 (by
        rw [← hl]
        obtain ⟨a, b⟩ := p
        have : (n == a) = false := by simpa using e
        simp [List.lookup, this])
      refine ⟨v, ?_, k2⟩
      unfold valV at k1 ⊢
      rw [List.find?_cons, h1]
      have : decide ((Sum.inl (p.1 : Int) : L2.Key) = Sum.inl (n : Int)) = false := by
        simp
        omega
      rw [this]
      exact k1
theorem y_dinT {n m : Nat} {A : List (Nat × Nat)} (ha : YA tr Γ μ [tN n, tN m]) (hd : Y te Γ μ (DT A)) : Y (tDIn (tTup tr) te) Γ μ (tBo (decide ((n, m) ∈ A))) := fun σ H0 H s Q q =>
  ha σ H0 H s _ fun vs H1 G1 g1 r1 => ⟨sz_of (by rw [r1.len]; show 2 ≤ 100000; decide), fun p hp => by
    have g := g1.trans (Gr.new (o := .tup vs) g1.p hp)
    refine hd σ _ _ (s.gr g) _ fun x H2 G2 g2 r2 => ?_
    obtain ⟨a, kvs, rfl, h1, h2⟩ := r2
    have e : vs = (keyN (n, m)).map kV := by
      have := AllR.nats (ns := [n, m]) r1
      rw [this]
      rfl
    refine ⟨a, _, rfl, DGet.t (g2.p a _ h1) (g2.e p _ (by rw [upd_same, e])), ?_⟩
    rw [valV_some, h2]
    have e2 : (keyN (n, m) ∈ A.map keyN) ↔ (n, m) ∈ A := by
      refine ⟨fun h => ?_, fun h => List.mem_map_of_mem h⟩
      obtain ⟨q, hq, e⟩ := List.mem_map.mp h
      rw [← keyN_inj e]
      exact hq
    rw [decide_eq_decide.mpr e2]
    exact q _ _ _ (g.trans g2) rfl⟩
theorem dk_mem {es : List (Nat × Ty)} {n : Nat} : ((Sum.inl (n : Int) : L2.Key) ∈ es.map (fun p : Nat × Ty => (Sum.inl (p.1 : Int) : L2.Key))) ↔ (n ∈ es.map (·.1)) := by
  refine ⟨fun h => ?_, fun h => ?_⟩
  · obtain ⟨p, hp, e⟩ := List.mem_map.mp h
    have e2 : p.1 = n := by
      have := Sum.inl.inj e
      omega
    rw [← e2]
    exact List.mem_map_of_mem hp
  · obtain ⟨p, hp, e⟩ := List.mem_map.mp h
    rw [← e]
    exact List.mem_map.mpr ⟨p, hp, rfl⟩
theorem y_dinKR {n : Nat} {es : List (Nat × Ty)} (ha : Y ta Γ μ (tN n)) (hd : Y te Γ μ (DKR es)) : Y (tDIn ta te) Γ μ (tBo (decide (n ∈ es.map (·.1)))) := fun σ H0 H s Q q =>
  ha σ H0 H s _ fun x H1 G1 g1 r1 => hd σ H1 G1 (s.gr g1) _ fun y H2 G2 g2 r2 => by
    obtain ⟨a, kvs, rfl, h1, h2, h3⟩ := r2
    refine ⟨a, valV kvs (Sum.inl (n : Int)), rfl, .inl ⟨kvs, Sum.inl (n : Int), ex_rd g2.p h1, r1, rfl⟩, ?_⟩
    rw [valV_some, h2, decide_eq_decide.mpr dk_mem]
    exact q _ _ _ (g1.trans g2) rfl
theorem y_dgetR {n : Nat} {es : List (Nat × Ty)} (hd : Y te Γ μ (DKR es)) (ha : Y ta Γ μ (tN n)) (hl : es.lookup n = some R) : Y (tDGet te ta) Γ μ R := fun σ H0 H s Q q =>
  hd σ H0 H s _ fun y H1 G1 g1 r1 => ha σ H1 G1 (s.gr g1) _ fun x H2 G2 g2 r2 => by
    obtain ⟨a, kvs, rfl, h1, h2, h3⟩ := (DKR es).m _ _ _ g2.e0 r1
    obtain ⟨v, k1, k2⟩ := valV_nat h2 h3 hl
    exact ⟨a, v, rfl, .inl ⟨kvs, Sum.inl (n : Int), ex_rd g2.p h1, r2, k1.symm⟩, q _ _ _ (g1.trans g2) k2⟩
theorem y_dinK {n : Nat} {es : List (Nat × Ty)} (ha : Y ta Γ μ (tN n)) (hd : Y te Γ μ (DK es)) : Y (tDIn ta te) Γ μ (tBo (decide (n ∈ es.map (·.1)))) := y_dinKR ha (hd.cast fun _ _ h => DK.toR h)
theorem y_dget {n : Nat} {es : List (Nat × Ty)} (hd : Y te Γ μ (DK es)) (ha : Y ta Γ μ (tN n)) (hl : es.lookup n = some R) : Y (tDGet te ta) Γ μ R := y_dgetR (hd.cast fun _ _ h => DK.toR h) ha hl
theorem lookup_range {f : Nat → Ty} {n p : Nat} (h : p < n) : ((List.range n).map fun q => (q, f q)).lookup p = some (f p) := by
  induction n with
  | zero => omega
  | succ n ih =>
    rw [List.range_succ, List.map_append]
    by_cases e : p < n
    · rw [List.lookup_append, ih e]
      rfl
    · have : p = n := by omega
      subst this
      rw [List.lookup_append]
      have h0 : ((List.range p).map fun q => (q, f q)).lookup p = none := by
        rw [List.lookup_eq_none_iff]
        intro q hq
        obtain ⟨r, hr, rfl⟩ := List.mem_map.mp hq
        have := List.mem_range.mp hr
        simp
        omega
      rw [h0]
      simp [List.lookup]
/-! ### instances -/
def Ins (C : Addr) (Fs : List (Str × Ty)) : Ty := ⟨fun v H => ∃ x dx fs, v = .ref x ∧ H x = some (.ins C dx fs) ∧ fs.map (·.1) = Fs.map (·.1) ∧ AllR (fs.map (·.2)) (Fs.map (·.2)) H, by
  rintro v H H' e ⟨x, dx, fs, h1, h2, h3, h4⟩
  exact ⟨x, dx, fs, h1, e x _ h2, h3, AllR.m e h4⟩⟩
theorem lookup_ins : ∀ {Fs : List (Str × Ty)} {fs : List (Str × V)} {H : Hp} {f : Str} {R : Ty}, fs.map (·.1) = Fs.map (·.1) → AllR (fs.map (·.2)) (Fs.map (·.2)) H → Fs.lookup f = some R → ∃ v, fs.lookup f = some v ∧ R.r v H
  | [], _, _, _, _, _, _, h => by simp at h
  | p :: Fs, [], _, _, _, h, _, _ => by simp at h
  | (g, S) :: Fs, (g', w) :: fs, H, f, R, h, ha, hl => by
    obtain ⟨h1, h2⟩ := List.cons.inj (show g' :: fs.map (·.1) = g :: Fs.map (·.1) from h)
    have ha' : S.r w H ∧ AllR (fs.map (·.2)) (Fs.map (·.2)) H := ha
    subst h1
    rw [List.lookup_cons] at hl
    rw [List.lookup_cons]
    cases e : (f == g') with
    | true =>
      rw [e] at hl
      cases hl
      exact ⟨w, rfl, ha'.1⟩
    | false =>
      rw [e] at hl
      exact lookup_ins h2 ha'.2 hl
theorem lookup_none_of_keys {fs : List (Str × V)} {Fs : List (Str × Ty)} {m : Str} (h : fs.map (·.1) = Fs.map (·.1)) (hn : Fs.lookup m = none) : fs.lookup m = none := by
  rw [List.lookup_eq_none_iff] at hn ⊢
  intro p hp
  have : p.1 ∈ Fs.map (·.1) := h ▸ List.mem_map_of_mem hp
  obtain ⟨q, hq, e⟩ := List.mem_map.mp this
  rw [← e]
  exact hn q hq
theorem y_fld {C : Addr} {Fs : List (Str × Ty)} {f : Str} (ho : Y ta Γ μ (Ins C Fs)) (hc : Cls K C) (hn : NoAttr K C f) (hl : Fs.lookup f = some R) : Y (tFld K ta f) Γ μ R := fun σ H0 H s Q q =>
  ho σ H0 H s _ fun x H1 G1 g1 r1 => by
    obtain ⟨x, dx, fs, rfl, h1, h2, h3⟩ := r1
    obtain ⟨v, k1, k2⟩ := lookup_ins h2 h3 hl
    exact ⟨x, C, dx, fs, v, rfl, g1.p x _ h1, hc, hn, k1, q _ _ _ g1 k2⟩
/-! ### what a def promises, by types -/
def spR (C : List Ty → Ty → Prop) : Sp := fun vs H Q _ => ∃ H0 Rs R, C Rs R ∧ Ex H0 H ∧ AllR vs Rs H0 ∧ ∀ v H0' H', Gr H0 H H0' H' → R.r v H0' → Q v H'
theorem y_call {C : List Ty → Ty → Prop} {E : XK} (hA : YA tr Γ μ Rs) (hC : C Rs R) : Y (tCall (spR C) [] E tr) Γ μ R := fun σ H0 H s Q q =>
  hA σ H0 H s _ fun vs H1 G1 g1 r1 => ⟨H1, Rs, R, hC, g1.p, by rw [List.append_nil]; exact r1, fun v H2 G2 g2 r2 => q _ _ _ (g1.trans g2) r2⟩
theorem y_meth {C : List Ty → Ty → Prop} {E : XK} {D : Addr} {Fs : List (Str × Ty)} {m : Str} (ho : Y ta Γ μ (Ins D Fs)) (hm : Fs.lookup m = none) (hA : YA tr Γ μ Rs) (hC : C (Ins D Fs :: Rs) R) : Y (tMeth D m (spR C) [] E ta tr) Γ μ R := fun σ H0 H s Q q =>
  ho σ H0 H s _ fun x H1 G1 g1 r1 => by
    obtain ⟨x, dx, fs, rfl, h1, h2, h3⟩ := id r1
    refine ⟨x, dx, fs, rfl, g1.p x _ h1, lookup_none_of_keys h2 hm, ?_⟩
    refine hA σ H1 G1 (s.gr g1) _ fun vs H2 G2 g2 r2 => ?_
    refine ⟨H2, Ins D Fs :: Rs, R, hC, g2.p, ⟨(Ins D Fs).m _ _ _ g2.e0 r1, by rw [List.append_nil]; exact r2⟩, fun v H3 G3 g3 r3 => q _ _ _ ((g1.trans g2).trans g3) r3⟩
/-! ### what is walked -/
structure Itx (J : It) (Rs : List Ty) (H0 : Hp) : Prop where
  go : ∀ i H, Ex H0 H → i < Rs.length → J.go i H
  yl : ∀ i H1 H x H', Ex H0 H1 → Ex H1 H → J.yld i H x H' → ∀ R, Rs[i]? = some R → ∃ H1', Gr H1 H H1' H' ∧ R.r x H1'
  st : ∀ i H, Ex H0 H → Rs.length ≤ i → J.stop i H
def YI (wi : TI) (Γ : Ctx) (μ : Mt) (Rs : List Ty) : Prop := ∀ σ H0 H, Sx σ H0 H Γ μ → ∀ P : It → Hp → Prop, (∀ J H0' H', Gr H0 H H0' H' → Itx J Rs H0' → P J H') → wi σ H P
theorem YI.to {wi : TI} (h : YI wi Γ μ Rs) (e : Rs = Ss) : YI wi Γ μ Ss := e ▸ h
theorem sqT_uniq {H : Hp} {a : Addr} {xs ys : List V} (h : H a = some (.tup xs)) (k : SqT K H a ys) (hk : K.lookup a = none) : xs = ys := by
  rcases k with (k | ⟨o, k⟩) | ⟨o, its, n, k, _⟩
  · rw [h] at k; cases k; rfl
  · rw [h] at k; cases k
  · rw [hk] at k; cases k
theorem yi_list (h : Y te Γ μ (Lst Rs)) : YI (iList K te) Γ μ Rs := fun σ H0 H s P p =>
  h σ H0 H s _ fun x H1 G1 g1 r1 => by
    obtain ⟨a, vs, rfl, h1, h2⟩ := r1
    refine ⟨a, rfl, ⟨vs, sq_of (g1.p a _ h1)⟩, p _ _ _ g1 ⟨fun i H e hi => ?_, fun i H2 H x H' e e' hy R hR => ?_, fun i H e hi => ⟨vs, sq_of (e a _ h1), by rw [h2.len]; exact hi⟩⟩⟩
    · have hi' : i < vs.length := by rw [h2.len]; exact hi
      exact ⟨vs, vs[i], sq_of (e a _ h1), List.getElem?_eq_getElem hi'⟩
    · obtain ⟨e1, hy⟩ := hy
      subst e1
      exact ⟨H2, Gr.refl e', h2.m e |>.get' hR (hy vs (sq_of (e' a _ (e a _ h1))))⟩
theorem yi_tup (h : Y te Γ μ (Tup K Rs)) : YI (iTup K te) Γ μ Rs := fun σ H0 H s P p =>
  h σ H0 H s _ fun x H1 G1 g1 r1 => by
    obtain ⟨a, vs, rfl, h1, h2⟩ := r1
    refine ⟨a, rfl, ⟨vs, ex_t g1.p h1⟩, p _ _ _ g1 ⟨fun i H e hi => ?_, fun i H2 H x H' e e' hy R hR => ?_, fun i H e hi => ⟨vs, ex_t e h1, by rw [h2.len]; exact hi⟩⟩⟩
    · have hi' : i < vs.length := by rw [h2.len]; exact hi
      exact ⟨vs, vs[i], ex_t e h1, List.getElem?_eq_getElem hi'⟩
    · obtain ⟨e1, hy⟩ := hy
      subst e1
      exact ⟨H2, Gr.refl e', h2.m e |>.get' hR (hy vs (ex_t (e.trans e') h1))⟩
theorem range_ty {n i : Nat} {R : Ty} (h : ((List.range n).map tN)[i]? = some R) : R = tN i := by
  rw [List.getElem?_map] at h
  by_cases hi : i < n
  · rw [List.getElem?_range hi] at h
    exact (Option.some.inj h).symm
  · rw [List.getElem?_eq_none (by rw [List.length_range]; omega)] at h
    cases h
theorem yi_range1 {n : Nat} (h : YA tr Γ μ [tN n]) (hn : n ≤ 100000) : YI (iRng1 tr) Γ μ ((List.range n).map tN) := fun σ H0 H s P p =>
  h σ H0 H s _ fun vs H1 G1 g1 r1 => by
    have e := AllR.nats (ns := [n]) r1
    refine ⟨(n : Int), e, by omega, by omega, p _ _ _ g1 ⟨fun i H e hi => ?_, fun i H2 H x H' e e' hy R hR => ?_, fun i H e hi => ?_⟩⟩
    · have : i < n := by simpa using hi
      show i < (n : Int).toNat
      omega
    · obtain ⟨e1, hx⟩ := hy
      subst e1
      refine ⟨H2, Gr.refl e', ?_⟩
      rw [range_ty hR, hx]
      show V.int (0 + (i : Int)) = V.int (i : Int)
      rw [Int.zero_add]
    · have : n ≤ i := by simpa using hi
      show (n : Int).toNat ≤ i
      omega
theorem yi_range2 {a n : Nat} (h : YA tr Γ μ [tN a, tN n]) (hn : n ≤ 100000) (ha : a ≤ 100000) : YI (iRng2 tr) Γ μ ((List.range (n - a)).map fun i => tN (a + i)) := fun σ H0 H s P p =>
  h σ H0 H s _ fun vs H1 G1 g1 r1 => by
    have e := AllR.nats (ns := [a, n]) r1
    have e0 : ((n : Int) - (a : Int)).toNat = n - a := by omega
    refine ⟨(a : Int), (n : Int), e, ⟨by omega, by omega, by omega, by omega⟩, ?_⟩
    rw [e0]
    refine p _ _ _ g1 ⟨fun i H e hi => ?_, fun i H2 H x H' e e' hy R hR => ?_, fun i H e hi => ?_⟩
    · have : i < n - a := by simpa using hi
      exact this
    · obtain ⟨e1, hx⟩ := hy
      subst e1
      refine ⟨H2, Gr.refl e', ?_⟩
      have : R = tN (a + i) := by
        rw [List.getElem?_map] at hR
        by_cases hi : i < n - a
        · rw [List.getElem?_range hi] at hR
          exact (Option.some.inj hR).symm
        · rw [List.getElem?_eq_none (by rw [List.length_range]; omega)] at hR
          cases hR
      rw [this, hx]
      show V.int ((a : Int) + (i : Int)) = V.int ((a + i : Nat) : Int)
      rw [Int.natCast_add]
    · have : n - a ≤ i := by simpa using hi
      exact this
/-- enumerate -/
def enum (K : PySem.W.Frag) (Rs : List Ty) : List Ty := Rs.mapIdx fun i R => Tup K [tN i, R]
theorem enum_get {K : PySem.W.Frag} {Rs : List Ty} {i : Nat} {T : Ty} (h : (enum K Rs)[i]? = some T) : ∃ R, Rs[i]? = some R ∧ T = Tup K [tN i, R] := by
  unfold enum at h
  rw [List.getElem?_mapIdx] at h
  cases e : Rs[i]? with
  | none => rw [e] at h; cases h
  | some R => rw [e] at h; exact ⟨R, rfl, (Option.some.inj h).symm⟩
theorem enum_len {K : PySem.W.Frag} {Rs : List Ty} : (enum K Rs).length = Rs.length := by
  unfold enum
  rw [List.length_mapIdx]
theorem yi_enumT (h : YA tr Γ μ [Tup K Rs]) : YI (iEnumT K tr) Γ μ (enum K Rs) := fun σ H0 H s P p =>
  h σ H0 H s _ fun vs H1 G1 g1 r1 => by
    obtain ⟨v, rfl, a, vs, rfl, h1, h2⟩ := r1.one
    have hlen : (enum K Rs).length = vs.length := by rw [enum_len, h2.len]
    refine ⟨a, vs, rfl, ex_t g1.p h1, p _ _ _ g1 ⟨fun i H e hi => ?_, fun i H2 H x H' e e' hy T hT => ?_, fun i H e hi => ⟨vs, ex_t e h1, by rw [← hlen]; exact hi⟩⟩⟩
    · have hi' : i < vs.length := by rw [← hlen]; exact hi
      exact ⟨vs, vs[i], ex_t e h1, List.getElem?_eq_getElem hi'⟩
    · obtain ⟨R, hR, rfl⟩ := enum_get hT
      obtain ⟨t, y, rfl, ht, rfl, hy⟩ := hy
      refine ⟨_, Gr.new e' ht, ⟨t, _, rfl, st_of upd_same, ⟨rfl, ?_, trivial⟩⟩⟩
      exact R.m _ _ _ (Ex.new (fresh_back e' ht)) ((h2.m e).get' hR (hy vs (ex_t (e.trans e') h1)))
theorem yi_enumL (h : YA tr Γ μ [Lst Rs]) : YI (iEnum K tr) Γ μ (enum K Rs) := fun σ H0 H s P p =>
  h σ H0 H s _ fun vs H1 G1 g1 r1 => by
    obtain ⟨v, rfl, a, vs, rfl, h1, h2⟩ := r1.one
    have hlen : (enum K Rs).length = vs.length := by rw [enum_len, h2.len]
    refine ⟨a, vs, rfl, sq_of (g1.p a _ h1), p _ _ _ g1 ⟨fun i H e hi => ?_, fun i H2 H x H' e e' hy T hT => ?_, fun i H e hi => ⟨vs, sq_of (e a _ h1), by rw [← hlen]; exact hi⟩⟩⟩
    · have hi' : i < vs.length := by rw [← hlen]; exact hi
      exact ⟨vs, vs[i], sq_of (e a _ h1), List.getElem?_eq_getElem hi'⟩
    · obtain ⟨R, hR, rfl⟩ := enum_get hT
      obtain ⟨t, y, rfl, ht, rfl, hy⟩ := hy
      refine ⟨_, Gr.new e' ht, ⟨t, _, rfl, st_of upd_same, ⟨rfl, ?_, trivial⟩⟩⟩
      exact R.m _ _ _ (Ex.new (fresh_back e' ht)) ((h2.m e).get' hR (hy vs (sq_of (e' a _ (e a _ h1)))))
/-! ### targets -/
def Df (is : List Nat) (σ σ' : L2.St) : Prop := σ'.length = σ.length ∧ ∀ j, j ∉ is → σ'[j]? = σ[j]?
theorem wipe_get (σ : L2.St) : ∀ (vs : List Nat) (j : Nat), (L2.wipe σ vs)[j]? = if j ∈ vs ∧ j < σ.length then some none else σ[j]?
  | [], j => by simp [L2.wipe]
  | v :: vs, j => by
    show ((L2.wipe σ vs).set v none)[j]? = _
    rw [List.getElem?_set]
    by_cases e : v = j
    · subst e
      rw [if_pos rfl, L2.wipe_length]
      by_cases l : v < σ.length
      · simp [l]
      · simp [l]
    · rw [if_neg e, wipe_get σ vs j]
      simp [show ¬ j = v from fun z => e z.symm]
theorem Df.wipe {is vs : List Nat} {σ σ' : L2.St} (h : Df is σ σ') (hi : ∀ j ∈ is, j ∈ vs) : L2.wipe σ' vs = L2.wipe σ vs := by
  refine List.ext_getElem? fun j => ?_
  rw [wipe_get, wipe_get, h.1]
  by_cases l : j ∈ vs ∧ j < σ.length
  · rw [if_pos l, if_pos l]
  · rw [if_neg l, if_neg l]
    by_cases m : j ∈ is
    · have hj : j ∈ vs := hi j m
      have : ¬ j < σ.length := fun z => l ⟨hj, z⟩
      rw [List.getElem?_eq_none (by rw [h.1]; omega), List.getElem?_eq_none (by omega)]
    · exact h.2 j m
theorem wipe_wipe {σ σ' : L2.St} {is vs : List Nat} (h : Df is (L2.wipe σ vs) σ') (hi : ∀ j ∈ is, j ∈ vs) : L2.wipe σ' vs = L2.wipe σ vs := by
  rw [h.wipe hi]
  refine List.ext_getElem? fun j => ?_
  rw [wipe_get, L2.wipe_length, wipe_get]
  by_cases l : j ∈ vs ∧ j < σ.length
  · rw [if_pos l, if_pos l]
  · rw [if_neg l, if_neg l]
def YG (g : TG) (R : Ty) (Γ Γ' : Ctx) (is : List Nat) : Prop := ∀ v σ H0 H, Sl σ H0 Γ → R.r v H0 → Ex H0 H → ∀ Q : L2.St → Hp → Prop, (∀ σ', Sl σ' H0 Γ' → Df is σ σ' → Q σ' H) → g v σ H Q
theorem yg_name {k : Nat} : YG (gName k) R Γ (Γ.set k (some R)) [k] := fun v σ H0 H s r e Q q =>
  q _ (s.set k r) ⟨List.length_set, fun j hj => List.getElem?_set_ne (fun z => hj (by rw [z]; exact List.mem_singleton.mpr rfl))⟩
theorem Df.trans {is js : List Nat} {σ σ1 σ2 : L2.St} (a : Df is σ σ1) (b : Df js σ1 σ2) : Df (is ++ js) σ σ2 := ⟨b.1.trans a.1, fun j hj => by
  rw [List.mem_append] at hj
  rw [b.2 j fun z => hj (.inr z), a.2 j fun z => hj (.inl z)]⟩
theorem yg_tup2 {g g2 : TG} {Γ1 Γ2 : Ctx} {is js : List Nat} (h : YG g RA Γ Γ1 is) (h2 : YG g2 RB Γ1 Γ2 js) : YG (gTup K 2 (gCons g (gCons g2 gNil))) (Tup K [RA, RB]) Γ Γ2 (is ++ js) := fun v σ H0 H s r e Q q => by
  obtain ⟨a, vs, rfl, h1, k2⟩ := r
  obtain ⟨u, w, rfl, ku, kw⟩ := k2.two
  refine ⟨a, [u, w], rfl, ex_t e h1, rfl, u, [w], rfl, ?_⟩
  refine h u σ H0 H s ku e _ fun σ1 s1 d1 => ?_
  refine ⟨w, [], rfl, ?_⟩
  refine h2 w σ1 H0 H s1 kw e _ fun σ2 s2 d2 => ⟨rfl, q σ2 s2 (d1.trans d2)⟩
theorem yg_tup3 {g g2 g3 : TG} {RC : Ty} {Γ1 Γ2 Γ3 : Ctx} {is js ks : List Nat} (h : YG g RA Γ Γ1 is) (h2 : YG g2 RB Γ1 Γ2 js) (h3 : YG g3 RC Γ2 Γ3 ks) : YG (gTup K 3 (gCons g (gCons g2 (gCons g3 gNil)))) (Tup K [RA, RB, RC]) Γ Γ3 (is ++ js ++ ks) := fun v σ H0 H s r e Q q => by
  obtain ⟨a, vs, rfl, h1, k2⟩ := r
  obtain ⟨u, w, z, rfl, ku, kw, kz⟩ := k2.three
  refine ⟨a, [u, w, z], rfl, ex_t e h1, rfl, u, [w, z], rfl, ?_⟩
  refine h u σ H0 H s ku e _ fun σ1 s1 d1 => ?_
  refine ⟨w, [z], rfl, ?_⟩
  refine h2 w σ1 H0 H s1 kw e _ fun σ2 s2 d2 => ?_
  refine ⟨z, [], rfl, ?_⟩
  refine h3 z σ2 H0 H s2 kz e _ fun σ3 s3 d3 => ⟨rfl, q σ3 s3 ((d1.trans d2).trans d3)⟩
/-! ### comprehensions -/
theorem Gr.put2 {H0 H H0' H' : Hp} {D : Addr} {o : HO} (g : Gr H0 H H0' H') (n0 : H D = none) (n : H0' D = none) : Gr H0 H H0' (upd H' D o) := g.put n0 n
theorem yl_lc {α : Type} {xs : List α} {r : α → Ty} {wi : TI} {g : TG} {vs is : List Nat} {Γg : α → Ctx} {f : α → Bool} {o : α → Ty} (hi : YI wi Γ μ (xs.map r)) (his : ∀ j ∈ is, j ∈ vs) (hl : xs.length ≤ 50000)
    (hg : ∀ x ∈ xs, YG g (r x) (wipeG Γ vs) (Γg x) is) (ht : ∀ x ∈ xs, YT tt (Γg x) μ (f x)) (he : ∀ x ∈ xs, f x = true → Y te (Γg x) μ (o x)) : YL (tLc wi g tt te vs) Γ μ ((xs.filter f).map o) := fun σ H0 H s Q q => by
  refine hi σ H0 H s _ fun J H1 G1 g1 ix => fun D hD => ?_
  have hD0 : H D = none := fresh_back g1.e hD
  -- after i turns
  refine ⟨fun i m G => i ≤ xs.length ∧ m = xs.length - i ∧ ∃ K0 vs', Gr H0 H K0 G ∧ Ex H1 K0 ∧ K0 D = none ∧ G D = some (.lst vs') ∧ AllR vs' (((xs.take i).filter f).map o) K0, ⟨xs.length, Nat.zero_le _, by omega, H1, [], g1.trans (Gr.own g1.p hD), Ex.refl _, fresh_back g1.p hD, upd_same, by simp [AllR]⟩, ?_⟩
  rintro i m G ⟨hle, rfl, K0, vs', gG, eK, nD, dD, aD⟩
  by_cases hlt : i < xs.length
  · have hget : xs[i]? = some xs[i] := List.getElem?_eq_getElem hlt
    have hmem : xs[i] ∈ xs := List.getElem_mem hlt
    have htake : xs.take (i + 1) = xs.take i ++ [xs[i]] := by rw [List.take_succ, hget]; rfl
    have gex : Ex K0 G := gG.p
    refine .inr ⟨ix.go i G (eK.trans gex) (by rw [List.length_map]; exact hlt), fun G' => i + 1 ≤ xs.length ∧ ∃ K0 vs', Gr H0 H K0 G' ∧ Ex H1 K0 ∧ K0 D = none ∧ G' D = some (.lst vs') ∧ AllR vs' (((xs.take (i + 1)).filter f).map o) K0, fun G' h => ⟨xs.length - (i + 1), by omega, h.1, rfl, h.2⟩, fun x G' hy => ?_⟩
    · obtain ⟨K1, gy, rx⟩ := ix.yl i K0 G x G' eK gex hy (r xs[i]) (by rw [List.getElem?_map, hget]; rfl)
      have nD1 : K1 D = none := gy.f D nD (ne_none dD)
      have s1 := (s.gr gG).gr gy
      refine hg _ hmem x (L2.wipe σ vs) K1 G' (s1.sl.wipe vs) rx gy.p _ fun σ2 s2 d2 => ⟨wipe_wipe d2 his, ?_⟩
      have sx2 : Sx σ2 K1 G' (Γg xs[i]) μ := ⟨s2, gy.p, s1.mu⟩
      refine ht _ hmem σ2 K1 G' sx2 _ fun K2 G2 g2 => ?_
      cases hf : f xs[i] with
      | true =>
        show te σ2 G2 _
        refine he _ hmem hf σ2 K2 G2 (sx2.gr g2) _ fun y K3 G3 g3 ry => ?_
        have d1 : G' D = some (.lst vs') := gy.e D _ dD
        have d2 : G2 D = some (.lst vs') := g2.e D _ d1
        have d3 : G3 D = some (.lst vs') := g3.e D _ d2
        have n2 : K2 D = none := g2.f D nD1 (ne_none d1)
        have n3 : K3 D = none := g3.f D n2 (ne_none d2)
        have eK3 : Ex K0 K3 := (gy.e0.trans g2.e0).trans g3.e0
        have len : vs'.length ≤ i := by
          rw [aD.len, List.length_map]
          exact Nat.le_trans (List.length_filter_le _ _) (by rw [List.length_take]; omega)
        refine ⟨vs', d3, sz_lt (by omega), by omega, K3, vs' ++ [y], (((gG.trans gy).trans g2).trans g3).put hD0 n3, eK.trans eK3, n3, upd_same, ?_⟩
        rw [htake, List.filter_append, List.map_append]
        refine (aD.m eK3).app ?_
        rw [List.filter_cons, hf]
        exact ⟨ry, trivial⟩
      | false =>
        show _ ∧ _
        have d1 : G' D = some (.lst vs') := gy.e D _ dD
        have eK2 : Ex K0 K2 := gy.e0.trans g2.e0
        refine ⟨by omega, K2, vs', (gG.trans gy).trans g2, eK.trans eK2, g2.f D nD1 (ne_none d1), g2.e D _ d1, ?_⟩
        rw [htake, List.filter_append, List.map_append, List.filter_cons, hf]
        simpa using aD.m eK2
  · have e : i = xs.length := by omega
    subst e
    refine .inl ⟨ix.st _ _ (eK.trans gG.p) (by rw [List.length_map]; exact Nat.le_refl _), ?_⟩
    rw [List.take_length] at aD
    exact q D vs' K0 G gG hD0 nD dD aD
theorem y_lc {α : Type} {xs : List α} {r : α → Ty} {wi : TI} {g : TG} {vs is : List Nat} {Γg : α → Ctx} {f : α → Bool} {o : α → Ty} (hi : YI wi Γ μ (xs.map r)) (his : ∀ j ∈ is, j ∈ vs) (hl : xs.length ≤ 50000)
    (hg : ∀ x ∈ xs, YG g (r x) (wipeG Γ vs) (Γg x) is) (ht : ∀ x ∈ xs, YT tt (Γg x) μ (f x)) (he : ∀ x ∈ xs, f x = true → Y te (Γg x) μ (o x)) : Y (tLc wi g tt te vs) Γ μ (Lst ((xs.filter f).map o)) := (yl_lc hi his hl hg ht he).yy
/-- without a test -/
theorem yl_lcA {α : Type} {xs : List α} {r : α → Ty} {wi : TI} {g : TG} {vs is : List Nat} {Γg : α → Ctx} {o : α → Ty} (hi : YI wi Γ μ (xs.map r)) (his : ∀ j ∈ is, j ∈ vs) (hl : xs.length ≤ 50000)
    (hg : ∀ x ∈ xs, YG g (r x) (wipeG Γ vs) (Γg x) is) (he : ∀ x ∈ xs, Y te (Γg x) μ (o x)) : YL (tLc wi g tYes te vs) Γ μ (xs.map o) := by
  have h := yl_lc (te := te) (f := fun _ => true) (o := o) hi his hl hg (fun _ _ => yt_yes) (fun x hx _ => he x hx)
  have e : xs.filter (fun _ => true) = xs := List.filter_eq_self.mpr fun _ _ => rfl
  rw [e] at h
  exact h
theorem y_lcA {α : Type} {xs : List α} {r : α → Ty} {wi : TI} {g : TG} {vs is : List Nat} {Γg : α → Ctx} {o : α → Ty} (hi : YI wi Γ μ (xs.map r)) (his : ∀ j ∈ is, j ∈ vs) (hl : xs.length ≤ 50000)
    (hg : ∀ x ∈ xs, YG g (r x) (wipeG Γ vs) (Γg x) is) (he : ∀ x ∈ xs, Y te (Γg x) μ (o x)) : Y (tLc wi g tYes te vs) Γ μ (Lst (xs.map o)) := (yl_lcA hi his hl hg he).yy
end
end HF
set_option maxHeartbeats 200000
namespace HF
open PySem PyProof.Rows L2 Evl
section
variable {Γ Γ' Γ1 : Ctx} {μ μ' : Mt} {R RA RB S : Ty} {Rs Ss : List Ty} {ta tb tc te : TE} {tt tu : TT} {tr : TA} {K : PySem.W.Frag} {i j : Int} {b c : Bool} {x y : V} {t u : TS} {He0 He : Hp} {N N1 : Ctx → Mt → Prop}
/-! ### statements: e: what the def was entered with -/
def Hr (e : Hp × Hp) (ts : TS) (Γ : Ctx) (μ : Mt) (N : Ctx → Mt → Prop) (R : Ty) : Prop := ∀ σ H0 H (D : Ends), Gr e.1 e.2 H0 H → Sx σ H0 H Γ μ →
  (∀ σ' H0' H' Γ' μ', N Γ' μ' → Gr e.1 e.2 H0' H' → Ex H0 H0' → Sx σ' H0' H' Γ' μ' → D.nx σ' H') → (∀ v H0' H', Gr e.1 e.2 H0' H' → R.r v H0' → D.rt v H') → ts D σ H
variable {e : Hp × Hp}
theorem hr_nil (h : N Γ μ) : Hr e tNext Γ μ N R := fun σ H0 H D g s nx rt => nx σ H0 H Γ μ h g (Ex.refl _) s
theorem hr_weak (h : Hr e t Γ' μ N R) (w : Wk Γ Γ') : Hr e t Γ μ N R := fun σ H0 H D g s nx rt => h σ H0 H D g (s.weak w) nx rt
theorem hr_imp (h : Hr e t Γ μ N1 R) (w : ∀ Γ μ, N1 Γ μ → N Γ μ) : Hr e t Γ μ N R := fun σ H0 H D g s nx rt => h σ H0 H D g s (fun σ' H0' H' Γ' μ' n => nx σ' H0' H' Γ' μ' (w _ _ n)) rt
theorem hr_seq (h : Hr e t Γ μ N1 R) (k : ∀ Γ1 μ1, N1 Γ1 μ1 → Hr e u Γ1 μ1 N R) : Hr e (tSeq t u) Γ μ N R := fun σ H0 H D g s nx rt =>
  h σ H0 H { D with nx := u D } g s (fun σ' H0' H' Γ' μ' n g' x' s' => k Γ' μ' n σ' H0' H' D g' s' (fun σ2 K0 K1 Γ2 μ2 n2 g2 x2 => nx σ2 K0 K1 Γ2 μ2 n2 g2 (x'.trans x2)) rt) rt
theorem hr_set1 {k : Nat} (h : Y te Γ μ RA) (n : N (Γ.set k (some RA)) μ) : Hr e (tAsg te (gName k)) Γ μ N R := fun σ H0 H D g s nx rt =>
  h σ H0 H s _ fun v H1 G1 g1 r1 => nx _ H1 G1 _ _ n (g.trans g1) g1.e0 ((s.gr g1).set k r1)
theorem Hr.go (n : Hr e u Γ μ N R) {σ : L2.St} {H0 H H1 : Hp} {D : Ends} (g : Gr e.1 e.2 H1 H) (x : Ex H0 H1) (s : Sx σ H1 H Γ μ) (nx : ∀ σ' H0' H' Γ' μ', N Γ' μ' → Gr e.1 e.2 H0' H' → Ex H0 H0' → Sx σ' H0' H' Γ' μ' → D.nx σ' H') (rt : ∀ v H0' H', Gr e.1 e.2 H0' H' → R.r v H0' → D.rt v H') : u D σ H :=
  n σ H1 H D g s (fun σ2 K0 K1 Γ2 μ2 n2 g2 x2 => nx σ2 K0 K1 Γ2 μ2 n2 g2 (x.trans x2)) rt
theorem hr_set {k : Nat} (h : Y te Γ μ RA) (n : Hr e u (Γ.set k (some RA)) μ N R) : Hr e (tSeq (tAsg te (gName k)) u) Γ μ N R := fun σ H0 H D g s nx rt =>
  h σ H0 H s _ fun v H1 G1 g1 r1 => n.go (g.trans g1) g1.e0 ((s.gr g1).set k r1) nx rt
theorem hr_asg {gg : TG} {is : List Nat} (h : Y te Γ μ RA) (hg : YG gg RA Γ Γ1 is) (n : Hr e u Γ1 μ N R) : Hr e (tSeq (tAsg te gg) u) Γ μ N R := fun σ H0 H D g s nx rt =>
  h σ H0 H s _ fun v H1 G1 g1 r1 => hg v σ H1 G1 (s.gr g1).sl r1 g1.p _ fun σ' s' _ => n.go (g.trans g1) g1.e0 ⟨s', g1.p, (s.gr g1).mu⟩ nx rt
theorem hr_par1 {k l : Nat} (h : YA tr Γ μ [RA, RB]) (n : N ((Γ.set k (some RA)).set l (some RB)) μ) : Hr e (tPar k l tr) Γ μ N R := fun σ H0 H D g s nx rt =>
  h σ H0 H s _ fun vs H1 G1 g1 r1 => by
    obtain ⟨v, w, rfl, rv, rw'⟩ := r1.two
    exact ⟨v, w, rfl, nx _ H1 G1 _ _ n (g.trans g1) g1.e0 (((s.gr g1).set k rv).set l rw')⟩
theorem hr_par {k l : Nat} (h : YA tr Γ μ [RA, RB]) (n : Hr e u ((Γ.set k (some RA)).set l (some RB)) μ N R) : Hr e (tSeq (tPar k l tr) u) Γ μ N R := fun σ H0 H D g s nx rt =>
  h σ H0 H s _ fun vs H1 G1 g1 r1 => by
    obtain ⟨v, w, rfl, rv, rw'⟩ := r1.two
    exact ⟨v, w, rfl, n.go (g.trans g1) g1.e0 (((s.gr g1).set k rv).set l rw') nx rt⟩
theorem hr_ret (h : Y te Γ μ R) : Hr e (tRet te) Γ μ N R := fun σ H0 H D g s nx rt =>
  h σ H0 H s _ fun v H1 G1 g1 r1 => rt v H1 G1 (g.trans g1) r1
theorem hr_drop (h : Y te Γ μ RA) (n : Hr e u Γ μ N R) : Hr e (tSeq (tDrop te) u) Γ μ N R := fun σ H0 H D g s nx rt =>
  h σ H0 H s _ fun v H1 G1 g1 r1 => n.go (g.trans g1) g1.e0 (s.gr g1) nx rt
theorem hr_if (h : YT tt Γ μ b) (h1 : b = true → Hr e t Γ μ N R) (h2 : b = false → Hr e u Γ μ N R) : Hr e (tIfS tt t u) Γ μ N R := fun σ H0 H D g s nx rt =>
  h σ H0 H s _ fun H1 G1 g1 => by
    cases b with
    | true => exact (h1 rfl).go (g.trans g1) g1.e0 (s.gr g1) nx rt
    | false => exact (h2 rfl).go (g.trans g1) g1.e0 (s.gr g1) nx rt
/-- if c: return ..; then the rest -/
theorem hr_ifr (h : YT tt Γ μ b) (h1 : b = true → Hr e t Γ μ (fun _ _ => False) R) (h2 : b = false → Hr e u Γ μ N R) : Hr e (tSeq (tIfS tt t tNext) u) Γ μ N R := fun σ H0 H D g s nx rt =>
  h σ H0 H s _ fun H1 G1 g1 => by
    cases b with
    | true => exact (h1 rfl).go (D := { D with nx := u D }) (g.trans g1) g1.e0 (s.gr g1) (fun _ _ _ _ _ n => n.elim) rt
    | false => exact (h2 rfl).go (g.trans g1) g1.e0 (s.gr g1) nx rt
/-- a loop over what is known; Inv: what holds before a turn -/
theorem hr_for {wi : TI} {gg : TG} (Inv : Nat → Ctx → Mt → Prop) (hi : YI wi Γ μ Rs) (h0 : Inv 0 Γ μ)
    (hs : ∀ i R1 Γi μi, Inv i Γi μi → Rs[i]? = some R1 → ∃ Γg is, YG gg R1 Γi Γg is ∧ Hr e t Γg μi (fun Γ μ => Inv (i + 1) Γ μ) R) (hd : ∀ Γn μn, Inv Rs.length Γn μn → N Γn μn) : Hr e (tFor wi gg t) Γ μ N R := fun σ H0 H D g s nx rt =>
  hi σ H0 H s _ fun J H1 G1 g1 ix => by
    refine ⟨fun i m σ' G => i ≤ Rs.length ∧ m = Rs.length - i ∧ ∃ K0 Γi μi, Inv i Γi μi ∧ Gr e.1 e.2 K0 G ∧ Ex H1 K0 ∧ Sx σ' K0 G Γi μi, ⟨Rs.length, Nat.zero_le _, by omega, H1, Γ, μ, h0, g.trans g1, Ex.refl _, s.gr g1⟩, ?_⟩
    rintro i m σ' G ⟨hle, rfl, K0, Γi, μi, inv, gG, eK, sG⟩
    by_cases hlt : i < Rs.length
    · have hget : Rs[i]? = some Rs[i] := List.getElem?_eq_getElem hlt
      refine .inr ⟨ix.go i G (eK.trans sG.ex) hlt, fun σ2 G2 => i + 1 ≤ Rs.length ∧ ∃ K0 Γi μi, Inv (i + 1) Γi μi ∧ Gr e.1 e.2 K0 G2 ∧ Ex H1 K0 ∧ Sx σ2 K0 G2 Γi μi, fun σ2 G2 h => ⟨Rs.length - (i + 1), by omega, h.1, rfl, h.2⟩, fun x G' hy => ?_⟩
      obtain ⟨K1, gy, rx⟩ := ix.yl i K0 G x G' eK sG.ex hy Rs[i] hget
      obtain ⟨Γg, is, hg, hb⟩ := hs i Rs[i] Γi μi inv hget
      have s1 := sG.gr gy
      refine hg x σ' K1 G' s1.sl rx gy.p _ fun σ2 s2 _ => ?_
      exact hb σ2 K1 G' _ (gG.trans gy) ⟨s2, gy.p, s1.mu⟩ (fun σ3 K3 G3 Γ3 μ3 n3 g3 x3 s3 => ⟨hlt, K3, Γ3, μ3, n3, g3, (eK.trans gy.e0).trans x3, s3⟩) rt
    · have e : i = Rs.length := by omega
      subst e
      exact .inl ⟨ix.st _ G (eK.trans sG.ex) (Nat.le_refl _), nx σ' K0 G Γi μi (hd _ _ inv) gG (g1.e0.trans eK) sG⟩
theorem hr_while (Inv : Nat → Ctx → Mt → Prop) (m0 : Nat) (h0 : Inv m0 Γ μ)
    (hs : ∀ m Γi μi, Inv m Γi μi → ∃ b, YT tt Γi μi b ∧ (b = true → Hr e t Γi μi (fun Γ μ => ∃ m', m' < m ∧ Inv m' Γ μ) R) ∧ (b = false → N Γi μi)) : Hr e (tWhile tt t) Γ μ N R := fun σ H0 H D g s nx rt => by
  refine ⟨fun m σ' G => ∃ K0 Γi μi, Inv m Γi μi ∧ Gr e.1 e.2 K0 G ∧ Ex H0 K0 ∧ Sx σ' K0 G Γi μi, ⟨m0, H0, Γ, μ, h0, g, Ex.refl _, s⟩, ?_⟩
  rintro m σ' G ⟨K0, Γi, μi, inv, gG, eK, sG⟩
  obtain ⟨b, hb, h1, h2⟩ := hs m Γi μi inv
  refine hb σ' K0 G sG _ fun K1 G1 g1 => ?_
  cases b with
  | true =>
    refine ⟨fun σ2 G2 => ∃ m', m' < m ∧ ∃ K0 Γi μi, Inv m' Γi μi ∧ Gr e.1 e.2 K0 G2 ∧ Ex H0 K0 ∧ Sx σ2 K0 G2 Γi μi, fun σ2 G2 h => h, ?_⟩
    exact h1 rfl σ' K1 G1 _ (gG.trans g1) (sG.gr g1) (fun σ3 K3 G3 Γ3 μ3 ⟨m', hm, n3⟩ g3 x3 s3 => ⟨m', hm, K3, Γ3, μ3, n3, g3, (eK.trans g1.e0).trans x3, s3⟩) rt
  | false => exact nx σ' K1 G1 Γi μi (h2 rfl) (gG.trans g1) (eK.trans g1.e0) (sG.gr g1)
end
/-! ### defs -/
section
variable {w : World} {K : PySem.W.Frag} {mg : Str → Option Value} {base : Heap} {x qual : Str} {params : Arguments} {body : List Stmt} {scope : Scope} {dvs : List V} {kws : List (Str × V)} {f : Addr} {fd : FuncData}
def start0 (N : List Str) (Rs : List Ty) : Ctx := Rs.map some ++ List.replicate (N.length - Rs.length) none
theorem start_sl {N : List Str} {Rs : List Ty} {vs : List V} {H : Hp} (h : AllR vs Rs H) : Sl (L2.start N vs) H (start0 N Rs) := by
  unfold L2.start start0
  refine ⟨by simp [h.len], fun i R q => ?_⟩
  rw [List.getElem?_append] at q
  split at q
  · rename_i hi
    rw [List.length_map] at hi
    rw [List.getElem?_map] at q
    cases e : Rs[i]? with
    | none => rw [e] at q; cases q
    | some S =>
      rw [e] at q
      cases q
      obtain ⟨v, h1, h2⟩ := h.get e
      refine ⟨v, ?_, h2⟩
      rw [List.getElem?_append_left (by rw [List.length_map, h.len]; exact hi), List.getElem?_map, h1]
      rfl
  · rw [List.getElem?_replicate] at q
    split at q <;> cases q
/-- THE RULE for a def that only reads what is there and makes new things -/
theorem fn_ok {N ps : List Str} {k : Nat} {C : List Ty → Ty → Prop} (F : FunD K x qual params body scope dvs kws f fd) (S : FnScope N ps scope) (len : ∀ Rs R, C Rs R → Rs.length = ps.length)
    (hb : ∀ Rs R, C Rs R → ∀ (cdv : Value) (A : Around) (outer : List Env) (s : Shared) (H : Hp) (E : XK), Room k (A.deeper (envOfC qual scope s.heap.objs.size f cdv)) →
      ∃ t, PSs (cxOf CX0 PP w K mg base N qual scope f cdv A outer s H E).nox body t ∧ ∀ e, Hr e t (start0 N Rs) M0 (fun _ _ => ∀ H, R.r .non H) R) : FnOk PP w K mg base CX0 (k + 1) f fd ps (spR C) := by
  refine F.ok S (fun vs H Q E ⟨H0, Rs, R, h, _, ha, _⟩ => by rw [ha.len]; exact len Rs R h) fun cdv A outer s H vs Q E hr ⟨H0, Rs, R, hC, he, ha, q⟩ => ?_
  obtain ⟨t, h1, h2⟩ := hb Rs R hC cdv A outer s H E hr
  exact ⟨t, h1.nox, h2 (H0, H) _ H0 H _ (Gr.refl he) ⟨start_sl ha, he, trivial⟩ (fun σ' H0' H' _ _ n g _ _ => q _ _ _ g (n _)) fun v H0' H' g r => q v _ _ g r⟩
end
end HF
set_option maxHeartbeats 200000
namespace HF
open PySem PyProof.Rows L2 Evl
section
variable {Γ Γ' : Ctx} {μ : Mt} {R RA RB S : Ty} {Rs Ss : List Ty} {ta tb tc te : TE} {tt tu : TT} {tr : TA} {K : PySem.W.Frag} {n m : Nat}
theorem y_eqN (ha : Y ta Γ μ (tN n)) (hb : Y tb Γ μ (tN m)) : Y (tOp rEq ta tb) Γ μ (tBo (decide (n = m))) := (y_eqI ha hb).to (by
  rw [decide_eq_decide.mpr (show ((n : Int) = (m : Int)) ↔ n = m by omega)])
theorem y_neN (ha : Y ta Γ μ (tN n)) (hb : Y tb Γ μ (tN m)) : Y (tOp rNe ta tb) Γ μ (tBo (!decide (n = m))) := (y_neI ha hb).to (by
  rw [decide_eq_decide.mpr (show ((n : Int) = (m : Int)) ↔ n = m by omega)])
theorem y_ltN (ha : Y ta Γ μ (tN n)) (hb : Y tb Γ μ (tN m)) : Y (tOp (rI0 fun i j => V.bl (decide (i < j))) ta tb) Γ μ (tBo (decide (n < m))) := (y_lt ha hb).to (by
  rw [decide_eq_decide.mpr (show ((n : Int) < (m : Int)) ↔ n < m by omega)])
theorem y_addN (ha : Y ta Γ μ (tN n)) (hb : Y tb Γ μ (tN m)) : Y (tOp (rI0 fun i j => V.int (i + j)) ta tb) Γ μ (tN (n + m)) := (y_add ha hb).to (by
  show Is (.int ((n : Int) + (m : Int))) = Is (.int ((n + m : Nat) : Int))
  rw [Int.natCast_add])
def ixs {α : Type} (xs : List α) : List (Nat × α) := xs.mapIdx Prod.mk
theorem enum_map {α : Type} {xs : List α} {r : α → Ty} : enum K (xs.map r) = (ixs xs).map fun p => Tup K [tN p.1, r p.2] := by
  unfold enum ixs
  refine List.ext_getElem? fun i => ?_
  rw [List.getElem?_mapIdx, List.getElem?_map, List.getElem?_map, List.getElem?_mapIdx]
  cases xs[i]? <;> rfl
theorem ixs_len {α : Type} {xs : List α} : (ixs xs).length = xs.length := List.length_mapIdx
theorem yi_enumTM {α : Type} {xs : List α} {r : α → Ty} (h : YA tr Γ μ [Tup K (xs.map r)]) : YI (iEnumT K tr) Γ μ ((ixs xs).map fun p => Tup K [tN p.1, r p.2]) := (yi_enumT h).to enum_map
theorem yi_enumLM {α : Type} {xs : List α} {r : α → Ty} (h : YA tr Γ μ [Lst (xs.map r)]) : YI (iEnum K tr) Γ μ ((ixs xs).map fun p => Tup K [tN p.1, r p.2]) := (yi_enumL h).to enum_map
end
/-! ### the data -/
/-- what happens: a look; a meeting; a telling -/
inductive Evt where
  | look (p : Nat) | meet (p q : Nat) | tell (p q : Nat)
def Evt.word : Evt → Str
  | .look _ => "look" | .meet _ _ => "meet" | .tell _ _ => "tell"
def Evt.who : Evt → Nat
  | .look p => p | .meet p _ => p | .tell p _ => p
def Evt.isL : Evt → Bool
  | .look _ => true | _ => false
/-- the rest of its row -/
def Evt.ns : Evt → List Nat
  | .look p => [p] | .meet p q => [p, q] | .tell p q => [p, q]
abbrev tEv (K : PySem.W.Frag) (e : Evt) : Ty := Tup K (tSt e.word :: e.ns.map tN)
abbrev tEvs (K : PySem.W.Frag) (es : List Evt) : Ty := Tup K (es.map (tEv K))
abbrev tTab (K : PySem.W.Frag) (n : Nat) (es : List Evt) : Ty := Tup K [tN n, tEvs K es]
abbrev tPr (K : PySem.W.Frag) (p : Nat × Nat) : Ty := Tup K [tN p.1, tN p.2]
theorem word_look (e : Evt) : decide (e.word = ("look" : Str)) = e.isL := by
  cases e with
  | look p => exact (by decide +kernel : decide (("look" : Str) = ("look" : Str)) = true)
  | meet p q => exact (by decide +kernel : decide (("meet" : Str) = ("look" : Str)) = false)
  | tell p q => exact (by decide +kernel : decide (("tell" : Str) = ("look" : Str)) = false)
theorem word_add (e : Evt) : decide (e.word = ("add" : Str)) = false := by
  cases e with
  | look p => exact (by decide +kernel : decide (("look" : Str) = ("add" : Str)) = false)
  | meet p q => exact (by decide +kernel : decide (("meet" : Str) = ("add" : Str)) = false)
  | tell p q => exact (by decide +kernel : decide (("tell" : Str) = ("add" : Str)) = false)
theorem who_at (e : Evt) : (tSt e.word :: e.ns.map tN)[1]? = some (tN e.who) := by cases e <;> rfl
def looksL (es : List Evt) : List (Nat × Nat) := ((ixs es).filter fun p => p.2.isL).map fun p => (p.1, p.2.who)
abbrev tNs (ns : List Nat) : Ty := Lst (ns.map tN)
structure Bst where
  n : Nat
  es : List Evt
  kd : Str
  A : List (Nat × Nat)
  B : List (Nat × Nat)
  hs : Nat → List Nat
def AnyL : Ty := ⟨fun v H => ∃ a vs, v = .ref a ∧ H a = some (.lst vs), fun v H H' e ⟨a, vs, h1, h2⟩ => ⟨a, vs, h1, e a _ h2⟩⟩
abbrev bFs (K : PySem.W.Frag) (s : Bst) : List (Str × Ty) := [("own_people", tN s.n), ("own_events", tEvs K s.es), ("own_kind", tSt s.kd), ("own_gone", Lst []), ("own_looks", Lst ((looksL s.es).map (tPr K))), ("own_adds", Lst []),
  ("own_alike", DT s.A), ("own_below", DT s.B), ("own_has", DK ((List.range s.n).map fun p => (p, tNs (s.hs p)))), ("own_facts", AnyL)]
abbrev Bnd (K : PySem.W.Frag) (s : Bst) : Ty := Ins (He.ga K "Bonds") (bFs K s)
def Bst.L (s : Bst) : Nat := (looksL s.es).length
theorem looks_le (es : List Evt) : (looksL es).length ≤ es.length := by
  unfold looksL
  rw [List.length_map]
  exact Nat.le_trans (List.length_filter_le _ _) (Nat.le_of_eq ixs_len)
/-! ### the small defs -/
def C_events_of (K : PySem.W.Frag) : List Ty → Ty → Prop := fun Rs R => ∃ n es, es.length ≤ 1000 ∧ ((Rs = [tTab K n es, tSt "look"] ∧ R = Lst ((looksL es).map (tPr K))) ∨ (Rs = [tTab K n es, tSt "add"] ∧ R = Lst []))
def C_looks (K : PySem.W.Frag) : List Ty → Ty → Prop := fun Rs R => ∃ n es, es.length ≤ 1000 ∧ Rs = [tTab K n es] ∧ R = Lst ((looksL es).map (tPr K))
def C_adds (K : PySem.W.Frag) : List Ty → Ty → Prop := fun Rs R => ∃ n es, es.length ≤ 1000 ∧ Rs = [tTab K n es] ∧ R = Lst []
def C_B_many (K : PySem.W.Frag) : List Ty → Ty → Prop := fun Rs R => ∃ s, Rs = [Bnd K s] ∧ R = tN s.L
def C_B_is_alike (K : PySem.W.Frag) : List Ty → Ty → Prop := fun Rs R => ∃ s i j, Rs = [Bnd K s, tN i, tN j] ∧ R = tBo (decide (i = j) || decide ((i, j) ∈ s.A))
def C_B_is_below (K : PySem.W.Frag) : List Ty → Ty → Prop := fun Rs R => ∃ s i j, Rs = [Bnd K s, tN i, tN j] ∧ R = tBo (decide ((i, j) ∈ s.B))
def C_B_has (K : PySem.W.Frag) : List Ty → Ty → Prop := fun Rs R => ∃ s p, p < s.n ∧ Rs = [Bnd K s, tN p] ∧ R = tNs (s.hs p)
def C_check_look (K : PySem.W.Frag) : List Ty → Ty → Prop := fun Rs R => ∃ n es i, es.length ≤ 1000 ∧ i < (looksL es).length ∧ Rs = [tTab K n es, tN i] ∧ R = Is .non
def C_check_people (K : PySem.W.Frag) : List Ty → Ty → Prop := fun Rs R => ∃ n es ps, (∀ p ∈ ps, p < n) ∧ Rs = [tTab K n es, tNs ps] ∧ R = Is .non
end HF
set_option maxHeartbeats 200000
namespace HF
open PySem PyProof.Rows L2 Evl
section
variable {X : Cx} {e a b l tg : Expr} {es elts : List Expr} {f x name : Str} {p pos tpos apos cpos : Pos} {ta tl to : TE} {t : TA} {n k kk : Nat} {T id : String} {r : V → List V → Hp → VK → Prop} {o : Expr} {tgs : TGs}
theorem pe_fldK (K : PySem.W.Frag) (he : PE X e ta) (h : attributeBase e f X.env (eval e X.env) = eval e X.env) (hK : X.K = K := by rfl) : PE X (.Attribute e f pos) (tFld K ta f) := hK ▸ pe_fld he h
theorem pi_listK (K : PySem.W.Frag) (h : PE X l tl) (hK : X.K = K := by rfl) : PI X tg l (iList K tl) := hK ▸ pi_list h
theorem pi_tupK (K : PySem.W.Frag) (h : PE X l tl) (hK : X.K = K := by rfl) : PI X tg l (iTup K tl) := hK ▸ pi_tup h
theorem pi_enumK (K : PySem.W.Frag) (hg : Gl X "enumerate") (hm : X.mg "enumerate" = none) (ha : PA X [e] t) (hs : starEach [e] X.env = [(false, eval e X.env)] := by rfl) (hK : X.K = K := by rfl) :
    PI X (.Tuple elts kk tpos) (.Call (.Name "enumerate" p) [e] [] pos) (iEnum K t) := hK ▸ pi_enum hg hm ha hs
theorem pi_enumTK (K : PySem.W.Frag) (hg : Gl X "enumerate") (hm : X.mg "enumerate" = none) (ha : PA X [e] t) (hs : starEach [e] X.env = [(false, eval e X.env)] := by rfl) (hK : X.K = K := by rfl) :
    PI X (.Tuple elts kk tpos) (.Call (.Name "enumerate" p) [e] [] pos) (iEnumT K t) := hK ▸ pi_enumT hg hm ha hs
theorem pg_tupK (K : PySem.W.Frag) (n : Nat) (hc : X.calm = true) (h : PGs X es tgs) (hn : (assignEach es X.env).length = n := by rfl) (hf : (assignEach es X.env).findIdx? (fun x => x.1) = none := by rfl) (hK : X.K = K := by rfl) :
    PG X (.Tuple es k pos) (gTup K n tgs) := hK ▸ pg_tup hc h hn hf
abbrev rLenA (K : PySem.W.Frag) : List V → Hp → VK → Prop := fun xs H Q => ∃ p ys, xs = [V.ref p] ∧ (SqL K H p ys ∨ SqT K H p ys) ∧ Q (V.int ↑(List.length ys)) H
abbrev rListA (K : PySem.W.Frag) : List V → Hp → VK → Prop := fun xs H Q => ∃ p ys, xs = [V.ref p] ∧ (SqL K H p ys ∨ SqT K H p ys) ∧ ∀ (l : Addr), H l = none → Q (V.ref l) (upd H l (HO.lst ys))
abbrev rTupA (K : PySem.W.Frag) : List V → Hp → VK → Prop := fun xs H Q => ∃ p ys, xs = [V.ref p] ∧ ((SqL K H p ys ∧ ∀ (l : Addr), H l = none → Q (V.ref l) (upd H l (HO.tup ys))) ∨ SqT K H p ys ∧ Q (V.ref p) H)
theorem pe_bmK (K : PySem.W.Frag) (h1 : PlainAttrs T) (h2 : Slot T name id) (h3 : typeOf (.builtin id) = pure (.type "method_descriptor")) (h4 : MtR X id r) (ho : PE X o to) (ha : PA X (e :: es) t)
    (h5 : attributeBase o name X.env (eval o X.env) = eval o X.env := by rfl)
    (h6 : (((backTo cpos (starEach (e :: es) X.env)).all fun x => !x.1) && ((backToKw cpos (keywordEach [] X.env)).all fun x => x.1.isSome) && decide (((e :: es).length + ([] : List Keyword).length + if ([] : List Keyword).isEmpty = true then 0 else 1) < 30)) = true := by rfl)
    (h7 : (apos.endLine == cpos.line) = true := by rfl) (h8 : starEach (e :: es) X.env = (false, eval e X.env) :: starEach es X.env := by rfl) (h9 : (backTo cpos (starEach es X.env)).any (fun x => x.1) = false := by rfl) (hK : X.K = K := by rfl) :
    PE X (.Call (.Attribute o name apos) (e :: es) [] cpos) (tBM K T r to t) := hK ▸ pe_bm h1 h2 h3 h4 ho ha h5 h6 h7 h8 h9
end
end HF
set_option maxHeartbeats 200000
namespace HF
open PySem PyProof.Rows L2 Evl
section
variable {Γ Γ' Γ1 : Ctx} {μ μ' : Mt} {R RA RB S : Ty} {Rs Ss : List Ty} {ta tb tc te : TE} {tt tu : TT} {tr : TA} {K : PySem.W.Frag} {i j : Int} {b c : Bool} {x y : V} {t u : TS} {N N1 : Ctx → Mt → Prop} {e : Hp × Hp} {k : Nat} {a : Addr}
theorem YG.weak {g : TG} {Γg : Ctx} {is : List Nat} (w : Wk Γ Γ') (h : YG g R Γ' Γg is) : YG g R Γ Γg is := fun v σ H0 H s r x Q q => h v σ H0 H (s.weak w) r x Q q
theorem hr_forG {wi : TI} {gg : TG} (G : Nat → Ctx) (hi : YI wi Γ μ Rs) (h0 : Wk Γ (G 0))
    (hs : ∀ i R1, Rs[i]? = some R1 → ∃ Γg is, YG gg R1 (G i) Γg is ∧ Hr e t Γg μ (fun Γ' μ' => Wk Γ' (G (i + 1)) ∧ μ' = μ) R) (hd : ∀ Γn, Wk Γn (G Rs.length) → N Γn μ) : Hr e (tFor wi gg t) Γ μ N R :=
  hr_for (fun i Γ' μ' => Wk Γ' (G i) ∧ μ' = μ) hi ⟨h0, rfl⟩ (fun i R1 Γi μi ⟨w, q⟩ hR => by
    subst q
    obtain ⟨Γg, is, h1, h2⟩ := hs i R1 hR
    exact ⟨Γg, is, h1.weak w, h2⟩) fun Γn μn ⟨w, q⟩ => by subst q; exact hd Γn w
theorem hr_forS {wi : TI} {gg : TG} (G : Nat → Ctx) (hi : YI wi Γ μ Rs) (h0 : Wk Γ (G 0))
    (hs : ∀ i R1, Rs[i]? = some R1 → ∃ Γg is, YG gg R1 (G i) Γg is ∧ Hr e t Γg μ (fun Γ' μ' => Wk Γ' (G (i + 1)) ∧ μ' = μ) R) (hd : Hr e u (G Rs.length) μ N R) : Hr e (tSeq (tFor wi gg t) u) Γ μ N R :=
  hr_seq (hr_forG (N := fun Γ' μ' => Wk Γ' (G Rs.length) ∧ μ' = μ) G hi h0 hs fun Γn w => ⟨w, rfl⟩) fun Γ1 μ1 ⟨w, q⟩ => by subst q; exact hr_weak hd w
theorem Sl.reset {σ : L2.St} {H : Hp} (h : Sl σ H Γ) {v : V} (hv : σ[k]? = some (some v)) (r : R.r v H) : Sl σ H (Γ.set k (some R)) := by
  refine ⟨by rw [List.length_set, h.1], fun j S q => ?_⟩
  by_cases q' : k = j
  · subst q'
    rw [List.getElem?_set, if_pos rfl] at q
    split at q
    · cases q
      exact ⟨v, hv, r⟩
    · cases q
  · rw [List.getElem?_set_ne q'] at q
    exact h.2 j S q
/-- a list of the def's own, at a -/
def Cl (e : Hp × Hp) (a : Addr) (Rs : List Ty) : Mt := ⟨fun H0 H => e.2 a = none ∧ H0 a = none ∧ ∃ vs, H a = some (.lst vs) ∧ AllR vs Rs H0, fun H0 H H0' H' g ⟨h1, h2, vs, h3, h4⟩ => ⟨h1, g.f a h2 (ne_none h3), vs, g.e a _ h3, h4.m g.e0⟩⟩
def Mt.Off (μ : Mt) (a : Addr) : Prop := ∀ H0 H o, μ.p H0 H → μ.p H0 (upd H a o)
theorem M0.off : M0.Off a := fun _ _ _ _ => trivial
theorem hr_newL (h : YL te Γ μ Rs) (n : ∀ a, Hr e u (Γ.set k (some (Is (.ref a)))) (μ.and (Cl e a Rs)) N R) : Hr e (tSeq (tAsg te (gName k)) u) Γ μ N R := fun σ H0 H D g s nx rt =>
  h σ H0 H s _ fun p vs H1 G1 g1 n1 n2 hp hA => (n p).go (g.trans g1) g1.e0 (by
    have s1 := (s.gr g1).set k (R := Is (.ref p)) (v := .ref p) rfl
    exact ⟨s1.sl, s1.ex, s1.mu, fresh_back g.e n1, n2, vs, hp, hA⟩) nx rt
/-- found.append(e) -/
theorem hr_app {T : Ty} (hk : Γ[k]? = some (some (Is (.ref a)))) (ho : μ.Off a) (h : Y te Γ (μ.and (Cl e a Rs)) T) (hl : Rs.length < 100000) (n : Hr e u Γ (μ.and (Cl e a (Rs ++ [T]))) N R) :
    Hr e (tSeq (tDrop (tBM K "list" rAppend (tVar k) (tCons te tNil))) u) Γ (μ.and (Cl e a Rs)) N R := fun σ H0 H D g s nx rt => by
  obtain ⟨v, hv, rv⟩ := s.sl.2 k _ hk
  obtain rfl : v = V.ref a := rv
  obtain ⟨c1, c2, vs, c3, c4⟩ := s.mu.2
  refine ⟨_, hv, .inl ⟨rfl, vs, sq_of c3⟩, ?_⟩
  refine h σ H0 H s _ fun y H1 G1 g1 r1 => ?_
  have c3' := g1.e a _ c3
  have n1 := g1.f a c2 (ne_none c3)
  refine ⟨a, vs, y, rfl, rfl, c3', sz_lt (by rw [c4.len]; exact hl), ?_⟩
  refine n.go ((g.trans g1).put c1 n1) g1.e0 ?_ nx rt
  have s1 := s.gr g1
  refine ⟨s1.sl, fun b o q => ?_, ho _ _ _ s1.mu.1, c1, n1, vs ++ [y], upd_same, (c4.m g1.e0).app ⟨r1, trivial⟩⟩
  rw [upd_ne (ne_of_none q n1)]
  exact g1.p b o q
/-- the same as the last statement -/
theorem hr_app1 {T : Ty} (hk : Γ[k]? = some (some (Is (.ref a)))) (ho : μ.Off a) (h : Y te Γ (μ.and (Cl e a Rs)) T) (hl : Rs.length < 100000) (n : N Γ (μ.and (Cl e a (Rs ++ [T])))) :
    Hr e (tDrop (tBM K "list" rAppend (tVar k) (tCons te tNil))) Γ (μ.and (Cl e a Rs)) N R := fun σ H0 H D g s nx rt =>
  hr_app (u := tNext) hk ho h hl (hr_nil n) σ H0 H D g s nx rt
theorem hr_ext1 (hk : Γ[k]? = some (some (Is (.ref a)))) (ho : μ.Off a) (h : Y te Γ (μ.and (Cl e a Rs)) (Lst Ss)) (hl : Rs.length + Ss.length ≤ 100000) (n : N Γ (μ.and (Cl e a (Rs ++ Ss)))) :
    Hr e (tDrop (tBM K "list" rExtend (tVar k) (tCons te tNil))) Γ (μ.and (Cl e a Rs)) N R := fun σ H0 H D g s nx rt => by
  obtain ⟨v, hv, rv⟩ := s.sl.2 k _ hk
  obtain rfl : v = V.ref a := rv
  obtain ⟨c1, c2, vs, c3, c4⟩ := s.mu.2
  refine ⟨_, hv, .inl ⟨rfl, vs, sq_of c3⟩, ?_⟩
  refine h σ H0 H s _ fun y H1 G1 g1 r1 => ?_
  obtain ⟨p, ws, rfl, k1, k2⟩ := r1
  have c3' := g1.e a _ c3
  have n1 := g1.f a c2 (ne_none c3)
  refine ⟨a, p, vs, ws, rfl, rfl, c3', g1.p p _ k1, sz_of (by rw [c4.len, k2.len]; exact hl), ?_⟩
  have s1 := s.gr g1
  refine nx σ H1 _ Γ _ n ((g.trans g1).put c1 n1) g1.e0 ⟨s1.sl, fun b o q => ?_, ho _ _ _ s1.mu.1, c1, n1, vs ++ ws, upd_same, (c4.m g1.e0).app k2⟩
  rw [upd_ne (ne_of_none q n1)]
  exact g1.p b o q
/-- reading what is not kept -/
theorem y_loc {u : V} (h : ∀ σ H0 H, Sx σ H0 H Γ μ → Sx σ H H Γ' M0) (hy : Y te Γ' M0 (Is u)) : Y te Γ μ (Is u) := fun σ H0 H s Q q =>
  hy σ H H (h σ H0 H s) Q fun v H1 G1 g1 r1 => q v H0 G1 (Gr.on s.ex g1.e) r1
theorem yt_loc (h : ∀ σ H0 H, Sx σ H0 H Γ μ → Sx σ H H Γ' M0) (hy : YT tt Γ' M0 b) : YT tt Γ μ b := fun σ H0 H s Q q =>
  hy σ H H (h σ H0 H s) Q fun H1 G1 g1 => q H0 G1 (Gr.on s.ex g1.e)
theorem cell_up (hk : Γ[k]? = some (some (Is (.ref a)))) : ∀ σ H0 H, Sx σ H0 H Γ (μ.and (Cl e a Rs)) → Sx σ H H (Γ.set k (some (Lst Rs))) M0 := fun σ H0 H s => by
  obtain ⟨v, hv, rv⟩ := s.sl.2 k _ hk
  obtain rfl : v = V.ref a := rv
  obtain ⟨c1, c2, vs, c3, c4⟩ := s.mu.2
  exact ⟨(s.sl.mono s.ex).reset hv ⟨a, vs, rfl, c3, c4.m s.ex⟩, Ex.refl _, trivial⟩
/-- the def's own list goes out -/
theorem hr_retC (hk : Γ[k]? = some (some (Is (.ref a)))) (hR : R = Lst Rs) : Hr e (tRet (tVar k)) Γ (μ.and (Cl e a Rs)) N R := fun σ H0 H D g s nx rt => by
  subst hR
  obtain ⟨v, hv, rv⟩ := s.sl.2 k _ hk
  obtain rfl : v = V.ref a := rv
  obtain ⟨c1, c2, vs, c3, c4⟩ := s.mu.2
  refine ⟨_, hv, rt _ (upd H0 a (.lst vs)) H ⟨g.e0.trans (Ex.new c2), g.e, fun b o q => ?_, fun b q q' => ?_⟩ ⟨a, vs, rfl, upd_same, c4.m (Ex.new c2)⟩⟩
  · by_cases z : b = a
    · subst z; rw [upd_same] at q; cases q; exact c3
    · rw [upd_ne z] at q; exact s.ex b o q
  · rw [upd_ne (fun z => q' (by rw [z]; exact c1))]
    exact g.f b q q'
/-- it becomes a kept one -/
theorem hr_keepC (hk : Γ[k]? = some (some (Is (.ref a)))) (n : Hr e u (Γ.set k (some (Lst Rs))) M0 N R) : Hr e u Γ (M0.and (Cl e a Rs)) N R := fun σ H0 H D g s nx rt => by
  obtain ⟨v, hv, rv⟩ := s.sl.2 k _ hk
  obtain rfl : v = V.ref a := rv
  obtain ⟨c1, c2, vs, c3, c4⟩ := s.mu.2
  have x : Ex H0 (upd H0 a (.lst vs)) := Ex.new c2
  have x2 : Ex (upd H0 a (.lst vs)) H := fun b o q => by
    by_cases z : b = a
    · subst z; rw [upd_same] at q; cases q; exact c3
    · rw [upd_ne z] at q; exact s.ex b o q
  refine n.go ⟨g.e0.trans x, g.e, x2, fun b q q' => ?_⟩ x ⟨(s.sl.mono x).reset hv ⟨a, vs, rfl, upd_same, c4.m x⟩, x2, trivial⟩ nx rt
  rw [upd_ne (fun z => q' (by rw [z]; exact c1))]
  exact g.f b q q'
end
end HF
set_option maxHeartbeats 400000
namespace HF
open PySem PyProof.Rows L2 Evl
section
variable {w : World} {K : PySem.W.Frag} {mg : Str → Option Value} {base : Heap}
theorem sc_events_of : FnScope ["timetable", "word", "place", "event"] ["timetable", "word"] (defScope s_events_of) := ⟨rfl, rfl, rfl, by decide +kernel, rfl, by decide +kernel, by decide +kernel⟩
theorem ok_events_of (T : Tx K mg) : FnOk PP w K mg base CX0 1 (He.fAd K d_events_of.at_) (fdOf K d_events_of.at_) ["timetable", "word"] (spR (C_events_of K)) := by
  refine fn_ok T.F_events_of sc_events_of (by rintro _ _ ⟨n, es, hle, ⟨rfl, rfl⟩ | ⟨rfl, rfl⟩⟩ <;> rfl) fun Rs R hC cdv A outer s H E hr => ?_
  obtain ⟨n, es, hle, h⟩ := hC
  refine ⟨_, (pss_one (ps_ret (pe_lc (own := [("place", 2), ("event", 3)]) rfl sc_events_of.nd (pi_enumTK K (by rfl) T.f_enumerate (pa_cons (pe_ix (r := rIxT K) ix_tup (pv 0) pe_int (fun _ _ => rfl)) pa_nil)) (blkOk_by (N := ["timetable", "word", "place", "event"]) (sc := _) (by kernel_rfl)) (fun _ _ _ _ _ => (pg_tupK K 2 rfl (pgs_cons (pg_name (i := 2) sc_events_of.nd rfl (Or.inl rfl)) (pgs_cons (pg_name (i := 3) sc_events_of.nd rfl (Or.inl rfl)) pgs_nil)))) (fun _ _ _ _ _ => pts_one (pt_cmpR op_eq (pe_ix (r := rIxT K) ix_tup (pv 3) pe_int (fun _ _ => rfl)) (pv 1) (nomark _))) (fun _ _ _ _ _ => (pe_tup (pa_cons (pv 2) (pa_cons (pe_ix (r := rIxT K) ix_tup (pv 3) pe_int (fun _ _ => rfl)) pa_nil))))))), fun e => ?_⟩
  exact by
    have hl : (ixs es).length ≤ 50000 := by rw [ixs_len]; omega
    rcases h with ⟨rfl, rfl⟩ | ⟨rfl, rfl⟩
    · refine hr_ret ((y_lc (o := fun p => Tup K [tN p.1, tN p.2.who]) (yi_enumTM (ya_cons (y_ixT (n := 1) (y_var rfl) y_c rfl rfl) ya_nil)) (by decide) hl (fun x hx => (yg_tup2 yg_name yg_name)) (fun x hx => (yt_t (y_eqS (y_ixT (n := 0) (y_var rfl) y_c rfl rfl) (y_var rfl)))) (fun x hx hf => (y_tup (ya_cons (y_var rfl) (ya_cons (y_ixT (n := 1) (y_var rfl) y_c rfl (who_at _)) ya_nil)) (by show 2 ≤ 100000; decide)))).to ?_)
      unfold looksL
      rw [List.map_map]
      simp only [word_look]
      rfl
    · refine hr_ret ((y_lc (o := fun p => Tup K [tN p.1, tN p.2.who]) (yi_enumTM (ya_cons (y_ixT (n := 1) (y_var rfl) y_c rfl rfl) ya_nil)) (by decide) hl (fun x hx => (yg_tup2 yg_name yg_name)) (fun x hx => (yt_t (y_eqS (y_ixT (n := 0) (y_var rfl) y_c rfl rfl) (y_var rfl)))) (fun x hx hf => (y_tup (ya_cons (y_var rfl) (ya_cons (y_ixT (n := 1) (y_var rfl) y_c rfl (who_at _)) ya_nil)) (by show 2 ≤ 100000; decide)))).to ?_)
      simp only [word_add]
      rw [List.filter_eq_nil_iff.mpr (fun _ _ => by simp)]
      rfl

theorem sc_looks : FnScope ["timetable"] ["timetable"] (defScope s_looks) := ⟨rfl, rfl, rfl, by decide +kernel, rfl, by decide +kernel, by decide +kernel⟩
theorem ok_looks (T : Tx K mg) : FnOk PP w K mg base CX0 2 (He.fAd K d_looks.at_) (fdOf K d_looks.at_) ["timetable"] (spR (C_looks K)) := by
  have G_events_of := ok_events_of T (w := w) (base := base)
  refine fn_ok T.F_looks sc_looks (by rintro _ _ ⟨n, es, hle, rfl, rfl⟩; rfl) fun Rs R hC cdv A outer s H E hr => ?_
  obtain ⟨n, es, hle, rfl, rfl⟩ := hC
  refine ⟨_, (pss_one (ps_ret (pe_call G_events_of (hr.mono (by decide)) rfl T.g_events_of T.F_events_of.kp T.b_events_of .nil pass0 (pa_cons (pv 0) (pa_cons (pe_S rfl T.s_LOOK) pa_nil))))), fun e => ?_⟩
  exact (hr_ret (y_call (ya_cons (y_var rfl) (ya_cons y_c ya_nil)) ⟨n, es, hle, .inl ⟨rfl, rfl⟩⟩))

theorem sc_adds : FnScope ["timetable"] ["timetable"] (defScope s_adds) := ⟨rfl, rfl, rfl, by decide +kernel, rfl, by decide +kernel, by decide +kernel⟩
theorem ok_adds (T : Tx K mg) : FnOk PP w K mg base CX0 2 (He.fAd K d_adds.at_) (fdOf K d_adds.at_) ["timetable"] (spR (C_adds K)) := by
  have G_events_of := ok_events_of T (w := w) (base := base)
  refine fn_ok T.F_adds sc_adds (by rintro _ _ ⟨n, es, hle, rfl, rfl⟩; rfl) fun Rs R hC cdv A outer s H E hr => ?_
  obtain ⟨n, es, hle, rfl, rfl⟩ := hC
  refine ⟨_, (pss_one (ps_ret (pe_call G_events_of (hr.mono (by decide)) rfl T.g_events_of T.F_events_of.kp T.b_events_of .nil pass0 (pa_cons (pv 0) (pa_cons (pe_S rfl T.s_ADD) pa_nil))))), fun e => ?_⟩
  exact (hr_ret (y_call (ya_cons (y_var rfl) (ya_cons y_c ya_nil)) ⟨n, es, hle, .inr ⟨rfl, rfl⟩⟩))

theorem sc_B_many : FnScope ["self"] ["self"] (defScope s_B_many) := ⟨rfl, rfl, rfl, by decide +kernel, rfl, by decide +kernel, by decide +kernel⟩
theorem ok_B_many (T : Tx K mg) : FnOk PP w K mg base CX0 1 (He.fAd K d_B_many.at_) (fdOf K d_B_many.at_) ["self"] (spR (C_B_many K)) := by
  refine fn_ok T.F_B_many sc_B_many (by rintro _ _ ⟨s0, rfl, rfl⟩; rfl) fun Rs R hC cdv A outer s H E hr => ?_
  obtain ⟨s0, rfl, rfl⟩ := hC
  refine ⟨_, (pss_one (ps_ret (pe_callB (r := rLenA K) call_len_seq (by rfl) T.f_len (by decide +kernel) (pa_cons (pe_fldK K (pv 0) rfl) pa_nil)))), fun e => ?_⟩
  exact hr_ret ((y_lenL (y_fld (y_var rfl) T.c_Bonds T.n_B_own_looks rfl)).to (by rw [List.length_map]; rfl))

theorem sc_B_is_alike : FnScope ["self", "one", "other"] ["self", "one", "other"] (defScope s_B_is_alike) := ⟨rfl, rfl, rfl, by decide +kernel, rfl, by decide +kernel, by decide +kernel⟩
theorem ok_B_is_alike (T : Tx K mg) : FnOk PP w K mg base CX0 1 (He.fAd K d_B_is_alike.at_) (fdOf K d_B_is_alike.at_) ["self", "one", "other"] (spR (C_B_is_alike K)) := by
  refine fn_ok T.F_B_is_alike sc_B_is_alike (by rintro _ _ ⟨s0, i, j, rfl, rfl⟩; rfl) fun Rs R hC cdv A outer s H E hr => ?_
  obtain ⟨s0, i, j, rfl, rfl⟩ := hC
  refine ⟨_, (pss_one (ps_ret (pe_or (pe_cmpR op_eq (pv 1) (pv 2) (nomark _)) (pe_one (pe_cmp (pc_din (hu_of hr) (pe_tup (pa_cons (pv 1) (pa_cons (pv 2) pa_nil))) (pe_fldK K (pv 0) rfl))))))), fun e => ?_⟩
  exact (hr_ret (y_or (y_eqN (y_var rfl) (y_var rfl)) fun h => (y_dinT (ya_cons (y_var rfl) (ya_cons (y_var rfl) ya_nil)) (y_fld (y_var rfl) T.c_Bonds T.n_B_own_alike rfl))))

theorem sc_B_is_below : FnScope ["self", "one", "other"] ["self", "one", "other"] (defScope s_B_is_below) := ⟨rfl, rfl, rfl, by decide +kernel, rfl, by decide +kernel, by decide +kernel⟩
theorem ok_B_is_below (T : Tx K mg) : FnOk PP w K mg base CX0 1 (He.fAd K d_B_is_below.at_) (fdOf K d_B_is_below.at_) ["self", "one", "other"] (spR (C_B_is_below K)) := by
  refine fn_ok T.F_B_is_below sc_B_is_below (by rintro _ _ ⟨s0, i, j, rfl, rfl⟩; rfl) fun Rs R hC cdv A outer s H E hr => ?_
  obtain ⟨s0, i, j, rfl, rfl⟩ := hC
  refine ⟨_, (pss_one (ps_ret (pe_cmp (pc_din (hu_of hr) (pe_tup (pa_cons (pv 1) (pa_cons (pv 2) pa_nil))) (pe_fldK K (pv 0) rfl))))), fun e => ?_⟩
  exact (hr_ret (y_dinT (ya_cons (y_var rfl) (ya_cons (y_var rfl) ya_nil)) (y_fld (y_var rfl) T.c_Bonds T.n_B_own_below rfl)))

theorem sc_B_has : FnScope ["self", "person"] ["self", "person"] (defScope s_B_has) := ⟨rfl, rfl, rfl, by decide +kernel, rfl, by decide +kernel, by decide +kernel⟩
theorem ok_B_has (T : Tx K mg) : FnOk PP w K mg base CX0 1 (He.fAd K d_B_has.at_) (fdOf K d_B_has.at_) ["self", "person"] (spR (C_B_has K)) := by
  refine fn_ok T.F_B_has sc_B_has (by rintro _ _ ⟨s0, p, hp, rfl, rfl⟩; rfl) fun Rs R hC cdv A outer s H E hr => ?_
  obtain ⟨s0, p, hp, rfl, rfl⟩ := hC
  refine ⟨_, (pss_one (ps_ret (pe_callTy (r := rListA K) call_list_of (by rfl) T.f_list (by decide +kernel) (pa_cons (pe_dget (hu_of hr) (pe_fldK K (pv 0) rfl) (pv 1) (fun _ _ => rfl)) pa_nil)))), fun e => ?_⟩
  exact (hr_ret (y_listL (y_dget (y_fld (y_var rfl) T.c_Bonds T.n_B_own_has rfl) (y_var rfl) (lookup_range hp))))
end
end HF
set_option maxHeartbeats 200000
namespace HF
open PySem PyProof.Rows L2 Evl
section
variable {Γ Γ' Γ1 : Ctx} {μ μ' : Mt} {R RA RB S : Ty} {Rs Ss : List Ty} {ta tb tc te : TE} {tt tu : TT} {tr : TA} {K : PySem.W.Frag} {i j : Int} {b c : Bool} {x y : V} {t u : TS} {N N1 : Ctx → Mt → Prop} {e : Hp × Hp} {k l : Nat} {a : Addr}
/-- what is known by a word alone -/
def ExT {α : Type} (P : α → Prop) (r : α → Ty) : Ty := ⟨fun v H => ∃ a, P a ∧ (r a).r v H, fun v H H' e ⟨a, p, h⟩ => ⟨a, p, (r a).m _ _ _ e h⟩⟩
theorem hr_exi {α : Type} {P : α → Prop} {r : α → Ty} (hk : Γ[k]? = some (some (ExT P r))) (n : ∀ a, P a → Hr e u (Γ.set k (some (r a))) μ N R) : Hr e u Γ μ N R := fun σ H0 H D g s nx rt => by
  obtain ⟨v, hv, a, p, rv⟩ := s.sl.2 k _ hk
  exact n a p σ H0 H D g ⟨s.sl.reset hv rv, s.ex, s.mu⟩ nx rt
theorem y_exi {α : Type} {P : α → Prop} {r : α → Ty} (hk : Γ[k]? = some (some (ExT P r))) (n : ∀ a, P a → Y te (Γ.set k (some (r a))) μ R) : Y te Γ μ R := fun σ H0 H s Q q => by
  obtain ⟨v, hv, a, p, rv⟩ := s.sl.2 k _ hk
  exact n a p σ H0 H ⟨s.sl.reset hv rv, s.ex, s.mu⟩ Q q
theorem y_exiV {α : Type} {P : α → Prop} {r : α → Ty} {f : Ty → TE} (h : Y te Γ μ (ExT P r)) : Y te Γ μ (ExT P r) := h
/-- two kinds -/
def OrT (A B : Ty) : Ty := ⟨fun v H => A.r v H ∨ B.r v H, fun v H H' e h => h.imp (A.m _ _ _ e) (B.m _ _ _ e)⟩
theorem hr_orT {A B : Ty} (hk : Γ[k]? = some (some (OrT A B))) (n1 : Hr e u (Γ.set k (some A)) μ N R) (n2 : Hr e u (Γ.set k (some B)) μ N R) : Hr e u Γ μ N R := fun σ H0 H D g s nx rt => by
  obtain ⟨v, hv, rv⟩ := s.sl.2 k _ hk
  rcases rv with rv | rv
  · exact n1 σ H0 H D g ⟨s.sl.reset hv rv, s.ex, s.mu⟩ nx rt
  · exact n2 σ H0 H D g ⟨s.sl.reset hv rv, s.ex, s.mu⟩ nx rt
/-- anything but None -/
def tNN : Ty := ⟨fun v _ => v ≠ .non, fun _ _ _ _ h => h⟩
theorem hr_parL (h1 : Y ta Γ μ RA) (h2 : YL tb Γ μ Rs) (n : ∀ a, Hr e u ((Γ.set k (some RA)).set l (some (Is (.ref a)))) (μ.and (Cl e a Rs)) N R) : Hr e (tSeq (tPar k l (tCons ta (tCons tb tNil))) u) Γ μ N R := fun σ H0 H D g s nx rt =>
  h1 σ H0 H s _ fun v H1 G1 g1 r1 => h2 σ H1 G1 (s.gr g1) _ fun p vs H2 G2 g2 n1 n2 hp hA => ⟨v, .ref p, rfl, (n p).go (g.trans (g1.trans g2)) (g1.trans g2).e0 (by
    have s1 := (((s.gr g1).gr g2).set k (RA.m _ _ _ g2.e0 r1)).set l (R := Is (.ref p)) (v := .ref p) rfl
    exact ⟨s1.sl, s1.ex, s1.mu, fresh_back (g.trans g1).e n1, n2, vs, hp, hA⟩) nx rt⟩
theorem hr_parL0 (h1 : YL ta Γ μ Rs) (h2 : Y tb Γ μ (Is y)) (n : ∀ a, Hr e u ((Γ.set k (some (Is (.ref a)))).set l (some (Is y))) (μ.and (Cl e a Rs)) N R) : Hr e (tSeq (tPar k l (tCons ta (tCons tb tNil))) u) Γ μ N R := fun σ H0 H D g s nx rt =>
  h1 σ H0 H s _ fun p vs H1 G1 g1 n1 n2 hp hA => h2 σ H1 G1 (s.gr g1) _ fun v H2 G2 g2 r2 => ⟨.ref p, v, rfl, (n p).go (g.trans (g1.trans g2)) (g1.trans g2).e0 (by
    obtain rfl : v = y := r2
    have s1 := (((s.gr g1).gr g2).set k (R := Is (.ref p)) (v := .ref p) rfl).set l (R := Is v) (v := v) rfl
    exact ⟨s1.sl, s1.ex, s1.mu, fresh_back g.e n1, g2.f p n2 (ne_none hp), vs, g2.e p _ hp, hA.m g2.e0⟩) nx rt⟩
end
section
variable {Γ : Ctx} {μ : Mt} {te : TE} {tt : TT} {tr : TA} {K : PySem.W.Frag} {wi : TI} {g : TG} {vs : List Nat} {R : Ty} {Rs : List Ty}
theorem y_lc0 (hi : YI wi Γ μ []) : Y (tLc wi g tt te vs) Γ μ (Lst []) :=
  y_lc (xs := ([] : List Nat)) (r := fun _ => tN 0) (f := fun _ => true) (o := fun _ => tN 0) (Γg := fun _ => Γ) (is := []) hi (fun _ h => nomatch h) (by show 0 ≤ 50000; decide) (fun _ h => nomatch h) (fun _ h => nomatch h) (fun _ h => nomatch h)
theorem yi_enumL0 (h : YA tr Γ μ [Lst []]) : YI (iEnum K tr) Γ μ [] := yi_enumL h
theorem getElem?_map_some {α : Type} {xs : List α} {r : α → Ty} {i : Nat} {x : α} (h : xs[i]? = some x) : (xs.map r)[i]? = some (r x) := by rw [List.getElem?_map, h]; rfl
theorem get_lt {α : Type} {xs : List α} {i : Nat} (h : i < xs.length) : ∃ x, xs[i]? = some x := ⟨xs[i], List.getElem?_eq_getElem h⟩
theorem map_get {α : Type} {xs : List α} {r : α → Ty} {i : Nat} {T : Ty} (h : (xs.map r)[i]? = some T) : ∃ x, xs[i]? = some x ∧ T = r x := by
  rw [List.getElem?_map] at h
  cases e : xs[i]? with
  | none => rw [e] at h; cases h
  | some x => rw [e] at h; exact ⟨x, rfl, (Option.some.inj h).symm⟩
end
/-! ### the two other classes -/
structure Kst where
  s : Bst
  bar : List (Nat × List Nat)
abbrev kFs (K : PySem.W.Frag) (k : Kst) : List (Str × Ty) := [("own_looks", Lst ((looksL k.s.es).map (tPr K))), ("own_adds", Lst []), ("own_bonds", Bnd K k.s), ("own_unlike", DT []), ("own_barred", DK (k.bar.map fun p => (p.1, tNs p.2)))]
abbrev Kee (K : PySem.W.Frag) (k : Kst) : Ty := Ins (He.ga K "Keeping") (kFs K k)
structure Ast where
  s : Bst
  mark : Nat
abbrev aFs (K : PySem.W.Frag) (a : Ast) : List (Str × Ty) := [("own_bonds", Bnd K a.s), ("own_people", tN a.s.n), ("own_mark", tN a.mark), ("own_newest", Lst ((List.range a.s.L).map fun _ => tI (-1))), ("own_before", Lst ((List.range a.s.L).map fun _ => tN 0))]
abbrev Aud (K : PySem.W.Frag) (a : Ast) : Ty := Ins (He.ga K "Audience") (aFs K a)
/-! ### promises -/
def brn (s : Bst) (i : Nat) : List Nat := (List.range s.L).filter fun l => decide (l = i) || decide ((i, l) ∈ s.B)
def C_B_newest (K : PySem.W.Frag) : List Ty → Ty → Prop := fun Rs R => ∃ s i, s.es.length ≤ 1000 ∧ Rs = [Bnd K s, tN i] ∧ R = tI (-1)
def C_B_before (K : PySem.W.Frag) : List Ty → Ty → Prop := fun Rs R => ∃ s i, Rs = [Bnd K s, tN i] ∧ R = tN 0
def C_branch (K : PySem.W.Frag) : List Ty → Ty → Prop := fun Rs R => ∃ s i, s.es.length ≤ 1000 ∧ Rs = [Bnd K s, tN i] ∧ R = tNs (brn s i)
def C_P_everything (K : PySem.W.Frag) : List Ty → Ty → Prop := fun Rs R => ∃ k, k.s.es.length ≤ 1000 ∧ Rs = [Kee K k] ∧ R = tNs (List.range k.s.L)
def C_P_last_add (K : PySem.W.Frag) : List Ty → Ty → Prop := fun Rs R => ∃ k i, i < k.s.L ∧ Rs = [Kee K k, tN i] ∧ R = tI (-1)
def C_P_stops (K : PySem.W.Frag) : List Ty → Ty → Prop := fun Rs R => ∃ k i j, i < k.s.L ∧ j < k.s.L ∧ Rs = [Kee K k, tN i, tN j] ∧ R = tBo (decide ((j, i) ∈ k.s.B))
def Kst.bars (k : Kst) (i j : Nat) : Bool := match k.bar.lookup i with
  | some l => decide (j ∈ l)
  | none => false
def Kst.stops (k : Kst) (i j : Nat) : Bool := k.bars i j || decide ((j, i) ∈ k.s.B)
def C_K_stops (K : PySem.W.Frag) : List Ty → Ty → Prop := fun Rs R => ∃ k i j, i < k.s.L ∧ j < k.s.L ∧ Rs = [Kee K k, tN i, tN j] ∧ R = tBo (k.stops i j)
def Kst.first (k : Kst) (part : List Nat) (i : Nat) : Bool := !(part.filter fun o => !decide (o = i)).any fun o => k.stops i o
def C_P_is_first (K : PySem.W.Frag) : List Ty → Ty → Prop := fun Rs R => ∃ k i part, i < k.s.L ∧ (∀ o ∈ part, o < k.s.L) ∧ part.length ≤ 1000 ∧ Rs = [Kee K k, tN i, tNs part] ∧ R = tBo (k.first part i)
def C_P_firsts (K : PySem.W.Frag) : List Ty → Ty → Prop := fun Rs R => ∃ k part, (∀ o ∈ part, o < k.s.L) ∧ part.length ≤ 1000 ∧ Rs = [Kee K k, tNs part] ∧ R = tNs (part.filter (k.first part))
end HF
set_option maxHeartbeats 400000
namespace HF
open PySem PyProof.Rows L2 Evl
section
variable {w : World} {K : PySem.W.Frag} {mg : Str → Option Value} {base : Heap}
theorem sc_check_look : FnScope ["timetable", "number"] ["timetable", "number"] (defScope s_check_look) := ⟨rfl, rfl, rfl, by decide +kernel, rfl, by decide +kernel, by decide +kernel⟩
theorem ok_check_look (T : Tx K mg) : FnOk PP w K mg base CX0 3 (He.fAd K d_check_look.at_) (fdOf K d_check_look.at_) ["timetable", "number"] (spR (C_check_look K)) := by
  have G_looks := ok_looks T (w := w) (base := base)
  refine fn_ok T.F_check_look sc_check_look (by rintro _ _ ⟨n, es, i, hle, hi, rfl, rfl⟩; rfl) fun Rs R hC cdv A outer s H E hr => ?_
  obtain ⟨n, es, i, hle, hi, rfl, rfl⟩ := hC
  refine ⟨_, (pss_one (ps_if (pt_not (pt_chain op_le op_lt pe_int (pv 1) (pe_callB (r := rLenA K) call_len_seq (by rfl) T.f_len (by decide +kernel) (pa_cons (pe_call G_looks (hr.mono (by decide)) rfl T.g_looks T.F_looks.kp T.b_looks .nil pass0 (pa_cons (pv 0) pa_nil)) pa_nil)))) (pss_one ps_never) pss_nil)), fun e => ?_⟩
  exact (hr_if (yt_not (yt_t (y_chain y_c (y_var rfl) (y_lenL (y_call (ya_cons (y_var rfl) ya_nil) ⟨n, es, hle, rfl, rfl⟩)) (ch_le _ _) (ch_lt _ _)))) (fun h => absurd h (by simp; omega)) (fun h => (hr_nil (fun _ => rfl))))

theorem sc_check_people : FnScope ["timetable", "people", "person"] ["timetable", "people"] (defScope s_check_people) := ⟨rfl, rfl, rfl, by decide +kernel, rfl, by decide +kernel, by decide +kernel⟩
theorem ok_check_people (T : Tx K mg) : FnOk PP w K mg base CX0 1 (He.fAd K d_check_people.at_) (fdOf K d_check_people.at_) ["timetable", "people"] (spR (C_check_people K)) := by
  refine fn_ok T.F_check_people sc_check_people (by rintro _ _ ⟨n, es, ps, hps, rfl, rfl⟩; rfl) fun Rs R hC cdv A outer s H E hr => ?_
  obtain ⟨n, es, ps, hps, rfl, rfl⟩ := hC
  refine ⟨_, (pss_one (ps_for PassesOwn.never rfl (pi_listK K (pv 1)) (pg_name (i := 2) sc_check_people.nd rfl (Or.inl rfl)) (pss_one (ps_if (pt_not (pt_chain op_le op_lt pe_int (pv 2) (pe_ix (r := rIxT K) ix_tup (pv 0) pe_int (fun _ _ => rfl)))) (pss_one ps_never) pss_nil)))), fun e => ?_⟩
  exact hr_forG (fun _ => [some (tTab K n es), some (tNs ps), none]) (yi_list (y_var rfl)) (.keep (.keep (.skip .nil))) (fun i R1 hR => by
    obtain ⟨p, hp, rfl⟩ := map_get hR
    have hlt := hps p (List.mem_of_getElem? hp)
    exact ⟨_, _, yg_name, (hr_if (yt_not (yt_t (y_chain y_c (y_var rfl) (y_ixT (n := 0) (y_var rfl) y_c rfl rfl) (ch_le _ _) (ch_lt _ _)))) (fun h => absurd h (by simp; omega)) (fun h => (hr_nil ⟨.keep (.keep (.skip .nil)), rfl⟩)))⟩) (fun _ _ _ => rfl)

theorem sc_B_newest : FnScope ["self", "number", "found", "other", "end", "person", "own", "entry", "place", "adder"] ["self", "number"] (defScope s_B_newest) := ⟨rfl, rfl, rfl, by decide +kernel, rfl, by decide +kernel, by decide +kernel⟩
theorem ok_B_newest (T : Tx K mg) : FnOk PP w K mg base CX0 2 (He.fAd K d_B_newest.at_) (fdOf K d_B_newest.at_) ["self", "number"] (spR (C_B_newest K)) := by
  have G_B_is_below := ok_B_is_below T (w := w) (base := base)
  refine fn_ok T.F_B_newest sc_B_newest (by rintro _ _ ⟨s0, i, hle, rfl, rfl⟩; rfl) fun Rs R hC cdv A outer s H E hr => ?_
  obtain ⟨s0, i, hle, rfl, rfl⟩ := hC
  refine ⟨_, (pss_cons (ps_set (i := 2) sc_B_newest.nd rfl (Or.inl rfl) (pe_lst (pa_cons (pe_un un_neg pe_int) pa_nil)))
      (pss_cons (ps_for PassesOwn.never rfl (pi_enumK K (by rfl) T.f_enumerate (pa_cons (pe_fldK K (pv 0) rfl) pa_nil)) (pg_tupK K 2 rfl (pgs_cons (pg_name (i := 3) sc_B_newest.nd rfl (Or.inl rfl)) (pgs_cons (pg_tupK K 2 rfl (pgs_cons (pg_name (i := 4) sc_B_newest.nd rfl (Or.inr rfl)) (pgs_cons (pg_name (i := 5) sc_B_newest.nd rfl (Or.inr rfl)) pgs_nil))) pgs_nil))) (pss_one (ps_if (PW.pt (pw_or (pt_cmpR op_eq (pv 3) (pv 1) (nomark _)) (pw_or1 (pt_val (pe_meth (pv 0) T.c_Bonds T.m_B_is_below G_B_is_below (hr.mono (by decide)) T.b_B_is_below .nil pass0 (pa_cons (pv 3) (pa_cons (pv 1) pa_nil))))))) (pss_cons (ps_setLc (i := 6) (own := [("entry", 7), ("place", 8), ("adder", 9)]) rfl sc_B_newest.nd rfl rfl (sw_true rfl rfl rfl (by decide +kernel)) (pi_enumK K (by rfl) T.f_enumerate (pa_cons (pe_fldK K (pv 0) rfl) pa_nil)) (blkOk_by (N := ["self", "number", "found", "other", "end", "person", "own", "entry", "place", "adder"]) (sc := _) (by kernel_rfl)) (fun _ _ _ _ _ => (pg_tupK K 2 rfl (pgs_cons (pg_name (i := 7) sc_B_newest.nd rfl (Or.inl rfl)) (pgs_cons (pg_tupK K 2 rfl (pgs_cons (pg_name (i := 8) sc_B_newest.nd rfl (Or.inl rfl)) (pgs_cons (pg_name (i := 9) sc_B_newest.nd rfl (Or.inl rfl)) pgs_nil))) pgs_nil)))) (fun _ _ _ _ _ => pts_one (PW.pt (pw_and (pt_cmpR op_lt (pv 8) (pv 4) (nomark _)) (pw_and1 (pt_cmpR op_eq (pv 9) (pv 5) (nomark _)))))) (fun _ _ _ _ _ => (pv 7)))
      (pss_one (ps_expr (pe_bmK K PySem.F.plainAttrs_list PySem.F.slot_list_extend PySem.F.type_list_extend mt_extend (pv 2) (pa_cons (pv 6) pa_nil))))) pss_nil)))
      (pss_one (ps_ret (pe_callB (r := rMax K) (cr_max rfl) (by rfl) T.f_max (by decide +kernel) (pa_cons (pv 2) pa_nil)))))), fun e => ?_⟩
  exact (hr_newL (Rs := [tI (-1)]) (yl_lst (ya_cons (y_neg y_c) ya_nil) (by show 1 ≤ 100000; decide)) fun a =>
      (hr_forS (fun _ => [some (Bnd K s0), some (tN i), some (Is (.ref a)), none, none, none, none, none, none, none]) (yi_enumLM (ya_cons (y_fld (y_var rfl) T.c_Bonds T.n_B_own_looks rfl) ya_nil)) (.keep (.keep (.keep (.keep (.keep (.keep (.keep (.keep (.keep (.keep .nil)))))))))) (fun j R1 hR => by
          obtain ⟨p, hp, rfl⟩ := map_get hR
          exact ⟨_, _, (yg_tup2 yg_name (yg_tup2 yg_name yg_name)), (hr_if (yt_or (yt_t (y_eqN (y_var rfl) (y_var rfl))) fun h => (yt_B (y_meth (y_var rfl) rfl (ya_cons (y_var rfl) (ya_cons (y_var rfl) ya_nil)) ⟨s0, _, _, rfl, rfl⟩))) (fun h => (hr_set (y_lc0 (yi_enumL0 (ya_cons (y_fld (y_var rfl) T.c_Bonds T.n_B_own_adds rfl) ya_nil)))
      (hr_ext1 (k := 2) rfl M0.off (y_var rfl) (by show 1 ≤ 100000; decide) ⟨.keep (.keep (.keep (.skip (.skip (.skip (.skip (.keep (.keep (.keep .nil))))))))), rfl⟩))) (fun h => (hr_nil ⟨.keep (.keep (.keep (.skip (.skip (.skip (.keep (.keep (.keep (.keep .nil))))))))), rfl⟩)))⟩)
      (hr_keepC (k := 2) rfl (hr_ret (y_max (ns := [-1]) (y_var rfl) (by simp) (by simp))))))

theorem sc_B_before : FnScope ["self", "number", "place", "adder"] ["self", "number"] (defScope s_B_before) := ⟨rfl, rfl, rfl, by decide +kernel, rfl, by decide +kernel, by decide +kernel⟩
theorem ok_B_before (T : Tx K mg) : FnOk PP w K mg base CX0 1 (He.fAd K d_B_before.at_) (fdOf K d_B_before.at_) ["self", "number"] (spR (C_B_before K)) := by
  refine fn_ok T.F_B_before sc_B_before (by rintro _ _ ⟨s0, i, rfl, rfl⟩; rfl) fun Rs R hC cdv A outer s H E hr => ?_
  obtain ⟨s0, i, rfl, rfl⟩ := hC
  refine ⟨_, (pss_one (ps_ret (pe_callB (r := rLenA K) call_len_seq (by rfl) T.f_len (by decide +kernel) (pa_cons (pe_lc (own := [("place", 2), ("adder", 3)]) rfl sc_B_before.nd (pi_listK K (pe_fldK K (pv 0) rfl)) (blkOk_by (N := ["self", "number", "place", "adder"]) (sc := _) (by kernel_rfl)) (fun _ _ _ _ _ => (pg_tupK K 2 rfl (pgs_cons (pg_name (i := 2) sc_B_before.nd rfl (Or.inl rfl)) (pgs_cons (pg_name (i := 3) sc_B_before.nd rfl (Or.inl rfl)) pgs_nil)))) (fun _ _ _ _ _ => pts_one (pt_cmpR op_lt (pv 2) (pe_ix (r := rIxT K) ix_tup (pe_ix (r := rIxL K) ix_list (pe_fldK K (pv 0) rfl) (pv 1) (fun _ _ => rfl)) pe_int (fun _ _ => rfl)) (nomark _))) (fun _ _ _ _ _ => (pv 2))) pa_nil)))), fun e => ?_⟩
  exact hr_ret (y_lenL (y_lc0 (yi_list (y_fld (y_var rfl) T.c_Bonds T.n_B_own_adds rfl))))

theorem sc_branch : FnScope ["bonds", "number", "look"] ["bonds", "number"] (defScope s_branch) := ⟨rfl, rfl, rfl, by decide +kernel, rfl, by decide +kernel, by decide +kernel⟩
theorem ok_branch (T : Tx K mg) : FnOk PP w K mg base CX0 2 (He.fAd K d_branch.at_) (fdOf K d_branch.at_) ["bonds", "number"] (spR (C_branch K)) := by
  have G_B_many := ok_B_many T (w := w) (base := base)
  have G_B_is_below := ok_B_is_below T (w := w) (base := base)
  refine fn_ok T.F_branch sc_branch (by rintro _ _ ⟨s0, i, hle, rfl, rfl⟩; rfl) fun Rs R hC cdv A outer s H E hr => ?_
  obtain ⟨s0, i, hle, rfl, rfl⟩ := hC
  refine ⟨_, (pss_one (ps_ret (pe_lc (own := [("look", 2)]) rfl sc_branch.nd (pi_range1 rfl T.f_range (pa_cons (pe_meth0 (pv 0) T.c_Bonds T.m_B_many G_B_many (hr.mono (by decide)) T.b_B_many .nil pass0) pa_nil)) (blkOk_by (N := ["bonds", "number", "look"]) (sc := _) (by kernel_rfl)) (fun _ _ _ _ _ => (pg_name (i := 2) sc_branch.nd rfl (Or.inl rfl))) (fun _ _ _ _ _ => pts_one (PW.pt (pw_or (pt_cmpR op_eq (pv 2) (pv 1) (nomark _)) (pw_or1 (pt_val (pe_meth (pv 0) T.c_Bonds T.m_B_is_below G_B_is_below (hr.mono (by decide)) T.b_B_is_below .nil pass0 (pa_cons (pv 1) (pa_cons (pv 2) pa_nil)))))))) (fun _ _ _ _ _ => (pv 2))))), fun e => ?_⟩
  exact by
    have hL : s0.L ≤ 1000 := Nat.le_trans (looks_le _) hle
    exact hr_ret (y_lc (yi_range1 (ya_cons (y_meth (y_var rfl) rfl ya_nil ⟨s0, rfl, rfl⟩) ya_nil) (by omega)) (by decide) (by rw [List.length_range]; omega) (fun x hx => yg_name) (fun x hx => (yt_or (yt_t (y_eqN (y_var rfl) (y_var rfl))) fun h => (yt_B (y_meth (y_var rfl) rfl (ya_cons (y_var rfl) (ya_cons (y_var rfl) ya_nil)) ⟨s0, _, _, rfl, rfl⟩)))) (fun x hx hf => (y_var rfl)))

theorem sc_P_everything : FnScope ["self"] ["self"] (defScope s_P_everything) := ⟨rfl, rfl, rfl, by decide +kernel, rfl, by decide +kernel, by decide +kernel⟩
theorem ok_P_everything (T : Tx K mg) : FnOk PP w K mg base CX0 1 (He.fAd K d_P_everything.at_) (fdOf K d_P_everything.at_) ["self"] (spR (C_P_everything K)) := by
  refine fn_ok T.F_P_everything sc_P_everything (by rintro _ _ ⟨k, hle, rfl, rfl⟩; rfl) fun Rs R hC cdv A outer s H E hr => ?_
  obtain ⟨k, hle, rfl, rfl⟩ := hC
  refine ⟨_, (pss_one (ps_ret (pe_listRg rfl (by rfl) T.f_list (prg_1 (by rfl) T.f_range (pe_callB (r := rLenA K) call_len_seq (by rfl) T.f_len (by decide +kernel) (pa_cons (pe_fldK K (pv 0) rfl) pa_nil)))))), fun e => ?_⟩
  exact by
    have hL : k.s.L ≤ 1000 := Nat.le_trans (looks_le _) hle
    exact hr_ret (y_listRg ((y_lenL (y_fld (y_var rfl) T.c_Keeping T.n_K_own_looks rfl)).to (by rw [List.length_map]; rfl)) (by omega))

theorem sc_P_last_add : FnScope ["self", "look", "end", "person", "place", "adder"] ["self", "look"] (defScope s_P_last_add) := ⟨rfl, rfl, rfl, by decide +kernel, rfl, by decide +kernel, by decide +kernel⟩
theorem ok_P_last_add (T : Tx K mg) : FnOk PP w K mg base CX0 1 (He.fAd K d_P_last_add.at_) (fdOf K d_P_last_add.at_) ["self", "look"] (spR (C_P_last_add K)) := by
  refine fn_ok T.F_P_last_add sc_P_last_add (by rintro _ _ ⟨k, i, hi, rfl, rfl⟩; rfl) fun Rs R hC cdv A outer s H E hr => ?_
  obtain ⟨k, i, hi, rfl, rfl⟩ := hC
  refine ⟨_, (pss_cons (ps_asg (pe_ix (r := rIxL K) ix_list (pe_fldK K (pv 0) rfl) (pv 1) (fun _ _ => rfl)) (pg_tupK K 2 rfl (pgs_cons (pg_name (i := 2) sc_P_last_add.nd rfl (Or.inr rfl)) (pgs_cons (pg_name (i := 3) sc_P_last_add.nd rfl (Or.inr rfl)) pgs_nil))))
      (pss_one (ps_ret (pe_callB (r := rMax K) (cr_max rfl) (by rfl) T.f_max (by decide +kernel) (pa_cons (pe_op op_cat (pe_lst (pa_cons (pe_un un_neg pe_int) pa_nil)) (pe_lc (own := [("place", 4), ("adder", 5)]) rfl sc_P_last_add.nd (pi_listK K (pe_fldK K (pv 0) rfl)) (blkOk_by (N := ["self", "look", "end", "person", "place", "adder"]) (sc := _) (by kernel_rfl)) (fun _ _ _ _ _ => (pg_tupK K 2 rfl (pgs_cons (pg_name (i := 4) sc_P_last_add.nd rfl (Or.inl rfl)) (pgs_cons (pg_name (i := 5) sc_P_last_add.nd rfl (Or.inl rfl)) pgs_nil)))) (fun _ _ _ _ _ => pts_one (PW.pt (pw_and (pt_cmpR op_lt (pv 4) (pv 2) (nomark _)) (pw_and1 (pt_cmpR op_eq (pv 5) (pv 3) (nomark _)))))) (fun _ _ _ _ _ => (pv 4)))) pa_nil))))), fun e => ?_⟩
  exact by
    obtain ⟨p, hp⟩ := get_lt hi
    exact (hr_asg (y_ixL (n := i) (y_fld (y_var rfl) T.c_Keeping T.n_K_own_looks rfl) (y_var rfl) rfl (getElem?_map_some hp)) (yg_tup2 yg_name yg_name)
      (hr_ret (y_max (ns := [-1]) (y_cat (y_lst (ya_cons (y_neg y_c) ya_nil) (by show 1 ≤ 100000; decide)) (y_lc0 (yi_list (y_fld (y_var rfl) T.c_Keeping T.n_K_own_adds rfl))) (by show 1 ≤ 100000; decide)) (by simp) (by simp))))

theorem sc_P_stops : FnScope ["self", "look", "other"] ["self", "look", "other"] (defScope s_P_stops) := ⟨rfl, rfl, rfl, by decide +kernel, rfl, by decide +kernel, by decide +kernel⟩
theorem ok_P_stops (T : Tx K mg) : FnOk PP w K mg base CX0 2 (He.fAd K d_P_stops.at_) (fdOf K d_P_stops.at_) ["self", "look", "other"] (spR (C_P_stops K)) := by
  have G_B_is_below := ok_B_is_below T (w := w) (base := base)
  have G_P_last_add := ok_P_last_add T (w := w) (base := base)
  refine fn_ok T.F_P_stops sc_P_stops (by rintro _ _ ⟨k, i, j, hi, hj, rfl, rfl⟩; rfl) fun Rs R hC cdv A outer s H E hr => ?_
  obtain ⟨k, i, j, hi, hj, rfl, rfl⟩ := hC
  refine ⟨_, (pss_cons (ps_if (PW.pt (pw_or (pt_cmp (pc_din (hu_of hr) (pe_tup (pa_cons (pv 1) (pa_cons (pv 2) pa_nil))) (pe_fldK K (pv 0) rfl))) (pw_or1 (pt_val (pe_meth (pe_fldK K (pv 0) rfl) T.c_Bonds T.m_B_is_below G_B_is_below (hr.mono (by decide)) T.b_B_is_below .nil pass0 (pa_cons (pv 2) (pa_cons (pv 1) pa_nil))))))) (pss_one (ps_ret pe_bl)) pss_nil)
      (pss_one (ps_ret (pe_cmpR op_gt (pe_meth (pv 0) T.c_Keeping T.m_K_last_add G_P_last_add (hr.mono (by decide)) T.b_P_last_add .nil pass0 (pa_cons (pv 1) pa_nil)) (pe_ix (r := rIxT K) ix_tup (pe_ix (r := rIxL K) ix_list (pe_fldK K (pv 0) rfl) (pv 2) (fun _ _ => rfl)) pe_int (fun _ _ => rfl)) (nomark _))))), fun e => ?_⟩
  exact by
    obtain ⟨p, hp⟩ := get_lt hj
    have hx := getElem?_map_some (r := tPr K) hp
    exact (hr_ifr (yt_or (yt_B (y_dinT (ya_cons (y_var rfl) (ya_cons (y_var rfl) ya_nil)) (y_fld (y_var rfl) T.c_Keeping T.n_K_own_unlike rfl))) fun h => (yt_B (y_meth (y_fld (y_var rfl) T.c_Keeping T.n_K_own_bonds rfl) rfl (ya_cons (y_var rfl) (ya_cons (y_var rfl) ya_nil)) ⟨k.s, j, i, rfl, rfl⟩))) (fun h => (hr_ret (y_c.to (by
        simp at h
        simp [h]))))
      (fun h => (hr_ret ((y_gt (y_meth (y_var rfl) rfl (ya_cons (y_var rfl) ya_nil) ⟨k, i, hi, rfl, rfl⟩) (y_ixT (R := tN p.1) (n := 0) (y_ixL (n := j) (y_fld (y_var rfl) T.c_Keeping T.n_K_own_looks rfl) (y_var rfl) rfl hx) y_c rfl rfl)).to (by
        simp at h
        rw [decide_eq_false h, decide_eq_false (show ¬ ((p.1 : Int) < -1) by omega)])))))
end
end HF
set_option maxHeartbeats 200000
namespace HF
open PySem PyProof.Rows L2 Evl
section
variable {w : World} {K : PySem.W.Frag} {mg : Str → Option Value} {base : Heap}
theorem fnS_ok {d : He.DefD} {f f2 : Addr} {m : Str} {fd : FuncData} {N ps : List Str} {k : Nat} {C : List Ty → Ty → Prop} (F : FunS K d f f2 m fd) (S : SScope N ps d.scope) (hself : ∃ ar, (d.params.posonlyargs ++ d.params.args).head? = some ar ∧ ar.arg = ("self" : Str)) (len : ∀ Rs R, C Rs R → Rs.length = ps.length)
    (hb : ∀ Rs R, C Rs R → ∀ (A : Around) (outer : List Env) (s : Shared) (H : Hp) (cda cc : Addr) (oc : Value) (od : Option Addr) (osl : Array (Option Value)), K.lookup f = some ⟨oc, od, .func fd, osl⟩ → SupOk K fd cda cc (He.ga K "Keeping") (He.ga K "Keeping") m f2 → Room k (A.deeper (sEnv d.qual d.scope s.heap.objs.size f (.ref cda) cc)) →
      ∃ t, PSst (cxS PP w K mg base N d.qual d.scope f (.ref cda) cc A outer s H) d.body d.body t ∧ ∀ e, Hr e t (start0 N Rs) M0 (fun _ _ => ∀ H, R.r .non H) R) : FnOk PP w K mg base CX0 (k + 1) f fd ps (spR C) := by
  obtain ⟨oc, od, dV, kV, doc, pm, an, cda, ct, osl, cc, rfl, lk, hcd, _, O⟩ := F.ex
  obtain ⟨cl, cld, csl, hcell⟩ := (O hself).cell
  refine fn_ofS lk hcd hcell rfl S (fun vs H Q E ⟨H0, Rs, R, h, _, ha, _⟩ => by rw [ha.len]; exact len Rs R h) fun A outer s H vs Q E hr ⟨H0, Rs, R, hC, he, ha, q⟩ => ?_
  obtain ⟨t, h1, h2⟩ := hb Rs R hC A outer s H cda cc oc od osl lk (O hself) hr
  exact ⟨t, h1, h2 (H0, H) _ H0 H _ (Gr.refl he) ⟨start_sl ha, he, trivial⟩ (fun σ' H0' H' _ _ n g _ _ => q _ _ _ g (n _)) fun v H0' H' g r => q v _ _ g r⟩
variable {Γ Γ' Γ1 : Ctx} {μ μ' : Mt} {R RA RB S : Ty} {Rs Ss : List Ty} {ta tb tc te : TE} {tr : TA} {u : TS} {N N1 : Ctx → Mt → Prop} {e : Hp × Hp}
theorem y_sup {Cc : List Ty → Ty → Prop} {D : Addr} {Fs : List (Str × Ty)} (ho : Γ[0]? = some (some (Ins D Fs))) (hA : YA tr Γ μ Rs) (hC : Cc (Ins D Fs :: Rs) R) : Y (tSup D (spR Cc) tr) Γ μ R := fun σ H0 H s Q q => by
  obtain ⟨v, hv, r1⟩ := s.sl.2 0 _ ho
  obtain ⟨x, dx, fs, rfl, h1, h2, h3⟩ := id r1
  refine ⟨x, dx, fs, hv, s.ex x _ h1, ?_⟩
  refine hA σ H0 H s _ fun vs H2 G2 g2 r2 => ?_
  exact ⟨H2, Ins D Fs :: Rs, R, hC, g2.p, ⟨(Ins D Fs).m _ _ _ g2.e0 r1, r2⟩, fun v H3 G3 g3 r3 => q _ _ _ (g2.trans g3) r3⟩
theorem hr_ret2 (h : Y te Γ μ R) : Hr e (tSeq (tRet te) u) Γ μ N R := fun σ H0 H D g s nx rt =>
  h σ H0 H s _ fun v H1 G1 g1 r1 => rt v H1 G1 (g.trans g1) r1
end
end HF
set_option maxHeartbeats 400000
namespace HF
open PySem PyProof.Rows L2 Evl
section
variable {w : World} {K : PySem.W.Frag} {mg : Str → Option Value} {base : Heap}
theorem bar_keys {bar : List (Nat × List Nat)} : (bar.map fun p => (p.1, tNs p.2)).map (·.1) = bar.map (·.1) := by rw [List.map_map]; rfl
theorem lookup_mapv {bar : List (Nat × List Nat)} {i : Nat} : (bar.map fun p => (p.1, tNs p.2)).lookup i = (bar.lookup i).map tNs := by
  induction bar with
  | nil => rfl
  | cons p bar ih =>
    obtain ⟨a, l⟩ := p
    rw [List.map_cons, List.lookup_cons, List.lookup_cons]
    cases (i == a) with
    | true => rfl
    | false => exact ih
theorem lookup_of_mem {bar : List (Nat × List Nat)} {i : Nat} (h : i ∈ bar.map (·.1)) : ∃ l, bar.lookup i = some l := by
  induction bar with
  | nil => simp at h
  | cons p bar ih =>
    obtain ⟨a, l⟩ := p
    rw [List.lookup_cons]
    by_cases e : i = a
    · subst e; exact ⟨l, by simp⟩
    · have e2 : (i == a) = false := by simpa using e
      rw [e2]
      refine ih ?_
      rcases List.mem_cons.mp h with h | h
      · exact absurd h e
      · exact h
theorem lookup_not_mem {bar : List (Nat × List Nat)} {i : Nat} (h : ¬ i ∈ bar.map (·.1)) : bar.lookup i = none := by
  rw [List.lookup_eq_none_iff]
  intro p hp
  have : p.1 ≠ i := fun e => h (e ▸ List.mem_map_of_mem hp)
  simpa using fun e => this e.symm
theorem sc_K_stops : SScope ["self", "look", "other"] ["self", "look", "other"] (defScope s_K_stops) := ⟨rfl, rfl, rfl, by decide +kernel, rfl, by decide +kernel, by decide +kernel, by decide +kernel, rfl⟩
theorem ok_K_stops (T : Tx K mg) : FnOk PP w K mg base CX0 3 (He.fAd K d_K_stops.at_) (fdOf K d_K_stops.at_) ["self", "look", "other"] (spR (C_K_stops K)) := by
  have G_P_stops := ok_P_stops T (w := w) (base := base)
  refine fnS_ok T.F_K_stops sc_K_stops ⟨_, rfl, rfl⟩ (by rintro _ _ ⟨k, i, j, hi, hj, rfl, rfl⟩; rfl) fun Rs R hC A outer s H cda cc oc od osl lk O hr => ?_
  obtain ⟨k, i, j, hi, hj, rfl, rfl⟩ := hC
  refine ⟨_, psst_cons (pst_of (ps_if (PW.pt (pw_and (pt_cmp (pc_din (hu_of hr) (pv 1) (pe_fldK K (pv 0) rfl))) (pw_and1 (pt_cmpR (r := rIn K false) op_in_seq (pv 2) (pe_dget (hu_of hr) (pe_fldK K (pv 0) rfl) (pv 1) (fun _ _ => rfl)) (by with_unfolding_all rfl))))) (pss_one (ps_ret pe_bl)) pss_nil))
    (psst_cons (pst_ret (pet_super rfl rfl lk rfl O (fun c e => own_cls sc_K_stops (h := s.heap) rfl e) rfl rfl rfl rfl T.f_super G_P_stops (hr.mono (by decide)) T.b_P_stops (pa_cons (pv 1) (pa_cons (pv 2) pa_nil)))) (psst_of pss_nil)), fun e => ?_⟩
  by_cases hm : i ∈ k.bar.map (·.1)
  · obtain ⟨l, hl⟩ := lookup_of_mem hm
    have hd : decide (i ∈ (k.bar.map fun p => (p.1, tNs p.2)).map (·.1)) = true := by rw [bar_keys]; exact decide_eq_true hm
    have hb : k.bars i j = decide (j ∈ l) := by unfold Kst.bars; rw [hl]
    refine hr_ifr (yt_and (b := true) ((yt_B (y_dinK (y_var rfl) (y_fld (y_var rfl) T.c_Keeping T.n_K_own_barred rfl))).to hd) fun _ => (yt_t (y_inL (ns := l) (y_var rfl) (y_dget (n := i) (y_fld (y_var rfl) T.c_Keeping T.n_K_own_barred rfl) (y_var rfl) (by rw [lookup_mapv, hl]; rfl))))) (fun h => hr_ret (y_c.to ?_)) (fun h => hr_ret2 ((y_sup (Cc := C_P_stops K) (R := tBo (decide ((j, i) ∈ k.s.B))) rfl (ya_cons (y_var rfl) (ya_cons (y_var rfl) ya_nil)) ⟨k, i, j, hi, hj, rfl, rfl⟩).to ?_))
    · unfold Kst.stops
      rw [hb]
      have h' : decide (j ∈ l) = true := by simpa using h
      rw [h']
      rfl
    · unfold Kst.stops
      rw [hb]
      have h' : decide (j ∈ l) = false := by simpa using h
      rw [h']
      rfl
  · have hd : decide (i ∈ (k.bar.map fun p => (p.1, tNs p.2)).map (·.1)) = false := by rw [bar_keys]; exact decide_eq_false hm
    have hb : k.bars i j = false := by unfold Kst.bars; rw [lookup_not_mem hm]
    refine hr_ifr (yt_and (b := false) (c := false) ((yt_B (y_dinK (y_var rfl) (y_fld (y_var rfl) T.c_Keeping T.n_K_own_barred rfl))).to hd) fun h => nomatch h) (fun h => nomatch h) (fun h => hr_ret2 ((y_sup (Cc := C_P_stops K) (R := tBo (decide ((j, i) ∈ k.s.B))) rfl (ya_cons (y_var rfl) (ya_cons (y_var rfl) ya_nil)) ⟨k, i, j, hi, hj, rfl, rfl⟩).to ?_))
    unfold Kst.stops
    rw [hb]
    rfl
theorem b_K_stops (T : Tx K mg) : Binds K (fdOf K d_K_stops.at_) ["self", "look", "other"] [] := by
  obtain ⟨oc, od, dV, kV, doc, pm, an, cda, ct, osl, cc, e, lk, hcd, hdv, O⟩ := T.F_K_stops.ex
  rw [e]
  rcases hdv with ⟨_, rfl⟩ | ⟨h, _⟩
  · exact .all fun us hl => match us, hl with | [_, _, _], _ => rfl
  · exact absurd rfl h
theorem sc_P_is_first : FnScope ["self", "look", "part", "other"] ["self", "look", "part"] (defScope s_P_is_first) := ⟨rfl, rfl, rfl, by decide +kernel, rfl, by decide +kernel, by decide +kernel⟩
theorem ok_P_is_first (T : Tx K mg) : FnOk PP w K mg base CX0 4 (He.fAd K d_P_is_first.at_) (fdOf K d_P_is_first.at_) ["self", "look", "part"] (spR (C_P_is_first K)) := by
  have G_K_stops := ok_K_stops T (w := w) (base := base)
  refine fn_ok T.F_P_is_first sc_P_is_first (by rintro _ _ ⟨k, i, part, hi, hp, hle, rfl, rfl⟩; rfl) fun Rs R hC cdv A outer s H E hr => ?_
  obtain ⟨k, i, part, hi, hp, hle, rfl, rfl⟩ := hC
  refine ⟨_, (pss_one (ps_ret (pe_not (pe_callB (r := rAny K) (cr_any rfl) (by rfl) T.f_any (by decide +kernel) (pa_cons (pe_lc (own := [("other", 3)]) rfl sc_P_is_first.nd (pi_listK K (pv 2)) (blkOk_by (N := ["self", "look", "part", "other"]) (sc := _) (by kernel_rfl)) (fun _ _ _ _ _ => (pg_name (i := 3) sc_P_is_first.nd rfl (Or.inl rfl))) (fun _ _ _ _ _ => pts_one (pt_cmpR op_ne (pv 3) (pv 1) (nomark _))) (fun _ _ _ _ _ => (pe_meth (pv 0) T.c_Keeping T.m_K_stops G_K_stops (hr.mono (by decide)) (b_K_stops T) .nil pass0 (pa_cons (pv 1) (pa_cons (pv 3) pa_nil))))) pa_nil))))), fun e => ?_⟩
  exact hr_ret (y_not (y_any (y_lc (yi_list (y_var rfl)) (by decide) (by omega) (fun x hx => yg_name) (fun x hx => (yt_t (y_neN (y_var rfl) (y_var rfl)))) (fun x hx hf => (y_meth (y_var rfl) rfl (ya_cons (y_var rfl) (ya_cons (y_var rfl) ya_nil)) ⟨k, i, x, hi, hp x hx, rfl, rfl⟩)))))

theorem sc_P_firsts : FnScope ["self", "part", "look"] ["self", "part"] (defScope s_P_firsts) := ⟨rfl, rfl, rfl, by decide +kernel, rfl, by decide +kernel, by decide +kernel⟩
theorem ok_P_firsts (T : Tx K mg) : FnOk PP w K mg base CX0 5 (He.fAd K d_P_firsts.at_) (fdOf K d_P_firsts.at_) ["self", "part"] (spR (C_P_firsts K)) := by
  have G_P_is_first := ok_P_is_first T (w := w) (base := base)
  refine fn_ok T.F_P_firsts sc_P_firsts (by rintro _ _ ⟨k, part, hp, hle, rfl, rfl⟩; rfl) fun Rs R hC cdv A outer s H E hr => ?_
  obtain ⟨k, part, hp, hle, rfl, rfl⟩ := hC
  refine ⟨_, (pss_one (ps_ret (pe_lc (own := [("look", 2)]) rfl sc_P_firsts.nd (pi_listK K (pv 1)) (blkOk_by (N := ["self", "part", "look"]) (sc := _) (by kernel_rfl)) (fun _ _ _ _ _ => (pg_name (i := 2) sc_P_firsts.nd rfl (Or.inl rfl))) (fun _ _ _ _ _ => pts_one (pt_val (pe_meth (pv 0) T.c_Keeping T.m_K_is_first G_P_is_first (hr.mono (by decide)) T.b_P_is_first .nil pass0 (pa_cons (pv 2) (pa_cons (pv 1) pa_nil))))) (fun _ _ _ _ _ => (pv 2))))), fun e => ?_⟩
  exact hr_ret (y_lc (yi_list (y_var rfl)) (by decide) (by omega) (fun x hx => yg_name) (fun x hx => (yt_B (y_meth (y_var rfl) rfl (ya_cons (y_var rfl) (ya_cons (y_var rfl) ya_nil)) ⟨k, x, part, hp x hx, hp, hle, rfl, rfl⟩))) (fun x hx hf => (y_var rfl)))
end
end HF
set_option maxHeartbeats 200000
namespace HF
open PySem PyProof.Rows L2 Evl
/-- the members of ns, upward -/
def up (n : Nat) (ns : List Nat) : List Nat := (List.range n).filter fun i => decide (i ∈ ns)
theorem mem_up {n : Nat} {ns : List Nat} (h : ∀ x ∈ ns, x < n) {x : Nat} : x ∈ up n ns ↔ x ∈ ns := by
  unfold up
  rw [List.mem_filter, List.mem_range, decide_eq_true_iff]
  exact ⟨fun z => z.2, fun z => ⟨h x z, z⟩⟩
theorem up_nodup {n : Nat} {ns : List Nat} : (up n ns).Nodup := (List.nodup_range).filter _
theorem up_lt {n : Nat} {ns : List Nat} : (up n ns).Pairwise (· < ·) := List.Pairwise.filter _ List.pairwise_lt_range
theorem up_perm {n : Nat} {ns : List Nat} (hd : ns.Nodup) (h : ∀ x ∈ ns, x < n) : (up n ns).Perm ns := (List.perm_ext_iff_of_nodup up_nodup hd).mpr fun x => mem_up h
theorem up_len {n : Nat} {ns : List Nat} (hd : ns.Nodup) (h : ∀ x ∈ ns, x < n) : (up n ns).length = ns.length := (up_perm hd h).length_eq
theorem ints_sorted {n : Nat} {ns : List Nat} {ks : List Int} (hd : ns.Nodup) (h : ∀ x ∈ ns, x < n) (hp : ks.Perm (ns.map fun n : Nat => (n : Int))) (hs : ks.Pairwise (· ≤ ·)) : ks = (up n ns).map fun n : Nat => (n : Int) := by
  refine List.Perm.eq_of_pairwise (le := (· ≤ ·)) (fun a b _ _ h1 h2 => Int.le_antisymm h1 h2) hs ?_ (hp.trans ((up_perm hd h).map _).symm)
  rw [List.pairwise_map]
  exact up_lt.imp fun h => by omega
theorem ints_set {n : Nat} {ns : List Nat} {ks : List Int} (h : ∀ x ∈ ns, x < n) (hs : ks.Pairwise (· < ·)) (hm : ∀ k : Int, k ∈ ks ↔ k ∈ ns.map fun n : Nat => (n : Int)) : ks = (up n ns).map fun n : Nat => (n : Int) := by
  have h1 : ((up n ns).map fun n : Nat => (n : Int)).Pairwise (· < ·) := by
    rw [List.pairwise_map]
    exact up_lt.imp fun h => by omega
  refine List.Perm.eq_of_pairwise (le := (· < ·)) (fun a b _ _ h1 h2 => by omega) hs h1 ?_
  refine (List.perm_ext_iff_of_nodup (hs.imp fun h => by omega) (h1.imp fun h => by omega)).mpr fun k => ?_
  rw [hm k]
  constructor
  · intro hk
    obtain ⟨x, hx, e⟩ := List.mem_map.mp hk
    exact List.mem_map.mpr ⟨x, (mem_up h).mpr hx, e⟩
  · intro hk
    obtain ⟨x, hx, e⟩ := List.mem_map.mp hk
    exact List.mem_map.mpr ⟨x, (mem_up h).mp hx, e⟩
section
variable {Γ Γ' : Ctx} {μ : Mt} {ta te : TE} {K : PySem.W.Frag} {w : World} {n : Nat} {ns : List Nat}
theorem nats_int (ns : List Nat) : (ns.map fun n : Nat => V.int (n : Int)) = (ns.map fun n : Nat => (n : Int)).map V.int := by rw [List.map_map]; rfl
theorem y_sorted (ha : Y ta Γ μ (tNs ns)) (hd : ns.Nodup) (h : ∀ x ∈ ns, x < n) (hl : ns.length < 64) : Y (tCB (rSorted K) (tCons ta tNil)) Γ μ (tNs (up n ns)) := fun σ H0 H s Q q =>
  ha σ H0 H s _ fun x H1 G1 g1 r1 => by
    obtain ⟨a, vs, rfl, h1, h2⟩ := r1
    refine ⟨a, ns.map fun n : Nat => (n : Int), rfl, ?_, by rw [List.length_map]; exact hl, fun ks p hp hs hf => ?_⟩
    · rw [← nats_int, ← h2.nats]
      exact sq_of (g1.p a _ h1)
    · rw [ints_sorted hd h hp hs, ← nats_int]
      exact q _ _ _ (g1.trans (Gr.new g1.p hf)) ⟨p, _, rfl, upd_same, AllR.ofNats⟩
theorem y_sset (ha : Y ta Γ μ (tNs ns)) (h : ∀ x ∈ ns, x < n) (hl : ns.length < 64) : Y (tCB (rSortedSet w) (tCons (tCB (HF.rSetL K w) (tCons ta tNil)) tNil)) Γ μ (tNs (up n ns)) := fun σ H0 H s Q q =>
  ha σ H0 H s _ fun x H1 G1 g1 r1 => by
    obtain ⟨a, vs, rfl, h1, h2⟩ := r1
    refine ⟨a, ns.map fun n : Nat => (n : Int), rfl, ?_, by rw [List.length_map]; omega, fun b c hb hc => ?_⟩
    · rw [← nats_int, ← h2.nats]
      exact sq_of (g1.p a _ h1)
    · rw [List.length_map] at hc
      refine ⟨b, _, c, rfl, upd_same, by omega, fun ks p hs hm _ hf => ?_⟩
      rw [ints_set (n := n) h hs (fun k => by rw [hm k, decide_eq_true_iff]), ← nats_int]
      have g2 := g1.trans (Gr.new (o := SetO w b (fun j => decide (j ∈ ns.map fun n : Nat => (n : Int))) c) g1.p hb)
      exact q _ _ _ (g2.trans (Gr.new g2.p hf)) ⟨p, _, rfl, upd_same, AllR.ofNats⟩
end
/-! ### two lists of the def's own -/
section
variable {Γ Γ' Γ1 : Ctx} {μ μ' : Mt} {R RA RB S : Ty} {Rs Ss R0 : List Ty} {ta tb tc te : TE} {tt tu : TT} {tr : TA} {K : PySem.W.Frag} {b c : Bool} {x y : V} {t u : TS} {N N1 : Ctx → Mt → Prop} {e : Hp × Hp} {k l : Nat} {a f : Addr}
theorem Cl.off (h : f ≠ a) : (Cl e f Rs).Off a := fun H0 H o ⟨h1, h2, vs, h3, h4⟩ => ⟨h1, h2, vs, by rw [upd_ne h]; exact h3, h4⟩
theorem Mt.Off.and {μ ν : Mt} (h : μ.Off a) (h' : ν.Off a) : (μ.and ν).Off a := fun H0 H o q => ⟨h _ _ o q.1, h' _ _ o q.2⟩
theorem hr_mu (h : ∀ H0 H, μ.p H0 H → μ'.p H0 H) (n : Hr e u Γ μ' N R) : Hr e u Γ μ N R := fun σ H0 H D g s nx rt => n σ H0 H D g ⟨s.sl, s.ex, h _ _ s.mu⟩ nx rt
theorem hr_parLf (h1 : Y ta Γ (μ.and (Cl e f R0)) RA) (h2 : YL tb Γ (μ.and (Cl e f R0)) Rs) (n : ∀ a, f ≠ a → Hr e u ((Γ.set k (some RA)).set l (some (Is (.ref a)))) ((μ.and (Cl e f R0)).and (Cl e a Rs)) N R) : Hr e (tSeq (tPar k l (tCons ta (tCons tb tNil))) u) Γ (μ.and (Cl e f R0)) N R := fun σ H0 H D g s nx rt =>
  h1 σ H0 H s _ fun v H1 G1 g1 r1 => h2 σ H1 G1 (s.gr g1) _ fun p vs H2 G2 g2 n1 n2 hp hA => by
    have hf := s.mu.2
    obtain ⟨c1, c2, ws, c3, c4⟩ := hf
    have hne : f ≠ p := fun z => by rw [← z, g1.e f _ c3] at n1; cases n1
    refine ⟨v, .ref p, rfl, (n p hne).go (g.trans (g1.trans g2)) (g1.trans g2).e0 ?_ nx rt⟩
    have s1 := (((s.gr g1).gr g2).set k (RA.m _ _ _ g2.e0 r1)).set l (R := Is (.ref p)) (v := .ref p) rfl
    exact ⟨s1.sl, s1.ex, s1.mu, fresh_back (g.trans g1).e n1, n2, vs, hp, hA⟩
theorem hr_parLf1 (h1 : Y ta Γ ((μ.and (Cl e f R0)).and μ') RA) (h2 : YL tb Γ ((μ.and (Cl e f R0)).and μ') Rs) (n : ∀ a, f ≠ a → N ((Γ.set k (some RA)).set l (some (Is (.ref a)))) ((μ.and (Cl e f R0)).and (Cl e a Rs))) : Hr e (tPar k l (tCons ta (tCons tb tNil))) Γ ((μ.and (Cl e f R0)).and μ') N R := fun σ H0 H D g s nx rt =>
  h1 σ H0 H s _ fun v H1 G1 g1 r1 => h2 σ H1 G1 (s.gr g1) _ fun p vs H2 G2 g2 n1 n2 hp hA => by
    have hf := s.mu.1.2
    obtain ⟨c1, c2, ws, c3, c4⟩ := hf
    have hne : f ≠ p := fun z => by rw [← z, g1.e f _ c3] at n1; cases n1
    refine ⟨v, .ref p, rfl, nx _ H2 G2 _ _ (n p hne) (g.trans (g1.trans g2)) (g1.trans g2).e0 ?_⟩
    have s1 := (((s.gr g1).gr g2).set k (RA.m _ _ _ g2.e0 r1)).set l (R := Is (.ref p)) (v := .ref p) rfl
    exact ⟨s1.sl, s1.ex, s1.mu.1, fresh_back (g.trans g1).e n1, n2, vs, hp, hA⟩
/-- x = queue.pop() -/
theorem hr_pop {T : Ty} (hk : Γ[k]? = some (some (Is (.ref a)))) (ho : μ.Off a) (n : Hr e u (Γ.set l (some T)) (μ.and (Cl e a Rs)) N R) : Hr e (tSeq (tAsg (tBM0 K "list" rPop (tVar k)) (gName l)) u) Γ (μ.and (Cl e a (Rs ++ [T]))) N R := fun σ H0 H D g s nx rt => by
  obtain ⟨v, hv, rv⟩ := s.sl.2 k _ hk
  obtain rfl : v = V.ref a := rv
  obtain ⟨c1, c2, vs, c3, c4⟩ := s.mu.2
  have hlen : vs.length = Rs.length + 1 := by rw [c4.len]; simp
  obtain ⟨y, hy, ry⟩ := c4.get (i := Rs.length) (R := T) (by simp)
  have hdrop : AllR vs.dropLast Rs H0 := by
    have h1 := c4.take Rs.length
    rw [List.take_left' rfl] at h1
    rw [List.dropLast_eq_take, hlen]
    exact h1
  refine ⟨_, hv, .inl ⟨rfl, vs, sq_of c3⟩, a, vs, y, rfl, rfl, c3, by rw [hlen]; exact hy, ?_⟩
  have e1 : Ex H0 (upd H a (.lst vs.dropLast)) := fun b o q => by rw [upd_ne (ne_of_none q c2)]; exact s.ex b o q
  refine n.go (g.put c1 c2) (Ex.refl _) ?_ nx rt
  exact ⟨s.sl.set l ry, e1, ho _ _ _ s.mu.1, c1, c2, vs.dropLast, upd_same, hdrop⟩
/-- a new list of plain values, out of what is not kept -/
theorem yl_loc {xs : List V} (h : ∀ σ H0 H, Sx σ H0 H Γ μ → Sx σ H H Γ' M0) (hy : YL te Γ' M0 (xs.map Is)) : YL te Γ μ (xs.map Is) := fun σ H0 H s Q q =>
  hy σ H H (h σ H0 H s) Q fun p vs H1 G1 g1 n1 n2 hp hA => q p vs H0 G1 (Gr.on s.ex g1.e) n1 (fresh_back s.ex n1) hp (by rw [hA.is]; exact AllR.ofIs)
theorem tN_is (ns : List Nat) : ns.map tN = (ns.map fun n : Nat => V.int (n : Int)).map Is := by rw [List.map_map]; rfl
theorem yl_locN {ns : List Nat} (h : ∀ σ H0 H, Sx σ H0 H Γ μ → Sx σ H H Γ' M0) (hy : YL te Γ' M0 (ns.map tN)) : YL te Γ μ (ns.map tN) := by
  rw [tN_is] at hy ⊢
  exact yl_loc h hy
theorem yt_len0 {n : Nat} (h : Y ta Γ μ (tN n)) : YT (tTest (tOp (rI0 fun i j => V.bl (decide (j < i))) ta (tC (.int 0)))) Γ μ (decide (0 < n)) := (yt_t (y_gt h y_c)).to (by
  rw [decide_eq_decide.mpr (show ((0 : Int) < (n : Int)) ↔ 0 < n by omega)])
theorem tup2_run {ts : List Ty} {k l : Nat} {v w : V} {σ : L2.St} {H : Hp} {D : Ends} (q : ∀ p, H p = none → D.nx ((σ.set k (some v)).set l (some w)) (upd H p (.tup [v, w]))) :
    [v, w].length ≤ sizeLine ∧ ∀ p, H p = none → gTup K 2 (gCons (gName k) (gCons (gName l) gNil)) (.ref p) σ (upd H p (.tup [v, w])) D.nx :=
  ⟨sz_of (by show 2 ≤ 100000; decide), fun p hp => ⟨p, [v, w], rfl, st_of upd_same, rfl, v, [w], rfl, w, [], rfl, rfl, q p hp⟩⟩
theorem hr_tparL0 (h1 : YL ta Γ μ Rs) (h2 : Y tb Γ μ (Is y)) (n : ∀ a, Hr e u ((Γ.set k (some (Is (.ref a)))).set l (some (Is y))) (μ.and (Cl e a Rs)) N R) : Hr e (tSeq (tAsg (tTup (tCons ta (tCons tb tNil))) (gTup K 2 (gCons (gName k) (gCons (gName l) gNil)))) u) Γ μ N R := fun σ H0 H D g s nx rt =>
  h1 σ H0 H s _ fun p vs H1 G1 g1 n1 n2 hp hA => h2 σ H1 G1 (s.gr g1) _ fun v H2 G2 g2 r2 => tup2_run (ts := []) (D := { D with nx := u D }) fun q hq => by
    obtain rfl : v = y := r2
    have g3 := Gr.own (o := .tup [.ref p, v]) g2.p hq
    have g' := (g1.trans g2).trans g3
    refine (n p).go (g.trans g') g'.e0 ?_ nx rt
    have s1 := ((s.gr g').set k (R := Is (.ref p)) (v := .ref p) rfl).set l (R := Is v) (v := v) rfl
    exact ⟨s1.sl, s1.ex, s1.mu, fresh_back g.e n1, (g2.trans g3).f p n2 (ne_none hp), vs, (g2.trans g3).e p _ hp, hA.m (g2.trans g3).e0⟩
theorem hr_tparLf (h1 : Y ta Γ (μ.and (Cl e f R0)) RA) (h2 : YL tb Γ (μ.and (Cl e f R0)) Rs) (n : ∀ a, f ≠ a → Hr e u ((Γ.set k (some RA)).set l (some (Is (.ref a)))) ((μ.and (Cl e f R0)).and (Cl e a Rs)) N R) : Hr e (tSeq (tAsg (tTup (tCons ta (tCons tb tNil))) (gTup K 2 (gCons (gName k) (gCons (gName l) gNil)))) u) Γ (μ.and (Cl e f R0)) N R := fun σ H0 H D g s nx rt =>
  h1 σ H0 H s _ fun v H1 G1 g1 r1 => h2 σ H1 G1 (s.gr g1) _ fun p vs H2 G2 g2 n1 n2 hp hA => tup2_run (ts := []) (D := { D with nx := u D }) fun q hq => by
    have hf := s.mu.2
    obtain ⟨c1, c2, ws, c3, c4⟩ := hf
    have hne : f ≠ p := fun z => by rw [← z, g1.e f _ c3] at n1; cases n1
    have g3 := Gr.own (o := .tup [v, .ref p]) g2.p hq
    have g' := (g1.trans g2).trans g3
    refine (n p hne).go (g.trans g') g'.e0 ?_ nx rt
    have s1 := ((s.gr g').set k (RA.m _ _ _ (g2.trans g3).e0 r1)).set l (R := Is (.ref p)) (v := .ref p) rfl
    exact ⟨s1.sl, s1.ex, s1.mu, fresh_back (g.trans g1).e n1, g3.f p n2 (ne_none hp), vs, g3.e p _ hp, hA.m g3.e0⟩
theorem hr_tparLf1 (h1 : Y ta Γ ((μ.and (Cl e f R0)).and μ') RA) (h2 : YL tb Γ ((μ.and (Cl e f R0)).and μ') Rs) (n : ∀ a, f ≠ a → N ((Γ.set k (some RA)).set l (some (Is (.ref a)))) ((μ.and (Cl e f R0)).and (Cl e a Rs))) : Hr e (tAsg (tTup (tCons ta (tCons tb tNil))) (gTup K 2 (gCons (gName k) (gCons (gName l) gNil)))) Γ ((μ.and (Cl e f R0)).and μ') N R := fun σ H0 H D g s nx rt =>
  h1 σ H0 H s _ fun v H1 G1 g1 r1 => h2 σ H1 G1 (s.gr g1) _ fun p vs H2 G2 g2 n1 n2 hp hA => tup2_run (ts := []) (D := D) fun q hq => by
    have hf := s.mu.1.2
    obtain ⟨c1, c2, ws, c3, c4⟩ := hf
    have hne : f ≠ p := fun z => by rw [← z, g1.e f _ c3] at n1; cases n1
    have g3 := Gr.own (o := .tup [v, .ref p]) g2.p hq
    have g' := (g1.trans g2).trans g3
    refine nx _ _ _ _ _ (n p hne) (g.trans g') g'.e0 ?_
    have s1 := ((s.gr g').set k (RA.m _ _ _ (g2.trans g3).e0 r1)).set l (R := Is (.ref p)) (v := .ref p) rfl
    exact ⟨s1.sl, s1.ex, s1.mu.1, fresh_back (g.trans g1).e n1, g3.f p n2 (ne_none hp), vs, g3.e p _ hp, hA.m g3.e0⟩
end
end HF
set_option maxHeartbeats 200000
namespace HF
/-! what parts finds -/
structure IsParts (A : List (Nat × Nat)) (some : List Nat) (ps : List (List Nat)) : Prop where
  ne : ∀ p ∈ ps, p ≠ []
  nd : ∀ p ∈ ps, p.Nodup
  sub : ∀ p ∈ ps, ∀ x ∈ p, x ∈ some
  cov : ∀ x ∈ some, ∃ p ∈ ps, x ∈ p
  cl : ∀ p ∈ ps, ∀ a ∈ p, ∀ b ∈ some, (a, b) ∈ A → b ∈ p
structure PInv (A : List (Nat × Nat)) (some left : List Nat) (ps : List (List Nat)) : Prop where
  lnd : left.Nodup
  lsub : ∀ x ∈ left, x ∈ some
  ne : ∀ p ∈ ps, p ≠ []
  nd : ∀ p ∈ ps, p.Nodup
  sub : ∀ p ∈ ps, ∀ x ∈ p, x ∈ some
  cov : ∀ x ∈ some, x ∈ left ∨ ∃ p ∈ ps, x ∈ p
  cl : ∀ p ∈ ps, ∀ a ∈ p, ∀ b ∈ some, (a, b) ∈ A → b ∈ p
  dj : ∀ p ∈ ps, ∀ x ∈ p, x ∉ left
structure QInv (A : List (Nat × Nat)) (left P Q : List Nat) : Prop where
  nd : P.Nodup
  sub : ∀ x ∈ P, x ∈ left
  q : ∀ x ∈ Q, x ∈ P
  ne : P ≠ []
  cl : ∀ a ∈ P, a ∉ Q → ∀ b ∈ left, (a, b) ∈ A → b ∈ P
variable {A : List (Nat × Nat)} {some left P Q : List Nat} {ps : List (List Nat)} {a L : Nat}
theorem PInv.start (h : some.Nodup) : PInv A some some [] := ⟨h, fun _ h => h, fun _ h => (nomatch h), fun _ h => (nomatch h), fun _ h => (nomatch h), fun _ h => .inl h, fun _ h => (nomatch h), fun _ h => (nomatch h)⟩
theorem PInv.done (I : PInv A some [] ps) : IsParts A some ps := ⟨I.ne, I.nd, I.sub, fun x hx => (I.cov x hx).resolve_left (fun h => nomatch h), I.cl⟩
def moreOf (A : List (Nat × Nat)) (left P : List Nat) (a : Nat) : List Nat := left.filter fun b => !decide (b ∈ P) && (decide (a = b) || decide ((a, b) ∈ A))
theorem mem_more {b : Nat} : b ∈ moreOf A left P a ↔ b ∈ left ∧ b ∉ P ∧ (a = b ∨ (a, b) ∈ A) := by
  unfold moreOf
  rw [List.mem_filter]
  simp
theorem QInv.start {x : Nat} (h : x ∈ left) : QInv A left [x] [x] := ⟨by simp, fun y hy => by rw [List.mem_singleton.mp hy]; exact h, fun _ h => h, by simp, fun a ha hn => absurd ha hn⟩
theorem QInv.step (I : QInv A left P (Q ++ [a])) (hl : left.Nodup) : QInv A left (P ++ moreOf A left P a) (Q ++ moreOf A left P a) := by
  refine ⟨?_, fun x hx => ?_, fun x hx => ?_, fun h => I.ne (List.append_eq_nil_iff.mp h).1, fun x hx hn b hb hA => ?_⟩
  · rw [List.nodup_append]
    exact ⟨I.nd, hl.filter _, fun x hx y hy e => (mem_more.mp hy).2.1 (e ▸ hx)⟩
  · rcases List.mem_append.mp hx with h | h
    · exact I.sub x h
    · exact (mem_more.mp h).1
  · rcases List.mem_append.mp hx with h | h
    · exact List.mem_append_left _ (I.q x (List.mem_append_left _ h))
    · exact List.mem_append_right _ h
  · rw [List.mem_append, not_or] at hn
    by_cases hbP : b ∈ P
    · exact List.mem_append_left _ hbP
    · rcases List.mem_append.mp hx with h | h
      · by_cases e : x = a
        · subst e
          exact List.mem_append_right _ (mem_more.mpr ⟨hb, hbP, .inr hA⟩)
        · refine absurd (I.cl x h (fun z => ?_) b hb hA) hbP
          rcases List.mem_append.mp z with z | z
          · exact hn.1 z
          · exact e (List.mem_singleton.mp z)
      · exact absurd h hn.2
theorem QInv.len (I : QInv A left P Q) : P.length ≤ left.length := I.nd.length_le_of_subset fun x hx => I.sub x hx
theorem PInv.step (I : PInv A some left ps) (sym : ∀ a b, (a, b) ∈ A → (b, a) ∈ A) (hL : ∀ x ∈ some, x < L) (J : QInv A left P []) : PInv A some (left.filter fun x => !decide (x ∈ P)) (ps ++ [up L P]) := by
  have hP : ∀ x ∈ P, x < L := fun x hx => hL x (I.lsub x (J.sub x hx))
  have hm : ∀ x, x ∈ up L P ↔ x ∈ P := fun x => mem_up hP
  refine ⟨I.lnd.filter _, fun x hx => I.lsub x (List.mem_filter.mp hx).1, fun p hp => ?_, fun p hp => ?_, fun p hp x hx => ?_, fun x hx => ?_, fun p hp a ha b hb hA => ?_, fun p hp x hx hn => ?_⟩
  · rcases List.mem_append.mp hp with h | h
    · exact I.ne p h
    · rw [List.mem_singleton.mp h]
      obtain ⟨x, hx⟩ := List.exists_mem_of_ne_nil _ J.ne
      exact List.ne_nil_of_mem ((hm x).mpr hx)
  · rcases List.mem_append.mp hp with h | h
    · exact I.nd p h
    · rw [List.mem_singleton.mp h]
      exact up_nodup
  · rcases List.mem_append.mp hp with h | h
    · exact I.sub p h x hx
    · rw [List.mem_singleton.mp h] at hx
      exact I.lsub x (J.sub x ((hm x).mp hx))
  · by_cases hxP : x ∈ P
    · exact .inr ⟨_, List.mem_append_right _ (List.mem_singleton.mpr rfl), (hm x).mpr hxP⟩
    · rcases I.cov x hx with h | ⟨p, hp, h⟩
      · exact .inl (List.mem_filter.mpr ⟨h, by simp [hxP]⟩)
      · exact .inr ⟨p, List.mem_append_left _ hp, h⟩
  · rcases List.mem_append.mp hp with h | h
    · exact I.cl p h a ha b hb hA
    · rw [List.mem_singleton.mp h] at ha ⊢
      rw [hm] at ha ⊢
      rcases I.cov b hb with hbl | ⟨p', hp', hb'⟩
      · exact J.cl a ha (fun z => nomatch z) b hbl hA
      · exact absurd (J.sub a ha) (I.dj p' hp' a (I.cl p' hp' b hb' a (I.lsub a (J.sub a ha)) (sym _ _ hA)))
  · rw [List.mem_filter] at hn
    rcases List.mem_append.mp hp with h | h
    · exact I.dj p h x hx hn.1
    · rw [List.mem_singleton.mp h] at hx
      have := hn.2
      simp [(hm x).mp hx] at this
end HF
set_option maxHeartbeats 400000
namespace HF
open PySem PyProof.Rows L2 Evl
section
variable {w : World} {K : PySem.W.Frag} {mg : Str → Option Value} {base : Heap}
def C_P_parts (K : PySem.W.Frag) : List Ty → Ty → Prop := fun Rs R => ∃ (k : Kst) (some' : List Nat), (∀ a b, (a, b) ∈ k.s.A → (b, a) ∈ k.s.A) ∧ some'.Nodup ∧ (∀ x ∈ some', x < k.s.L) ∧ some'.length < 64 ∧ Rs = [Kee K k, tNs some'] ∧ R = ExT (IsParts k.s.A some') (fun ps => Lst (ps.map tNs))
theorem sc_P_parts : FnScope ["self", "some", "left", "found", "part", "queue", "look", "more", "other"] ["self", "some"] (defScope s_P_parts) := ⟨rfl, rfl, rfl, by decide +kernel, rfl, by decide +kernel, by decide +kernel⟩
theorem ok_P_parts (T : Tx K mg) : FnOk PP w K mg base CX0 2 (He.fAd K d_P_parts.at_) (fdOf K d_P_parts.at_) ["self", "some"] (spR (C_P_parts K)) := by
  have G_B_is_alike := ok_B_is_alike T (w := w) (base := base)
  refine fn_ok T.F_P_parts sc_P_parts (by rintro _ _ ⟨k, sm, h1, h2, h3, h4, rfl, rfl⟩; rfl) fun Rs R hC cdv A outer s H E hr => ?_
  obtain ⟨k, sm, sym, hnd, hlt, hlen, rfl, rfl⟩ := hC
  refine ⟨_, (pss_cons (ps_par (i := 2) (j := 3) (by rfl) sc_P_parts.nd rfl rfl (by decide) rfl rfl (pa_cons (pe_callTy (r := rListA K) call_list_of (by rfl) T.f_list (by decide +kernel) (pa_cons (pv 1) pa_nil)) (pa_cons (pe_lst pa_nil) pa_nil)) (by rfl))
      (pss_cons (ps_while PassesOwn.never (pt_cmpR op_gt (pe_callB (r := rLenA K) call_len_seq (by rfl) T.f_len (by decide +kernel) (pa_cons (pv 2) pa_nil)) pe_int (nomark _)) (pss_cons (ps_asg (pe_tup (pa_cons (pe_slice (r := rSlL K) sl_list (pv 2) po_none (po_some pe_int)) (pa_cons (pe_slice (r := rSlL K) sl_list (pv 2) po_none (po_some pe_int)) pa_nil))) (pg_tupK K 2 rfl (pgs_cons (pg_name (i := 4) sc_P_parts.nd rfl (Or.inr rfl)) (pgs_cons (pg_name (i := 5) sc_P_parts.nd rfl (Or.inl rfl)) pgs_nil))))
      (pss_cons (ps_while PassesOwn.never (pt_cmpR op_gt (pe_callB (r := rLenA K) call_len_seq (by rfl) T.f_len (by decide +kernel) (pa_cons (pv 5) pa_nil)) pe_int (nomark _)) (pss_cons (ps_set (i := 6) sc_P_parts.nd rfl (Or.inr rfl) (pe_bm0 PySem.F.plainAttrs_list PySem.F.slot_list_pop PySem.F.type_list_pop mt_pop (pv 5)))
      (pss_cons (ps_setLc (i := 7) (own := [("other", 8)]) rfl sc_P_parts.nd rfl rfl (sw_true rfl rfl rfl (by decide +kernel)) (pi_listK K (pv 2)) (blkOk_by (N := ["self", "some", "left", "found", "part", "queue", "look", "more", "other"]) (sc := _) (by kernel_rfl)) (fun _ _ _ _ _ => (pg_name (i := 8) sc_P_parts.nd rfl (Or.inl rfl))) (fun _ _ _ _ _ => pts_one (PW.pt (pw_and (pt_cmpR (r := rIn K true) op_notIn_seq (pv 8) (pv 4) (by with_unfolding_all rfl)) (pw_and1 (pt_val (pe_meth (pe_fldK K (pv 0) rfl) T.c_Bonds T.m_B_is_alike G_B_is_alike (hr.mono (by decide)) T.b_B_is_alike .nil pass0 (pa_cons (pv 6) (pa_cons (pv 8) pa_nil)))))))) (fun _ _ _ _ _ => (pv 8)))
      (pss_one (ps_asg (pe_tup (pa_cons (pe_op op_cat (pv 4) (pv 7)) (pa_cons (pe_op op_cat (pv 5) (pv 7)) pa_nil))) (pg_tupK K 2 rfl (pgs_cons (pg_name (i := 4) sc_P_parts.nd rfl (Or.inr rfl)) (pgs_cons (pg_name (i := 5) sc_P_parts.nd rfl (Or.inl rfl)) pgs_nil))))))))
      (pss_cons (ps_setLc (i := 2) (own := [("look", 6)]) rfl sc_P_parts.nd rfl rfl (sw_true rfl rfl rfl (by decide +kernel)) (pi_listK K (pv 2)) (blkOk_by (N := ["self", "some", "left", "found", "part", "queue", "look", "more", "other"]) (sc := _) (by kernel_rfl)) (fun _ _ _ _ _ => (pg_name (i := 6) sc_P_parts.nd rfl (Or.inl rfl))) (fun _ _ _ _ _ => pts_one (pt_cmpR (r := rIn K true) op_notIn_seq (pv 6) (pv 4) (by with_unfolding_all rfl))) (fun _ _ _ _ _ => (pv 6)))
      (pss_one (ps_expr (pe_bmK K PySem.F.plainAttrs_list PySem.F.slot_list_append PySem.F.type_list_append mt_append (pv 3) (pa_cons (pe_callB (r := rSorted K) cr_sorted (by rfl) T.f_sorted (by decide +kernel) (pa_cons (pv 4) pa_nil)) pa_nil))))))))
      (pss_one (ps_ret (pv 3))))), fun e => ?_⟩
  have e1 : ∀ xs : List Nat, cutR (xs.map tN) none (some 1) = (xs.take 1).map tN := fun xs => by rw [cut_one, List.map_take]
  -- left, found = (list(some), [])
  refine hr_parL (Rs := []) (y_listL (y_var rfl)) (yl_lst ya_nil (by show 0 ≤ 100000; decide)) fun f => ?_
  refine hr_seq (N1 := fun Γ' μ' => ∃ ps, IsParts k.s.A sm ps ∧ Wk Γ' [some (Kee K k), some (tNs sm), none, some (Is (.ref f)), none, none, none, none, none] ∧ μ' = M0.and (Cl e f (ps.map tNs))) (hr_while (fun m Γ' μ' => ∃ left ps, m = left.length ∧ ps.length + left.length ≤ 64 ∧ PInv k.s.A sm left ps ∧ left.length < 64 ∧ Wk Γ' [some (Kee K k), some (tNs sm), some (tNs left), some (Is (.ref f)), none, none, none, none, none] ∧ μ' = M0.and (Cl e f (ps.map tNs))) sm.length ⟨sm, [], rfl, by rw [List.length_nil]; omega, PInv.start hnd, hlen, .keep (.keep (.keep (.keep (.skip (.skip (.skip (.skip (.skip .nil)))))))), rfl⟩ ?_) ?_
  · rintro m Γ1 μ1 ⟨left, ps, rfl, hpl, I, hll, wk, rfl⟩
    refine ⟨decide (0 < left.length), fun σ H0 H s => (yt_len0 ((y_lenL (Rs := left.map tN) (y_var rfl)).to (by rw [List.length_map]))) σ H0 H (s.weak wk), fun hpos => ?_, fun hz => ?_⟩
    · refine hr_weak ?_ wk
      obtain ⟨x, l, rfl⟩ : ∃ x l, left = x :: l := by
        cases left with
        | nil => simp at hpos
        | cons x l => exact ⟨x, l, rfl⟩
      -- part, queue = (left[:1], left[:1])
      refine hr_tparLf (RA := tNs [x]) (Rs := [x].map tN) ((y_slL (y_var rfl) yo_none (yo_some y_c)).to (by rw [e1]; rfl)) (fun σ H0 H s Q q => (yl_slL (Rs := (x :: l).map tN) (y_var rfl) yo_none (yo_some y_c)) σ H0 H s Q (by rw [e1]; exact q)) fun q0 hq0 => ?_
      refine hr_seq (N1 := fun Γ' μ' => ∃ P, QInv k.s.A (x :: l) P [] ∧ Wk Γ' [some (Kee K k), some (tNs sm), some (tNs (x :: l)), some (Is (.ref f)), some (tNs P), none, none, none, none] ∧ ∃ μ2, μ' = (M0.and (Cl e f (ps.map tNs))).and μ2) (hr_while (fun m Γ' μ' => ∃ P Q q, f ≠ q ∧ Q.length ≤ P.length ∧ QInv k.s.A (x :: l) P Q ∧ m = Q.length + ((x :: l).length - P.length) ∧ Wk Γ' [some (Kee K k), some (tNs sm), some (tNs (x :: l)), some (Is (.ref f)), some (tNs P), some (Is (.ref q)), none, none, none] ∧ μ' = (M0.and (Cl e f (ps.map tNs))).and (Cl e q (Q.map tN))) _ ⟨[x], [x], q0, hq0, Nat.le_refl _, QInv.start List.mem_cons_self, rfl, .keep (.keep (.keep (.keep (.keep (.keep (.skip (.skip (.skip .nil)))))))), rfl⟩ ?_) ?_
      · rintro m2 Γ2 μ2 ⟨P, Q, q, hfq, hQP, J, rfl, wk2, rfl⟩
        refine ⟨decide (0 < Q.length), fun σ H0 H s => yt_loc (cell_up (k := 5) rfl) (yt_len0 ((y_lenL (Rs := Q.map tN) (y_var rfl)).to (by rw [List.length_map]))) σ H0 H (s.weak wk2), fun hpos2 => ?_, fun hz2 => ?_⟩
        · refine hr_weak ?_ wk2
          obtain ⟨Q', a, rfl⟩ : ∃ Q' a, Q = Q' ++ [a] := by
            have hne : Q ≠ [] := by rintro rfl; simp at hpos2
            exact ⟨Q.dropLast, Q.getLast hne, (List.dropLast_concat_getLast hne).symm⟩
          have eq : (Q' ++ [a]).map tN = Q'.map tN ++ [tN a] := by rw [List.map_append]; rfl
          rw [eq]
          refine hr_pop (k := 5) (l := 6) rfl (M0.off.and (Cl.off hfq)) ?_
          refine hr_set (y_lc (xs := x :: l) (r := tN) (yi_list (y_var rfl)) (by decide) (by omega) (fun b hb => yg_name) (fun b hb => (yt_and (yt_t (y_ninL (ns := P) (y_var rfl) (y_var rfl))) fun h => (yt_B (y_meth (y_fld (y_var rfl) T.c_Keeping T.n_K_own_bonds rfl) rfl (ya_cons (y_var rfl) (ya_cons (y_var rfl) ya_nil)) ⟨k.s, a, b, rfl, rfl⟩)))) (fun b hb hf => (y_var rfl))) ?_
          have J' := J.step I.lnd
          have hl1 := J.len
          have hl2 := J'.len
          rw [List.length_append] at hl2
          have hm : (moreOf k.s.A (x :: l) P a).map tN = (List.filter (fun b => !decide (b ∈ P) && (decide (a = b) || decide ((a, b) ∈ k.s.A))) (x :: l)).map tN := rfl
          rw [← hm]
          rw [List.length_append, List.length_singleton] at hQP
          refine hr_tparLf1 (RA := tNs (P ++ moreOf k.s.A (x :: l) P a)) (Rs := (Q' ++ moreOf k.s.A (x :: l) P a).map tN) ((y_cat (y_var rfl) (y_var rfl) (by rw [List.length_map, List.length_map]; omega)).to (by show Lst _ = Lst _; rw [List.map_append])) (yl_locN (cell_up (k := 5) rfl) (fun σ H0 H s Q q => (yl_cat (Rs := Q'.map tN) (Ss := (moreOf k.s.A (x :: l) P a).map tN) (y_var rfl) (y_var rfl) (by rw [List.length_map, List.length_map]; omega)) σ H0 H s Q (by rw [List.map_append] at q; exact q))) fun q' hq' => ?_
          refine ⟨_, ?_, P ++ moreOf k.s.A (x :: l) P a, Q' ++ moreOf k.s.A (x :: l) P a, q', hq', by rw [List.length_append, List.length_append]; omega, J', rfl, .keep (.keep (.keep (.keep (.keep (.keep (.skip (.skip (.skip .nil)))))))), rfl⟩
          rw [List.length_append, List.length_append, List.length_append]
          simp at hl1 hl2 ⊢
          omega
        · have : Q = [] := by
            cases Q with
            | nil => rfl
            | cons y ys => simp at hz2
          subst this
          exact ⟨P, J, wk2.trans (.keep (.keep (.keep (.keep (.keep (.skip (.skip (.skip (.skip .nil))))))))), _, rfl⟩
      · rintro Γ2 μ2 ⟨P, J, wk2, μ3, rfl⟩
        refine hr_weak (hr_mu (μ' := M0.and (Cl e f (ps.map tNs))) (fun _ _ h => h.1) ?_) wk2
        have hP : ∀ y ∈ P, y < k.s.L := fun y hy => hlt y (I.lsub y (J.sub y hy))
        have hPl : P.length < 64 := Nat.lt_of_le_of_lt J.len hll
        refine hr_set (y_lc (xs := x :: l) (r := tN) (yi_list (y_var rfl)) (by decide) (by omega) (fun b hb => yg_name) (fun b hb => (yt_t (y_ninL (ns := P) (y_var rfl) (y_var rfl)))) (fun b hb hf => (y_var rfl))) ?_
        refine hr_app1 (k := 3) (T := tNs (up k.s.L P)) rfl M0.off (y_sorted (y_var rfl) J.nd hP hPl) (by rw [List.length_map]; omega) ?_
        have hsm : ((x :: l).filter fun b => !decide (b ∈ P)).length < (x :: l).length := by
          refine List.length_filter_lt_length_iff_exists.mpr ?_
          obtain ⟨y, hy⟩ := List.exists_mem_of_ne_nil _ J.ne
          exact ⟨y, J.sub y hy, by simp [hy]⟩
        refine ⟨_, hsm, (x :: l).filter (fun b => !decide (b ∈ P)), ps ++ [up k.s.L P], rfl, by rw [List.length_append, List.length_singleton]; omega, I.step sym hlt J, ?_, .keep (.keep (.keep (.keep (.skip (.skip (.skip (.skip (.skip .nil)))))))), by rw [List.map_append]; rfl⟩
        exact Nat.lt_of_le_of_lt (List.length_filter_le _ _) hll
    · have : left = [] := by
        cases left with
        | nil => rfl
        | cons y ys => simp at hz
      subst this
      exact ⟨ps, I.done, wk.trans (.keep (.keep (.skip (.keep (.skip (.skip (.skip (.skip (.skip .nil))))))))), rfl⟩
  · rintro Γ1 μ1 ⟨ps, hps, wk, rfl⟩
    refine hr_weak ?_ wk
    refine hr_keepC (k := 3) rfl (hr_ret ((y_var rfl).cast (fun v H h => ⟨ps, hps, h⟩)))

end
end HF
set_option maxHeartbeats 200000
namespace HF
open PySem PyProof.Rows L2 Evl
section
variable {Γ Γ' Γ1 : Ctx} {μ μ' : Mt} {R RA RB S : Ty} {Rs Ss R0 : List Ty} {ta tb tc te : TE} {tt tu : TT} {tr : TA} {K : PySem.W.Frag} {b c : Bool} {x y : V} {t u : TS} {N N1 : Ctx → Mt → Prop} {e : Hp × Hp} {k l : Nat} {a f : Addr}
theorem for_core {J : It} {gg : TG} {σ : L2.St} {H1 G1 : Hp} {D : Ends} (Inv : Nat → Ctx → Mt → Prop) (ix : Itx J Rs H1) (g : Gr e.1 e.2 H1 G1) (s : Sx σ H1 G1 Γ μ) (h0 : Inv 0 Γ μ)
    (hs : ∀ i R1 Γi μi, Inv i Γi μi → Rs[i]? = some R1 → ∃ Γg is, YG gg R1 Γi Γg is ∧ Hr e t Γg μi (fun Γ μ => Inv (i + 1) Γ μ) R)
    (nx : ∀ σ' H0' H' Γ' μ', Inv Rs.length Γ' μ' → Gr e.1 e.2 H0' H' → Ex H1 H0' → Sx σ' H0' H' Γ' μ' → D.nx σ' H') (rt : ∀ v H0' H', Gr e.1 e.2 H0' H' → R.r v H0' → D.rt v H') :
    ∃ W : Nat → Nat → L2.St → Hp → Prop, (∃ m, W 0 m σ G1) ∧ ∀ i m σ H, W i m σ H →
      (J.stop i H ∧ D.nx σ H) ∨ (J.go i H ∧ ∃ N : L2.St → Hp → Prop, (∀ σ' H', N σ' H' → ∃ m', m' < m ∧ W (i + 1) m' σ' H') ∧ ∀ x H', J.yld i H x H' → gg x σ H' fun σ2 H2 => t { D with nx := N, ct := N, bk := D.nx } σ2 H2) := by
  refine ⟨fun i m σ' G => i ≤ Rs.length ∧ m = Rs.length - i ∧ ∃ K0 Γi μi, Inv i Γi μi ∧ Gr e.1 e.2 K0 G ∧ Ex H1 K0 ∧ Sx σ' K0 G Γi μi, ⟨Rs.length, Nat.zero_le _, by omega, H1, Γ, μ, h0, g, Ex.refl _, s⟩, ?_⟩
  rintro i m σ' G ⟨hle, rfl, K0, Γi, μi, inv, gG, eK, sG⟩
  by_cases hlt : i < Rs.length
  · have hget : Rs[i]? = some Rs[i] := List.getElem?_eq_getElem hlt
    refine .inr ⟨ix.go i G (eK.trans sG.ex) hlt, fun σ2 G2 => i + 1 ≤ Rs.length ∧ ∃ K0 Γi μi, Inv (i + 1) Γi μi ∧ Gr e.1 e.2 K0 G2 ∧ Ex H1 K0 ∧ Sx σ2 K0 G2 Γi μi, fun σ2 G2 h => ⟨Rs.length - (i + 1), by omega, h.1, rfl, h.2⟩, fun x G' hy => ?_⟩
    obtain ⟨K1, gy, rx⟩ := ix.yl i K0 G x G' eK sG.ex hy Rs[i] hget
    obtain ⟨Γg, is, hg, hb⟩ := hs i Rs[i] Γi μi inv hget
    have s1 := sG.gr gy
    refine hg x σ' K1 G' s1.sl rx gy.p _ fun σ2 s2 _ => ?_
    exact hb σ2 K1 G' _ (gG.trans gy) ⟨s2, gy.p, s1.mu⟩ (fun σ3 K3 G3 Γ3 μ3 n3 g3 x3 s3 => ⟨hlt, K3, Γ3, μ3, n3, g3, (eK.trans gy.e0).trans x3, s3⟩) rt
  · have e : i = Rs.length := by omega
    subst e
    exact .inl ⟨ix.st _ G (eK.trans sG.ex) (Nat.le_refl _), nx σ' K0 G Γi μi inv gG eK sG⟩
theorem itx_list {H1 : Hp} {vs : List V} (h1 : H1 a = some (.lst vs)) (h2 : AllR vs Rs H1) : Itx (Itl K a) Rs H1 := by
  refine ⟨fun i H e hi => ?_, fun i H2 H x H' e e' hy R hR => ?_, fun i H e hi => ⟨vs, sq_of (e a _ h1), by rw [h2.len]; exact hi⟩⟩
  · have hi' : i < vs.length := by rw [h2.len]; exact hi
    exact ⟨vs, vs[i], sq_of (e a _ h1), List.getElem?_eq_getElem hi'⟩
  · obtain ⟨e1, hy⟩ := hy
    subst e1
    exact ⟨H2, Gr.refl e', (h2.m e).get' hR (hy vs (sq_of (e' a _ (e a _ h1))))⟩
/-- over a list of which a word alone is known -/
theorem hr_forEx {α : Type} {P : α → Prop} {r : α → List Ty} {gg : TG} (hY : Y te Γ μ (ExT P fun a => Lst (r a))) (G : α → Nat → Ctx) (Pr : α → Nat → Prop) (h0 : ∀ a, P a → Wk Γ (G a 0) ∧ Pr a 0)
    (hs : ∀ a, P a → ∀ i R1, (r a)[i]? = some R1 → Pr a i → ∃ Γg is, YG gg R1 (G a i) Γg is ∧ Hr e t Γg μ (fun Γ' μ' => Wk Γ' (G a (i + 1)) ∧ μ' = μ ∧ Pr a (i + 1)) R) (hd : ∀ a, P a → Pr a (r a).length → Hr e u (G a (r a).length) μ N R) : Hr e (tSeq (tFor (iList K te) gg t) u) Γ μ N R := fun σ H0 H D g s nx rt =>
  hY σ H0 H s _ fun x H1 G1 g1 ⟨a, pa, l, vs, ex, h1, h2⟩ => by
    subst ex
    refine ⟨l, rfl, ⟨vs, sq_of (g1.p l _ h1)⟩, ?_⟩
    refine for_core (D := { D with nx := u D }) (Γ := Γ) (μ := μ) (fun i Γ' μ' => Wk Γ' (G a i) ∧ μ' = μ ∧ Pr a i) (itx_list h1 h2) (g.trans g1) (s.gr g1) ⟨(h0 a pa).1, rfl, (h0 a pa).2⟩ (fun i R1 Γi μi ⟨w, q, pr⟩ hR => ?_) (fun σ' K0 K1 Γ' μ' ⟨w, q, pr⟩ g' x' s' => ?_) rt
    · subst q
      obtain ⟨Γg, is, k1, k2⟩ := hs a pa i R1 hR pr
      exact ⟨Γg, is, k1.weak w, k2⟩
    · subst q
      exact (hd a pa pr).go g' (g1.e0.trans x') (s'.weak w) nx rt
/-- a callee that is never called -/
theorem FnOk.never {P : Program} {w : World} {mg : Str → Option Value} {base : Heap} {CX : CXT} {k : Nat} {f : Addr} {fd : FuncData} {ps : List Str} : FnOk P w K mg base CX k f fd ps (spR fun _ _ => False) :=
  ⟨fun _ _ _ _ ⟨_, _, _, h, _⟩ => h.elim, fun _ _ _ _ _ _ _ _ _ _ _ _ _ ⟨_, _, _, h, _⟩ => h.elim⟩
theorem hr_setO {A B : Ty} (h : Y te Γ μ (OrT A B)) (n1 : Hr e u (Γ.set k (some A)) μ N R) (n2 : Hr e u (Γ.set k (some B)) μ N R) (hk : k < Γ.length) : Hr e (tSeq (tAsg te (gName k)) u) Γ μ N R := by
  refine hr_set h (hr_orT (k := k) (A := A) (B := B) (by rw [List.getElem?_set_self hk]) ?_ ?_)
  · rw [List.set_set]; exact n1
  · rw [List.set_set]; exact n2
end
end HF
set_option maxHeartbeats 400000
namespace HF
open PySem PyProof.Rows L2 Evl
def Kst.Good (k : Kst) : Prop := ∀ part : List Nat, part ≠ [] → part.Nodup → (∀ x ∈ part, x < k.s.L) → ∃ x ∈ part, k.first part x = true
def Kst.Bad (k : Kst) (i m : Nat) : Prop := i ≠ m ∧ k.stops i m = true ∧ k.stops m i = true ∧ (i, m) ∈ k.s.A
theorem Kst.Bad.not_first {k : Kst} {i m : Nat} (h : k.Bad i m) {part : List Nat} (hi : i ∈ part) (hm : m ∈ part) : k.first part i = false ∧ k.first part m = false := by
  obtain ⟨h1, h2, h3, _⟩ := h
  unfold Kst.first
  refine ⟨?_, ?_⟩
  · have : ((part.filter fun o => !decide (o = i)).any fun o => k.stops i o) = true := List.any_eq_true.mpr ⟨m, List.mem_filter.mpr ⟨hm, by simp; exact fun z => h1 z.symm⟩, h2⟩
    rw [this]; rfl
  · have : ((part.filter fun o => !decide (o = m)).any fun o => k.stops m o) = true := List.any_eq_true.mpr ⟨i, List.mem_filter.mpr ⟨hi, by simp; exact h1⟩, h3⟩
    rw [this]; rfl
section
variable {w : World} {K : PySem.W.Frag} {mg : Str → Option Value} {base : Heap}
abbrev tOpt : Ty := OrT (Is .non) tNN
def C_P_stuck (d : Nat) (K : PySem.W.Frag) : List Ty → Ty → Prop := fun Rs R => ∃ (k : Kst) (sm : List Nat), (∀ a b, (a, b) ∈ k.s.A → (b, a) ∈ k.s.A) ∧ sm.Nodup ∧ (∀ x ∈ sm, x < k.s.L) ∧ sm.length ≤ d ∧ d < 60 ∧ Rs = [Kee K k, tNs sm] ∧
  ((k.Good ∧ R = Is .non) ∨ (∃ i m, k.Bad i m ∧ i ∈ sm ∧ m ∈ sm ∧ R = tNN) ∨ R = tOpt)
theorem sc_P_stuck : FnScope ["self", "some", "part", "found", "rest", "look"] ["self", "some"] (defScope s_P_stuck) := ⟨rfl, rfl, rfl, by decide +kernel, rfl, by decide +kernel, by decide +kernel⟩
theorem stuck_step (T : Tx K mg) (d lv : Nat) (h5 : 5 ≤ lv) (C' : List Ty → Ty → Prop) (G_P_stuck : FnOk PP w K mg base CX0 lv (He.fAd K d_P_stuck.at_) (fdOf K d_P_stuck.at_) ["self", "some"] (spR C')) (hC' : ∀ d', d = d' + 1 → C' = C_P_stuck d' K) :
    FnOk PP w K mg base CX0 (lv + 1) (He.fAd K d_P_stuck.at_) (fdOf K d_P_stuck.at_) ["self", "some"] (spR (C_P_stuck d K)) := by
  have G_P_parts := ok_P_parts T (w := w) (base := base)
  have G_P_firsts := ok_P_firsts T (w := w) (base := base)
  refine fn_ok T.F_P_stuck sc_P_stuck (by rintro _ _ ⟨k, sm, h1, h2, h3, h4, h5, rfl, _⟩; rfl) fun Rs R hC cdv A outer s H E hr => ?_
  obtain ⟨k, sm, sym, hnd, hlt, hlen, hd, rfl, cs⟩ := hC
  refine ⟨_, (pss_cons (ps_for PassesOwn.never rfl (pi_listK K (pe_meth (pv 0) T.c_Keeping T.m_K_parts G_P_parts (hr.mono (by omega)) T.b_P_parts .nil pass0 (pa_cons (pv 1) pa_nil))) (pg_name (i := 2) sc_P_stuck.nd rfl (Or.inl rfl)) (pss_cons (ps_set (i := 3) sc_P_stuck.nd rfl (Or.inr rfl) (pe_meth (pv 0) T.c_Keeping T.m_K_firsts G_P_firsts (hr.mono (by omega)) T.b_P_firsts .nil pass0 (pa_cons (pv 2) pa_nil)))
      (pss_cons (ps_if (pt_cmpR op_eq (pe_callB (r := rLenA K) call_len_seq (by rfl) T.f_len (by decide +kernel) (pa_cons (pv 3) pa_nil)) pe_int (nomark _)) (pss_one (ps_ret (pv 2))) pss_nil)
      (pss_cons (ps_set (i := 4) sc_P_stuck.nd rfl (Or.inl rfl) (pe_meth (pv 0) T.c_Keeping T.m_K_stuck G_P_stuck hr T.b_P_stuck .nil pass0 (pa_cons (pe_lc (own := [("look", 5)]) rfl sc_P_stuck.nd (pi_listK K (pv 2)) (blkOk_by (N := ["self", "some", "part", "found", "rest", "look"]) (sc := _) (by kernel_rfl)) (fun _ _ _ _ _ => (pg_name (i := 5) sc_P_stuck.nd rfl (Or.inl rfl))) (fun _ _ _ _ _ => pts_one (pt_cmpR op_ne (pv 5) (pe_ix (r := rIxL K) ix_list (pv 3) pe_int (fun _ _ => rfl)) (nomark _))) (fun _ _ _ _ _ => (pv 5))) pa_nil)))
      (pss_one (ps_if (pt_cmpR op_notN (pv 4) pe_non (nomark _)) (pss_one (ps_ret (pv 4))) pss_nil))))))
      (pss_one (ps_ret pe_non))), fun e => ?_⟩
  have hparts : Y (tMeth (He.ga K "Keeping") "parts" (spR (C_P_parts K)) [] E0 (tVar 0) (tCons (tVar 1) tNil)) (start0 ["self", "some", "part", "found", "rest", "look"] [Kee K k, tNs sm]) M0 (ExT (IsParts k.s.A sm) fun ps => Lst (ps.map tNs)) := y_meth (y_var rfl) rfl (ya_cons (y_var rfl) ya_nil) ⟨k, sm, sym, hnd, hlt, by omega, rfl, rfl⟩
  -- a part, and what is left of it
  have facts : ∀ ps, IsParts k.s.A sm ps → ∀ p ∈ ps, (∀ x ∈ p, x < k.s.L) ∧ p.length ≤ sm.length := fun ps hps p hp => ⟨fun x hx => hlt x (hps.sub p hp x hx), (hps.nd p hp).length_le_of_subset fun x hx => hps.sub p hp x hx⟩
  have callee : ∀ ps, IsParts k.s.A sm ps → ∀ p ∈ ps, ∀ f0 F, p.filter (k.first p) = f0 :: F → ∀ RC, ((k.Good ∧ RC = Is .non) ∨ (∃ i m, k.Bad i m ∧ i ∈ p.filter (fun x => !decide (x = f0)) ∧ m ∈ p.filter (fun x => !decide (x = f0)) ∧ RC = tNN) ∨ RC = tOpt) →
      C' [Kee K k, tNs (p.filter fun x => !decide (x = f0))] RC := by
    intro ps hps p hp f0 F hF RC hRC
    obtain ⟨hpl, hple⟩ := facts ps hps p hp
    have hf0 : f0 ∈ p := (List.mem_filter.mp (hF ▸ List.mem_cons_self : f0 ∈ p.filter (k.first p))).1
    have hsm : (p.filter fun x => !decide (x = f0)).length < p.length := List.length_filter_lt_length_iff_exists.mpr ⟨f0, hf0, by simp⟩
    obtain ⟨d', rfl⟩ : ∃ d', d = d' + 1 := ⟨d - 1, by omega⟩
    rw [hC' d' rfl]
    exact ⟨k, _, sym, (hps.nd p hp).filter _, fun x hx => hpl x (List.mem_filter.mp hx).1, by omega, by omega, rfl, hRC⟩
  rcases cs with ⟨hg, rfl⟩ | ⟨i0, m0, hb, hi, hm, rfl⟩ | rfl
  · refine hr_forEx hparts (fun ps _ => [some (Kee K k), some (tNs sm), none, none, none, none]) (fun _ _ => True) (fun ps hps => ⟨.keep (.keep (.skip (.skip (.skip (.skip .nil))))), trivial⟩) (fun ps hps i R1 hR pr => ?_) (fun ps hps pr => hr_ret y_c)
    obtain ⟨p, hpi, rfl⟩ := map_get hR
    have hp := List.mem_of_getElem? hpi
    obtain ⟨hpl, hple⟩ := facts ps hps p hp
    refine ⟨_, _, yg_name, hr_set (y_meth (y_var rfl) rfl (ya_cons (y_var rfl) ya_nil) ⟨k, p, hpl, by omega, rfl, rfl⟩)
      (hr_ifr (yt_t (y_eqI (y_lenL (y_var rfl)) y_c)) (fun h => ?_) (fun h => ?_))⟩
    · have hF : p.filter (k.first p) = [] := by
        have : (p.filter (k.first p)).length = 0 := by simpa using h
        exact List.length_eq_zero_iff.mp this
      obtain ⟨x, hx, hf⟩ := hg p (hps.ne p hp) (hps.nd p hp) hpl
      have := List.mem_filter.mpr ⟨hx, hf⟩
      rw [hF] at this
      nomatch this
    · obtain ⟨f0, F, hF⟩ : ∃ f0 F, p.filter (k.first p) = f0 :: F := by
        cases hc : p.filter (k.first p) with
        | nil => rw [hc] at h; simp at h
        | cons f0 F => exact ⟨f0, F, rfl⟩
      have hf0 : k.first p f0 = true := (List.mem_filter.mp (hF ▸ List.mem_cons_self : f0 ∈ p.filter (k.first p))).2
      have hlc : Y (tLc (iList K (tVar 2)) (gName 5) (tTest (tOp rNe (tVar 5) (tOp (rIxL K) (tVar 3) (tC (.int 0))))) (tVar 5) [5]) [some (Kee K k), some (tNs sm), some (tNs p), some (tNs (p.filter (k.first p))), none, none] M0 (tNs (p.filter fun x => !decide (x = f0))) :=
        y_lc (yi_list (y_var rfl)) (by decide) (by omega) (fun x hx => yg_name) (fun x hx => (yt_t (y_neN (y_var rfl) (y_ixL (n := 0) (R := tN f0) (y_var rfl) y_c rfl (by rw [hF]; rfl))))) (fun x hx hf => (y_var rfl))
      exact hr_set (y_meth (y_var rfl) rfl (ya_cons hlc ya_nil) (callee ps hps p hp f0 F hF (Is .non) (.inl ⟨hg, rfl⟩)))
        (hr_if (yt_t (y_notN (b := false) (y_var rfl) (fun v H h => by rw [show v = V.non from h]; rfl))) (fun h => nomatch h) (fun _ => hr_nil ⟨.keep (.keep (.skip (.skip (.skip (.skip .nil))))), rfl, trivial⟩))
  · refine hr_forEx hparts (fun ps _ => [some (Kee K k), some (tNs sm), none, none, none, none]) (fun ps i => ∀ j < i, ∀ q, ps[j]? = some q → i0 ∉ q) (fun ps hps => ⟨.keep (.keep (.skip (.skip (.skip (.skip .nil))))), fun j hj => absurd hj (Nat.not_lt_zero j)⟩) (fun ps hps i R1 hR pr => ?_) (fun ps hps pr => absurd pr (by
      obtain ⟨q, hq, hiq⟩ := hps.cov i0 hi
      obtain ⟨j, hj⟩ := List.mem_iff_getElem?.mp hq
      intro pr
      exact pr j (by rw [List.length_map]; exact (List.getElem?_eq_some_iff.mp hj).1) q hj hiq))
    obtain ⟨p, hpi, rfl⟩ := map_get hR
    have hp := List.mem_of_getElem? hpi
    obtain ⟨hpl, hple⟩ := facts ps hps p hp
    refine ⟨_, _, yg_name, hr_set (y_meth (y_var rfl) rfl (ya_cons (y_var rfl) ya_nil) ⟨k, p, hpl, by omega, rfl, rfl⟩)
      (hr_ifr (yt_t (y_eqI (y_lenL (y_var rfl)) y_c)) (fun h => ?_) (fun h => ?_))⟩
    · have hF : p.filter (k.first p) = [] := by
        have : (p.filter (k.first p)).length = 0 := by simpa using h
        exact List.length_eq_zero_iff.mp this
      exact hr_ret ((y_var (R := tNs p) rfl).cast (fun v H h => by obtain ⟨a, vs, ev, _⟩ := h; rw [ev]; exact fun z => nomatch z))
    · obtain ⟨f0, F, hF⟩ : ∃ f0 F, p.filter (k.first p) = f0 :: F := by
        cases hc : p.filter (k.first p) with
        | nil => rw [hc] at h; simp at h
        | cons f0 F => exact ⟨f0, F, rfl⟩
      have hf0 : k.first p f0 = true := (List.mem_filter.mp (hF ▸ List.mem_cons_self : f0 ∈ p.filter (k.first p))).2
      have hlc : Y (tLc (iList K (tVar 2)) (gName 5) (tTest (tOp rNe (tVar 5) (tOp (rIxL K) (tVar 3) (tC (.int 0))))) (tVar 5) [5]) [some (Kee K k), some (tNs sm), some (tNs p), some (tNs (p.filter (k.first p))), none, none] M0 (tNs (p.filter fun x => !decide (x = f0))) :=
        y_lc (yi_list (y_var rfl)) (by decide) (by omega) (fun x hx => yg_name) (fun x hx => (yt_t (y_neN (y_var rfl) (y_ixL (n := 0) (R := tN f0) (y_var rfl) y_c rfl (by rw [hF]; rfl))))) (fun x hx hf => (y_var rfl))
      by_cases hip : i0 ∈ p
      · have hmp : m0 ∈ p := hps.cl p hp i0 hip m0 hm hb.2.2.2
        obtain ⟨n1, n2⟩ := hb.not_first hip hmp
        have e1 : i0 ≠ f0 := fun z => by rw [z, hf0] at n1; cases n1
        have e2 : m0 ≠ f0 := fun z => by rw [z, hf0] at n2; cases n2
        exact hr_set (y_meth (y_var rfl) rfl (ya_cons hlc ya_nil) (callee ps hps p hp f0 F hF tNN (.inr (.inl ⟨i0, m0, hb, List.mem_filter.mpr ⟨hip, by simpa using e1⟩, List.mem_filter.mpr ⟨hmp, by simpa using e2⟩, rfl⟩))))
          (hr_if (yt_t (y_notN (b := true) (y_var rfl) (fun v H h => by rw [decide_eq_false (show ¬ v = V.non from h)]; rfl))) (fun _ => hr_ret (y_var rfl)) (fun h => nomatch h))
      · have hstep : ∀ j < i + 1, ∀ q, ps[j]? = some q → i0 ∉ q := fun j hj q hq => by
          by_cases e : j < i
          · exact pr j e q hq
          · have : j = i := by omega
            subst this
            rw [hpi] at hq
            cases hq
            exact hip
        exact hr_setO (y_meth (y_var rfl) rfl (ya_cons hlc ya_nil) (callee ps hps p hp f0 F hF tOpt (.inr (.inr rfl))))
          (hr_if (yt_t (y_notN (b := false) (y_var rfl) (fun v H h => by rw [show v = V.non from h]; rfl))) (fun h => nomatch h) (fun _ => hr_nil ⟨.keep (.keep (.skip (.skip (.skip (.skip .nil))))), rfl, hstep⟩))
          (hr_if (yt_t (y_notN (b := true) (y_var rfl) (fun v H h => by rw [decide_eq_false (show ¬ v = V.non from h)]; rfl))) (fun _ => hr_ret (y_var rfl)) (fun h => nomatch h)) (by show 4 < 6; decide)
  · refine hr_forEx hparts (fun ps _ => [some (Kee K k), some (tNs sm), none, none, none, none]) (fun _ _ => True) (fun ps hps => ⟨.keep (.keep (.skip (.skip (.skip (.skip .nil))))), trivial⟩) (fun ps hps i R1 hR pr => ?_) (fun ps hps pr => hr_ret (y_c.cast fun v H h => .inl h))
    obtain ⟨p, hpi, rfl⟩ := map_get hR
    have hp := List.mem_of_getElem? hpi
    obtain ⟨hpl, hple⟩ := facts ps hps p hp
    refine ⟨_, _, yg_name, hr_set (y_meth (y_var rfl) rfl (ya_cons (y_var rfl) ya_nil) ⟨k, p, hpl, by omega, rfl, rfl⟩)
      (hr_ifr (yt_t (y_eqI (y_lenL (y_var rfl)) y_c)) (fun h => ?_) (fun h => ?_))⟩
    · have hF : p.filter (k.first p) = [] := by
        have : (p.filter (k.first p)).length = 0 := by simpa using h
        exact List.length_eq_zero_iff.mp this
      exact hr_ret ((y_var (R := tNs p) rfl).cast (fun v H h => .inr (by obtain ⟨a, vs, ev, _⟩ := h; rw [ev]; exact fun z => nomatch z)))
    · obtain ⟨f0, F, hF⟩ : ∃ f0 F, p.filter (k.first p) = f0 :: F := by
        cases hc : p.filter (k.first p) with
        | nil => rw [hc] at h; simp at h
        | cons f0 F => exact ⟨f0, F, rfl⟩
      have hf0 : k.first p f0 = true := (List.mem_filter.mp (hF ▸ List.mem_cons_self : f0 ∈ p.filter (k.first p))).2
      have hlc : Y (tLc (iList K (tVar 2)) (gName 5) (tTest (tOp rNe (tVar 5) (tOp (rIxL K) (tVar 3) (tC (.int 0))))) (tVar 5) [5]) [some (Kee K k), some (tNs sm), some (tNs p), some (tNs (p.filter (k.first p))), none, none] M0 (tNs (p.filter fun x => !decide (x = f0))) :=
        y_lc (yi_list (y_var rfl)) (by decide) (by omega) (fun x hx => yg_name) (fun x hx => (yt_t (y_neN (y_var rfl) (y_ixL (n := 0) (R := tN f0) (y_var rfl) y_c rfl (by rw [hF]; rfl))))) (fun x hx hf => (y_var rfl))
      exact hr_setO (y_meth (y_var rfl) rfl (ya_cons hlc ya_nil) (callee ps hps p hp f0 F hF tOpt (.inr (.inr rfl))))
          (hr_if (yt_t (y_notN (b := false) (y_var rfl) (fun v H h => by rw [show v = V.non from h]; rfl))) (fun h => nomatch h) (fun _ => hr_nil ⟨.keep (.keep (.skip (.skip (.skip (.skip .nil))))), rfl, trivial⟩))
          (hr_if (yt_t (y_notN (b := true) (y_var rfl) (fun v H h => by rw [decide_eq_false (show ¬ v = V.non from h)]; rfl))) (fun _ => hr_ret ((y_var rfl).cast fun v H h => .inr h)) (fun h => nomatch h)) (by show 4 < 6; decide)
theorem ok_P_stuck (T : Tx K mg) : ∀ d, FnOk PP w K mg base CX0 (6 + d) (He.fAd K d_P_stuck.at_) (fdOf K d_P_stuck.at_) ["self", "some"] (spR (C_P_stuck d K))
  | 0 => stuck_step T 0 5 (Nat.le_refl _) _ (FnOk.never) (fun d' h => by omega)
  | d + 1 => stuck_step T (d + 1) (6 + d) (by omega) _ (ok_P_stuck T d) (fun d' h => by
      have : d = d' := by omega
      rw [this])
end
end HF
set_option maxHeartbeats 200000
namespace HF
open PySem PyProof.Rows L2 Evl
section
variable {Γ Γ' Γ1 : Ctx} {μ μ' : Mt} {R RA RB S : Ty} {Rs Ss R0 : List Ty} {ta tb tc te : TE} {tt tu : TT} {tr : TA} {K : PySem.W.Frag} {b c : Bool} {x : V}
def tTop : Ty := ⟨fun _ _ => True, fun _ _ _ _ _ => trivial⟩
theorem y_lock (h : ∀ σ H0 H, Sx σ H0 H Γ μ → ∃ d u, H d = some u ∧ Mut (some u) ∧ ∀ od, Sl σ (upd H d (.frz od u)) Γ') (hy : Y te Γ' M0 (Is x)) : Y (tLockE te) Γ μ (Is x) := fun σ H0 H s Q q => by
  obtain ⟨d, u, hd, hm, hs⟩ := h σ H0 H s
  refine ⟨d, u, hd, hm, fun od => ?_⟩
  refine hy σ _ _ ⟨hs od, Ex.refl _, trivial⟩ _ fun v K0 G g r => ⟨g.e d _ upd_same, ?_⟩
  refine q v H0 _ (Gr.on s.ex fun a o ha => ?_) r
  by_cases e : a = d
  · subst e
    rw [upd_same, ← ha, hd]
  · rw [upd_ne e]
    exact g.e a o (by rw [upd_ne e]; exact ha)
theorem yi_keys {es : List (Nat × Ty)} (h : Y te Γ μ (DKF es)) : YI (iKeys te) Γ μ (es.map fun p => tN p.1) := fun σ H0 H s P p =>
  h σ H0 H s _ fun x H1 G1 g1 r1 => by
    obtain ⟨a, o, kvs, rfl, h1, h2, h3⟩ := r1
    have hl : kvs.length = es.length := by
      have := congrArg List.length h2
      simpa using this
    refine ⟨a, o, rfl, .inl ⟨kvs, g1.p a _ h1, p _ _ _ g1 ⟨fun i H e hi => ⟨e a _ h1, ?_⟩, fun i H2 H x H' e e' hy R hR => ?_, fun i H e hi => ⟨e a _ h1, ?_⟩⟩⟩⟩
    · rw [List.length_map] at hi; omega
    · obtain ⟨e1, k, v, hk, hx⟩ := hy
      subst e1
      refine ⟨H2, Gr.refl e', ?_⟩
      obtain ⟨q, hq, rfl⟩ : ∃ q, es[i]? = some q ∧ R = tN q.1 := by
        rw [List.getElem?_map] at hR
        cases e : es[i]? with
        | none => rw [e] at hR; cases hR
        | some q => rw [e] at hR; exact ⟨q, rfl, (Option.some.inj hR).symm⟩
      have h4 : (kvs.map (·.1))[i]? = some k := by rw [List.getElem?_map, hk]; rfl
      rw [h2, List.getElem?_map, hq] at h4
      have h5 : (Sum.inl (q.1 : Int) : L2.Key) = k := Option.some.inj h4
      rw [hx, ← h5]
      exact rfl
    · rw [List.length_map] at hi; omega
end
end HF
set_option maxHeartbeats 400000
namespace HF
open PySem PyProof.Rows L2 Evl
section
variable {w : World} {K : PySem.W.Frag} {mg : Str → Option Value} {base : Heap}
def C_K_is_fine (K : PySem.W.Frag) : List Ty → Ty → Prop := fun Rs R => ∃ (k : Kst), (∀ a b, (a, b) ∈ k.s.A → (b, a) ∈ k.s.A) ∧ k.s.es.length ≤ 1000 ∧ k.s.L ≤ 8 ∧ (k.bar.map (·.1)).Nodup ∧ k.bar.length ≤ 1000 ∧ Rs = [Kee K k] ∧
  (((∃ p ∈ k.bar, p.1 ∈ p.2) ∧ R = tBo false) ∨ ((∀ p ∈ k.bar, p.1 ∉ p.2) ∧ k.Good ∧ R = tBo true) ∨ (∃ i m, k.Bad i m ∧ i < k.s.L ∧ m < k.s.L ∧ R = tBo false))
theorem lookup_nodup {bar : List (Nat × List Nat)} {p : Nat × List Nat} (hn : (bar.map (·.1)).Nodup) (hp : p ∈ bar) : bar.lookup p.1 = some p.2 := by
  induction bar with
  | nil => nomatch hp
  | cons q bar ih =>
    obtain ⟨a, l⟩ := q
    rw [List.map_cons, List.nodup_cons] at hn
    rw [List.lookup_cons]
    rcases List.mem_cons.mp hp with rfl | h
    · simp
    · have : p.1 ≠ a := fun z => hn.1 (by rw [← z]; exact List.mem_map_of_mem (f := (·.1)) h)
      have e : (p.1 == a) = false := by simpa using this
      rw [e]
      exact ih hn.2 h
abbrev kFs' (K : PySem.W.Frag) (k : Kst) : List (Str × Ty) := [("own_looks", tTop), ("own_adds", tTop), ("own_bonds", tTop), ("own_unlike", tTop), ("own_barred", DKF (k.bar.map fun p => (p.1, tNs p.2)))]
theorem allR_lock {d : Addr} {o : HO} {H : Hp} (hd : ∀ xs, H d ≠ some (.lst xs)) : ∀ {vs : List V} {bar : List (Nat × List Nat)}, AllR vs (bar.map fun p => tNs p.2) H → AllR vs (bar.map fun p => tNs p.2) (upd H d o)
  | [], [], _ => trivial
  | v :: vs, p :: bar, h => by
    obtain ⟨⟨a, ws, h1, h2, h3⟩, h4⟩ := h
    refine ⟨⟨a, ws, h1, by rw [upd_ne (fun z => hd ws (by rw [← z]; exact h2))]; exact h2, ?_⟩, allR_lock hd h4⟩
    rw [h3.nats]
    exact AllR.ofNats
  | [], _ :: _, h => h.elim
  | _ :: _, [], h => h.elim
theorem sc_K_is_fine : FnScope ["self", "look"] ["self"] (defScope s_K_is_fine) := ⟨rfl, rfl, rfl, by decide +kernel, rfl, by decide +kernel, by decide +kernel⟩
theorem ok_K_is_fine (T : Tx K mg) : FnOk PP w K mg base CX0 15 (He.fAd K d_K_is_fine.at_) (fdOf K d_K_is_fine.at_) ["self"] (spR (C_K_is_fine K)) := by
  have G_P_stuck := ok_P_stuck T (w := w) (base := base) 8
  have G_P_everything := ok_P_everything T (w := w) (base := base)
  refine fn_ok T.F_K_is_fine sc_K_is_fine (by rintro _ _ ⟨k, h1, h2, h3, h4, h5, rfl, _⟩; rfl) fun Rs R hC cdv A outer s H E hr => ?_
  obtain ⟨k, sym, hle, hL, hkeys, hbl, rfl, cs⟩ := hC
  refine ⟨_, (pss_cons (ps_if (pt_val (pe_lock (pe_callB (r := rAny K) (cr_any rfl) (by rfl) T.f_any (by decide +kernel) (pa_cons (pe_lc (own := [("look", 1)]) rfl sc_K_is_fine.nd (pi_keys (pe_fldK K (pv 0) rfl)) (blkOk_by (N := ["self", "look"]) (sc := _) (by kernel_rfl)) (fun _ _ _ _ _ => (pg_name (i := 1) sc_K_is_fine.nd rfl (Or.inl rfl))) (fun _ _ _ _ _ => pts_nil) (fun _ _ _ _ _ => (pe_cmpR (r := rIn K false) op_in_seq (pv 1) (pe_dget (hu_of hr) (pe_fldK K (pv 0) rfl) (pv 1) (fun _ _ => rfl)) (by with_unfolding_all rfl)))) pa_nil)))) (pss_one (ps_ret pe_bl)) pss_nil)
      (pss_one (ps_ret (pe_cmpR op_isN (pe_meth (pv 0) T.c_Keeping T.m_K_stuck G_P_stuck hr T.b_P_stuck .nil pass0 (pa_cons (pe_meth0 (pv 0) T.c_Keeping T.m_K_everything G_P_everything (hr.mono (by decide)) T.b_P_everything .nil pass0) pa_nil)) pe_non (nomark _))))), fun e => ?_⟩
  have hb : ∀ σ H0 H, Sx σ H0 H (start0 ["self", "look"] [Kee K k]) M0 → ∃ d u, H d = some u ∧ Mut (some u) ∧ ∀ od, Sl σ (upd H d (.frz od u)) [some (Ins (He.ga K "Keeping") (kFs' K k)), none] := by
    intro σ H0 H s
    obtain ⟨v, hv, x, dx, fs, rfl, h1, h2, h3⟩ := s.sl.2 0 _ rfl
    have h3' : AllR (fs.map (·.2)) ((kFs K k).map (·.2)) H := AllR.m s.ex h3
    obtain ⟨f1, f2, f3, f4, f5, rfl⟩ : ∃ f1 f2 f3 f4 f5, fs = [f1, f2, f3, f4, f5] := by
      match fs, h2 with
      | [f1, f2, f3, f4, f5], _ => exact ⟨f1, f2, f3, f4, f5, rfl⟩
    obtain ⟨d, kvs, hdv, hd, hk1, hk2⟩ := h3'.2.2.2.2.1
    refine ⟨d, _, hd, trivial, fun od => ⟨s.sl.1, fun i R q => ?_⟩⟩
    match i, q with
    | 0, q =>
      cases q
      have hx := s.ex x _ h1
      refine ⟨_, hv, x, dx, [f1, f2, f3, f4, f5], rfl, by rw [upd_ne (fun z => by rw [z, hd] at hx; cases hx)]; exact hx, h2, trivial, trivial, trivial, trivial, ⟨d, od, kvs, hdv, upd_same, hk1, ?_⟩, trivial⟩
      rw [List.map_map] at hk2 ⊢
      exact allR_lock (fun xs z => by rw [hd] at z; cases z) hk2
    | 1, q => cases q
  have hany : Y (tLockE (tCB (rAny K) (tCons (tLc (iKeys (tFld K (tVar 0) "own_barred")) (gName 1) tYes (tOp (rIn K false) (tVar 1) (tDGet (tFld K (tVar 0) "own_barred") (tVar 1))) [1]) tNil))) (start0 ["self", "look"] [Kee K k]) M0 (tBo (k.bar.any fun p => decide (p.1 ∈ p.2))) := by
    refine y_lock hb (y_any (y_lcA (xs := k.bar) (r := fun p => tN p.1) (is := [1]) ((yi_keys (y_fld (y_var rfl) T.c_Keeping T.n_K_own_barred rfl)).to (by rw [List.map_map]; rfl)) (by decide) (by omega) (fun p hp => yg_name) (fun p hp => ?_)))
    exact y_inL (y_var rfl) (y_dgetR (n := p.1) ((y_fld (y_var rfl) T.c_Keeping T.n_K_own_barred rfl).cast fun _ _ h => DKF.toR h) (y_var rfl) (by rw [lookup_mapv, lookup_nodup hkeys hp]; rfl))
  have hst : ∀ RC, ((k.Good ∧ RC = Is .non) ∨ (∃ i m, k.Bad i m ∧ i ∈ List.range k.s.L ∧ m ∈ List.range k.s.L ∧ RC = tNN) ∨ RC = tOpt) → Y (tMeth (He.ga K "Keeping") "stuck" (spR (C_P_stuck 8 K)) [] E0 (tVar 0) (tCons (tMeth (He.ga K "Keeping") "everything" (spR (C_P_everything K)) [] E0 (tVar 0) tNil) tNil)) (start0 ["self", "look"] [Kee K k]) M0 RC := fun RC h =>
    y_meth (y_var rfl) rfl (ya_cons (y_meth (y_var rfl) rfl ya_nil ⟨k, hle, rfl, rfl⟩) ya_nil) ⟨k, _, sym, List.nodup_range, fun x hx => List.mem_range.mp hx, by rw [List.length_range]; exact hL, by decide, rfl, h⟩
  rcases cs with ⟨⟨p, hp, hpp⟩, rfl⟩ | ⟨hno, hg, rfl⟩ | ⟨i, m, hbad, hi, hm, rfl⟩
  · exact hr_ifr (yt_B hany) (fun _ => hr_ret y_c) (fun h => absurd h (by
      rw [List.any_eq_true.mpr ⟨p, hp, decide_eq_true hpp⟩]
      exact fun z => nomatch z))
  · exact hr_ifr (yt_B hany) (fun h => absurd h (by
      rw [List.any_eq_false.mpr fun p hp => by simpa using hno p hp]
      exact fun z => nomatch z)) (fun _ => hr_ret (y_isN (hst (Is .non) (.inl ⟨hg, rfl⟩)) (fun v H h => by rw [show v = V.non from h]; rfl)))
  · exact hr_ifr (yt_B hany) (fun _ => hr_ret y_c) (fun _ => hr_ret (y_isN (hst tNN (.inr (.inl ⟨i, m, hbad, List.mem_range.mpr hi, List.mem_range.mpr hm, rfl⟩))) (fun v H h => decide_eq_false h)))
end
end HF
set_option maxHeartbeats 400000
namespace HF
open PySem PyProof.Rows L2 Evl
section
variable {Γ Γ' : Ctx} {μ : Mt} {R RA RB S : Ty} {Rs Ss : List Ty} {ta tb tc te : TE} {tt tu : TT} {tr : TA} {K : PySem.W.Frag}
theorem flat_len {α : Type} {F : α → List Ty} {l : List α} (h : ∀ x ∈ l, (F x).length ≤ 200) : (l.flatMap F).length ≤ l.length * 200 := by
  induction l with
  | nil => simp
  | cons a l ih =>
    rw [List.flatMap_cons, List.length_append, List.length_cons]
    have h1 := h a List.mem_cons_self
    have h2 := ih fun x hx => h x (List.mem_cons_of_mem _ hx)
    omega
theorem yl_lc2 {α β : Type} {xs : List α} {ys : α → List β} {r : α → Ty} {r2 : α → β → Ty} {wi wi1 : TI} {g g1 : TG} {vs vs1 is js : List Nat} {Γg : α → Ctx} {Γh : α → β → Ctx} {f : α → β → Bool} {o : α → β → Ty}
    (hi : YI wi Γ μ (xs.map r)) (his : ∀ j ∈ is, j ∈ vs) (hjs : ∀ j ∈ js, j ∈ vs1) (hl : xs.length ≤ 200) (hly : ∀ x ∈ xs, (ys x).length ≤ 200)
    (hg : ∀ x ∈ xs, YG g (r x) (wipeG Γ vs) (Γg x) is) (hi1 : ∀ x ∈ xs, YI wi1 (Γg x) μ ((ys x).map (r2 x))) (hh : ∀ x ∈ xs, ∀ y ∈ ys x, YG g1 (r2 x y) (wipeG (Γg x) vs1) (Γh x y) js)
    (ht : ∀ x ∈ xs, ∀ y ∈ ys x, YT tt (Γh x y) μ (f x y)) (he : ∀ x ∈ xs, ∀ y ∈ ys x, f x y = true → Y te (Γh x y) μ (o x y)) :
    YL (tLc2 wi g tYes wi1 g1 tt te vs vs1) Γ μ (xs.flatMap fun x => ((ys x).filter (f x)).map (o x)) := fun σ H0 H s Q q => by
  refine hi σ H0 H s _ fun J H1 G1 g1' ix => fun D hD => ?_
  have hD0 : H D = none := fresh_back g1'.e hD
  have hF : ∀ x ∈ xs, (((ys x).filter (f x)).map (o x)).length ≤ 200 := fun x hx => by
    rw [List.length_map]
    exact Nat.le_trans (List.length_filter_le _ _) (hly x hx)
  refine ⟨fun i m G => i ≤ xs.length ∧ m = xs.length - i ∧ ∃ K0 vs', Gr H0 H K0 G ∧ Ex H1 K0 ∧ K0 D = none ∧ G D = some (.lst vs') ∧ AllR vs' ((xs.take i).flatMap fun x => ((ys x).filter (f x)).map (o x)) K0, ⟨xs.length, Nat.zero_le _, by omega, H1, [], g1'.trans (Gr.own g1'.p hD), Ex.refl _, fresh_back g1'.p hD, upd_same, by simp [AllR]⟩, ?_⟩
  rintro i m G ⟨hle, rfl, K0, vs', gG, eK, nD, dD, aD⟩
  by_cases hlt : i < xs.length
  · have hget : xs[i]? = some xs[i] := List.getElem?_eq_getElem hlt
    have hmem : xs[i] ∈ xs := List.getElem_mem hlt
    have htake : xs.take (i + 1) = xs.take i ++ [xs[i]] := by rw [List.take_succ, hget]; rfl
    generalize hx : xs[i] = x at hget hmem htake
    refine .inr ⟨ix.go i G (eK.trans gG.p) (by rw [List.length_map]; exact hlt), fun G' => i + 1 ≤ xs.length ∧ ∃ K0 vs', Gr H0 H K0 G' ∧ Ex H1 K0 ∧ K0 D = none ∧ G' D = some (.lst vs') ∧ AllR vs' ((xs.take (i + 1)).flatMap fun x => ((ys x).filter (f x)).map (o x)) K0, fun G' h => ⟨xs.length - (i + 1), by omega, h.1, rfl, h.2⟩, fun v G' hy => ?_⟩
    obtain ⟨K1, gy, rx⟩ := ix.yl i K0 G v G' eK gG.p hy (r x) (by rw [List.getElem?_map, hget]; rfl)
    have nD1 : K1 D = none := gy.f D nD (ne_none dD)
    have d1 : G' D = some (.lst vs') := gy.e D _ dD
    have s1 := (s.gr gG).gr gy
    refine hg _ hmem v (L2.wipe σ vs) K1 G' (s1.sl.wipe vs) rx gy.p _ fun σ2 s2 df2 => ⟨wipe_wipe df2 his, ?_⟩
    have sx2 : Sx σ2 K1 G' (Γg x) μ := ⟨s2, gy.p, s1.mu⟩
    show wi1 σ2 G' _
    refine hi1 _ hmem σ2 K1 G' sx2 _ fun J1 K2 G2 g2 ix2 => ?_
    have gG2 : Gr H0 H K2 G2 := (gG.trans gy).trans g2
    have d2 : G2 D = some (.lst vs') := g2.e D _ d1
    have n2 : K2 D = none := g2.f D nD1 (ne_none d1)
    have eK2 : Ex H1 K2 := (eK.trans gy.e0).trans g2.e0
    refine ⟨fun j m G => j ≤ (ys x).length ∧ m = (ys x).length - j ∧ ∃ L0 vs', Gr H0 H L0 G ∧ Ex K2 L0 ∧ L0 D = none ∧ G D = some (.lst vs') ∧ AllR vs' (((xs.take i).flatMap fun x => ((ys x).filter (f x)).map (o x)) ++ (((ys x).take j).filter (f x)).map (o x)) L0, ⟨(ys x).length, Nat.zero_le _, by omega, K2, vs', gG2, Ex.refl _, n2, d2, by simpa using aD.m (gy.e0.trans g2.e0)⟩, ?_⟩
    rintro j m G3 ⟨hle3, rfl, L0, ws, gG3, eL, nL, dL, aL⟩
    by_cases hlt3 : j < (ys x).length
    · have hget3 : (ys x)[j]? = some (ys x)[j] := List.getElem?_eq_getElem hlt3
      have hmem3 : (ys x)[j] ∈ ys x := List.getElem_mem hlt3
      have htake3 : (ys x).take (j + 1) = (ys x).take j ++ [(ys x)[j]] := by rw [List.take_succ, hget3]; rfl
      generalize hy3 : (ys x)[j] = y at hget3 hmem3 htake3
      refine .inr ⟨ix2.go j G3 (eL.trans gG3.p) (by rw [List.length_map]; exact hlt3), fun G' => j + 1 ≤ (ys x).length ∧ ∃ L0 vs', Gr H0 H L0 G' ∧ Ex K2 L0 ∧ L0 D = none ∧ G' D = some (.lst vs') ∧ AllR vs' (((xs.take i).flatMap fun x => ((ys x).filter (f x)).map (o x)) ++ (((ys x).take (j + 1)).filter (f x)).map (o x)) L0, fun G' h => ⟨(ys x).length - (j + 1), by omega, h.1, rfl, h.2⟩, fun v3 G' hy => ?_⟩
      obtain ⟨L1, gy3, rx3⟩ := ix2.yl j L0 G3 v3 G' eL gG3.p hy (r2 x y) (by rw [List.getElem?_map, hget3]; rfl)
      have nL1 : L1 D = none := gy3.f D nL (ne_none dL)
      have dL1 : G' D = some (.lst ws) := gy3.e D _ dL
      have s3 : Sx σ2 L1 G' (Γg x) μ := by
        have e : Ex K1 L1 := (g2.e0.trans eL).trans gy3.e0
        exact ⟨s2.mono e, gy3.p, (s.gr (gG3.trans gy3)).mu⟩
      refine hh _ hmem _ hmem3 v3 (L2.wipe σ2 vs1) L1 G' (s3.sl.wipe vs1) rx3 gy3.p _ fun σ3 s4 df4 => ⟨wipe_wipe df4 hjs, ?_⟩
      have sx4 : Sx σ3 L1 G' (Γh x y) μ := ⟨s4, gy3.p, s3.mu⟩
      refine ht _ hmem _ hmem3 σ3 L1 G' sx4 _ fun L2' G4 g4 => ?_
      have nL2 := g4.f D nL1 (ne_none dL1)
      have dL2 := g4.e D _ dL1
      cases hf : f x y with
      | true =>
        show te σ3 G4 _
        refine he _ hmem _ hmem3 hf σ3 L2' G4 (sx4.gr g4) _ fun z L3 G5 g5 rz => ?_
        have nL3 := g5.f D nL2 (ne_none dL2)
        have eL3 : Ex L0 L3 := (gy3.e0.trans g4.e0).trans g5.e0
        have len : ws.length ≤ 40000 + 200 := by
          rw [aL.len, List.length_append, List.length_map]
          have h1 := flat_len (F := fun x => ((ys x).filter (f x)).map (o x)) (l := xs.take i) fun x hx => hF x (List.mem_of_mem_take hx)
          have h2 : (xs.take i).length ≤ 200 := by rw [List.length_take]; omega
          have h3 : (((ys x).take j).filter (f x)).length ≤ 200 := Nat.le_trans (List.length_filter_le _ _) (by rw [List.length_take]; have := hly x hmem; omega)
          omega
        refine ⟨ws, g5.e D _ dL2, sz_lt (by omega), by omega, L3, ws ++ [z], (((gG3.trans gy3).trans g4).trans g5).put hD0 nL3, eL.trans eL3, nL3, upd_same, ?_⟩
        rw [htake3, List.filter_append, List.map_append, ← List.append_assoc]
        refine (aL.m eL3).app ?_
        rw [List.filter_cons, hf]
        exact ⟨rz, trivial⟩
      | false =>
        show _ ∧ _
        have eL2 : Ex L0 L2' := gy3.e0.trans g4.e0
        refine ⟨by omega, L2', ws, (gG3.trans gy3).trans g4, eL.trans eL2, nL2, dL2, ?_⟩
        rw [htake3, List.filter_append, List.map_append, List.filter_cons, hf]
        simpa using aL.m eL2
    · have e : j = (ys x).length := by omega
      subst e
      refine .inl ⟨ix2.st _ _ (eL.trans gG3.p) (by rw [List.length_map]; exact Nat.le_refl _), hlt, L0, ws, gG3, eK2.trans eL, nL, dL, ?_⟩
      rw [htake, List.flatMap_append]
      rw [List.take_length] at aL
      simpa using aL
  · have e : i = xs.length := by omega
    subst e
    refine .inl ⟨ix.st _ _ (eK.trans gG.p) (by rw [List.length_map]; exact Nat.le_refl _), ?_⟩
    rw [List.take_length] at aD
    exact q D vs' K0 G gG hD0 nD dD aD
end
end HF
set_option maxHeartbeats 400000
namespace HF
open PySem PyProof.Rows L2 Evl
section
variable {Γ Γ' Γ1 : Ctx} {μ μ' : Mt} {R RA RB S : Ty} {Rs Ss R0 : List Ty} {ta tb tc te : TE} {tr : TA} {K : PySem.W.Frag} {t u : TS} {N N1 : Ctx → Mt → Prop} {e : Hp × Hp} {k l n m : Nat} {a f : Addr}
theorem hr_ext1L {ns ms : List Nat} (hk : Γ[k]? = some (some (Is (.ref a)))) (ho : μ.Off a) (hup : ∀ σ H0 H, Sx σ H0 H Γ (μ.and (Cl e a (ns.map tN))) → Sx σ H H Γ' M0) (h : Y te Γ' M0 (tNs ms)) (hl : (ns.map tN).length + (ms.map tN).length ≤ 100000) (n : N Γ (μ.and (Cl e a (ns.map tN ++ ms.map tN)))) :
    Hr e (tDrop (tBM K "list" rExtend (tVar k) (tCons te tNil))) Γ (μ.and (Cl e a (ns.map tN))) N R := fun σ H0 H D g s nx rt => by
  obtain ⟨v, hv, rv⟩ := s.sl.2 k _ hk
  obtain rfl : v = V.ref a := rv
  obtain ⟨c1, c2, vs, c3, c4⟩ := s.mu.2
  refine ⟨_, hv, .inl ⟨rfl, vs, sq_of c3⟩, ?_⟩
  refine h σ H H (hup σ H0 H s) _ fun y H1 G1 g1 r1 => ?_
  obtain ⟨p, ws, rfl, k1, k2⟩ := r1
  have g0 : Gr H0 H H0 G1 := Gr.on s.ex g1.e
  have c3' := g1.e a _ c3
  refine ⟨a, p, vs, ws, rfl, rfl, c3', g1.p p _ k1, sz_of (by rw [c4.len, k2.len]; exact hl), ?_⟩
  have s1 := s.gr g0
  refine nx σ H0 _ Γ _ n ((g.trans g0).put c1 c2) (Ex.refl _) ⟨s1.sl, fun b o q => ?_, ho _ _ _ s1.mu.1, c1, c2, vs ++ ws, upd_same, c4.app (by rw [k2.nats]; exact AllR.ofNats)⟩
  rw [upd_ne (ne_of_none q c2)]
  exact g0.p b o q
/-- x += e, the last statement -/
theorem hr_augN (hk : Γ[k]? = some (some (tN n))) (h : Y te Γ μ (tN m)) (q : N (Γ.set k (some (tN (n + m)))) μ) : Hr e (tAug k te (ipI fun i j => i + j)) Γ μ N R := fun σ H0 H D g s nx rt => by
  obtain ⟨v, hv, rv⟩ := s.sl.2 k _ hk
  obtain rfl : v = V.int (n : Int) := rv
  refine ⟨_, hv, h σ H0 H s _ fun y H1 G1 g1 r1 => ?_⟩
  refine ⟨(n : Int), (m : Int), rfl, r1, ?_⟩
  refine nx _ H1 G1 _ _ q (g.trans g1) g1.e0 ((s.gr g1).set k ?_)
  show V.int ((n : Int) + (m : Int)) = V.int ((n + m : Nat) : Int)
  rw [Int.natCast_add]
/-- xs[min(l)], l known by a word alone -/
theorem y_ixE {P : List Nat → Prop} {r : List Nat → Ty} (ho : Y ta Γ μ (Lst Rs)) (hl : Y tb Γ μ (ExT P tNs)) (h : ∀ l, P l → l ≠ [] ∧ ∀ m ∈ l, Rs[m]? = some R) : Y (tOp (rIxL K) ta (tCB (rMin K) (tCons tb tNil))) Γ μ R := fun σ H0 H s Q q =>
  ho σ H0 H s _ fun x H1 G1 g1 r1 => hl σ H1 G1 (s.gr g1) _ fun y H2 G2 g2 r2 => by
    obtain ⟨l, pl, b, ws, rfl, k1, k2⟩ := r2
    obtain ⟨hne, hm⟩ := h l pl
    obtain ⟨a, vs, rfl, h1, h2⟩ := (Lst Rs).m _ _ _ g2.e0 r1
    refine ⟨b, l.map fun n : Nat => (n : Int), rfl, ?_, by rw [List.length_map]; exact List.length_pos_iff.mpr hne, fun m hm' _ => ?_⟩
    · rw [← nats_int, ← k2.nats]
      exact sq_of (g2.p b _ k1)
    · obtain ⟨m0, hm0, rfl⟩ := List.mem_map.mp hm'
      obtain ⟨v, hv, rv⟩ := h2.get (hm m0 hm0)
      exact ⟨a, vs, _, v, rfl, rfl, sq_of (g2.p a _ h1), atI_nat hv, q _ _ _ (g1.trans g2) rv⟩
end
section
variable {w : World} {K : PySem.W.Frag} {mg : Str → Option Value} {base : Heap}

def C_A_numbers (K : PySem.W.Frag) : List Ty → Ty → Prop := fun Rs R => ∃ (Fs : List (Str × Ty)) (s : Bst), s.es.length ≤ 1000 ∧ Fs.lookup ("own_bonds" : Str) = some (Bnd K s) ∧ Rs = [Ins (He.ga K "Audience") Fs] ∧ R = tNs (List.range s.L)
def Shown (a : Ast) (sh : List Nat) : Prop := sh.Nodup ∧ (∀ x ∈ sh, x < a.s.L) ∧ sh.length ≤ 64
def PartOf (a : Ast) (l : List Nat) : Prop := l ≠ [] ∧ (∀ x ∈ l, x < a.s.L) ∧ l.length ≤ 100
def C_A_part_of (K : PySem.W.Frag) : List Ty → Ty → Prop := fun Rs R => ∃ (a : Ast) (i : Nat) (sh : List Nat), i < a.s.L ∧ Shown a sh ∧ Rs = [Aud K a, tN i, Tup K (sh.map tN)] ∧ R = ExT (PartOf a) tNs
def C_A_cut (K : PySem.W.Frag) : List Ty → Ty → Prop := fun Rs R => ∃ (a : Ast) (i : Nat) (sh : List Nat), a.s.es.length ≤ 1000 ∧ i < a.s.L ∧ Shown a sh ∧ Rs = [Aud K a, tN i, Tup K (sh.map tN)] ∧ R = tI (-1)
def Ast.ppl (a : Ast) (sh : List Nat) : List Nat := (List.range a.s.n).filter fun p => (a.s.hs p).any fun l => decide (l ∈ sh)
def C_A_people (K : PySem.W.Frag) : List Ty → Ty → Prop := fun Rs R => ∃ (a : Ast) (sh : List Nat), a.s.n ≤ 1000 ∧ (∀ p, p < a.s.n → (a.s.hs p).length ≤ 1000) ∧ Rs = [Aud K a, Tup K (sh.map tN)] ∧ R = Tup K ((a.ppl sh).map tN)
def Ast.pos (a : Ast) (sh : List Nat) : Bool := !(sh.any fun l => ((List.range a.s.L).filter fun n => !decide (n ∈ sh)).any fun n => decide ((l, n) ∈ a.s.B))
def C_A_is_possible (K : PySem.W.Frag) : List Ty → Ty → Prop := fun Rs R => ∃ (a : Ast) (sh : List Nat), a.s.es.length ≤ 1000 ∧ a.s.L ≤ 100 ∧ Shown a sh ∧ Rs = [Aud K a, Tup K (sh.map tN)] ∧ R = tBo (a.pos sh)
def subs (acc : List (List Nat)) : List Nat → List (List Nat)
  | [] => acc
  | n :: ns => subs (acc ++ acc.map fun s => s ++ [n]) ns
def C_A_sets (K : PySem.W.Frag) : List Ty → Ty → Prop := fun Rs R => ∃ (a : Ast), a.s.es.length ≤ 1000 ∧ a.s.L ≤ 8 ∧ a.mark < a.s.L ∧ Rs = [Aud K a] ∧ R = Lst (((subs [[a.mark]] ((List.range a.s.L).drop (a.mark + 1))).filter a.pos).map fun sh => Tup K (sh.map tN))

theorem subs_snoc (p : Nat) : ∀ (ns : List Nat) (acc : List (List Nat)), subs acc (ns ++ [p]) = subs acc ns ++ (subs acc ns).map fun s => s ++ [p]
  | [], _ => rfl
  | n :: ns, acc => by
    show subs (acc ++ acc.map fun s => s ++ [n]) (ns ++ [p]) = _
    rw [subs_snoc p ns]
    rfl
theorem subs_len : ∀ {ns : List Nat} {acc : List (List Nat)}, (subs acc ns).length = acc.length * 2 ^ ns.length
  | [], acc => by simp [subs]
  | n :: ns, acc => by
    show (subs (acc ++ acc.map fun s => s ++ [n]) ns).length = _
    rw [subs_len, List.length_append, List.length_map, List.length_cons, Nat.pow_succ]
    rw [← Nat.two_mul, Nat.mul_comm 2, Nat.mul_assoc, Nat.mul_comm 2]
theorem subs_el : ∀ {ns : List Nat} {acc : List (List Nat)} {m : Nat}, (∀ s ∈ acc, s.length ≤ m) → ∀ s ∈ subs acc ns, s.length ≤ m + ns.length
  | [], acc, m, h, s, hs => h s hs
  | n :: ns, acc, m, h, s, hs => by
    have := subs_el (ns := ns) (acc := acc ++ acc.map fun s => s ++ [n]) (m := m + 1) (fun s hs => by
      rcases List.mem_append.mp hs with h1 | h1
      · have := h s h1; omega
      · obtain ⟨t, ht, rfl⟩ := List.mem_map.mp h1
        have := h t ht
        rw [List.length_append, List.length_singleton]
        omega) s hs
    rw [List.length_cons]
    omega
theorem subs_mem {P : List Nat → Prop} : ∀ {ns : List Nat} {acc : List (List Nat)}, (∀ s ∈ acc, s.Pairwise (· < ·) ∧ ∀ x ∈ s, ∀ n ∈ ns, x < n) → ns.Pairwise (· < ·) → ∀ s ∈ subs acc ns, s.Pairwise (· < ·) ∧ ∀ x ∈ s, (∃ t ∈ acc, x ∈ t) ∨ x ∈ ns
  | [], acc, h, _, s, hs => ⟨(h s hs).1, fun x hx => .inl ⟨s, hs, hx⟩⟩
  | n :: ns, acc, h, hp, s, hs => by
    rw [List.pairwise_cons] at hp
    obtain ⟨h1, h2⟩ := subs_mem (P := P) (ns := ns) (acc := acc ++ acc.map fun s => s ++ [n]) (fun t ht => by
      rcases List.mem_append.mp ht with h1 | h1
      · exact ⟨(h t h1).1, fun x hx m hm => (h t h1).2 x hx m (List.mem_cons_of_mem _ hm)⟩
      · obtain ⟨t', ht', rfl⟩ := List.mem_map.mp h1
        refine ⟨List.pairwise_append.mpr ⟨(h t' ht').1, List.pairwise_singleton _ _, fun x hx y hy => by rw [List.mem_singleton.mp hy]; exact (h t' ht').2 x hx n List.mem_cons_self⟩, fun x hx m hm => ?_⟩
        rcases List.mem_append.mp hx with h3 | h3
        · exact (h t' ht').2 x h3 m (List.mem_cons_of_mem _ hm)
        · rw [List.mem_singleton.mp h3]; exact hp.1 m hm) hp.2 s hs
    refine ⟨h1, fun x hx => ?_⟩
    rcases h2 x hx with ⟨t, ht, hxt⟩ | h3
    · rcases List.mem_append.mp ht with h4 | h4
      · exact .inl ⟨t, h4, hxt⟩
      · obtain ⟨t', ht', rfl⟩ := List.mem_map.mp h4
        rcases List.mem_append.mp hxt with h5 | h5
        · exact .inl ⟨t', ht', h5⟩
        · exact .inr (by rw [List.mem_singleton.mp h5]; exact List.mem_cons_self)
    · exact .inr (List.mem_cons_of_mem _ h3)
theorem drop_lt {L m x : Nat} (h : x ∈ (List.range L).drop (m + 1)) : m < x ∧ x < L := by
  obtain ⟨i, hi⟩ := List.mem_iff_getElem?.mp h
  rw [List.getElem?_drop] at hi
  obtain ⟨h1, h2⟩ := List.getElem?_eq_some_iff.mp hi
  rw [List.getElem_range] at h2
  rw [List.length_range] at h1
  omega
theorem subs_sorted {L m : Nat} (hm : m < L) : ∀ s ∈ subs [[m]] ((List.range L).drop (m + 1)), s.Pairwise (· < ·) ∧ ∀ x ∈ s, m ≤ x ∧ x < L := fun s hs => by
  obtain ⟨h1, h2⟩ := subs_mem (P := fun _ => True) (fun t ht => by
    rw [List.mem_singleton.mp ht]
    exact ⟨List.pairwise_singleton _ _, fun x hx n hn => by rw [List.mem_singleton.mp hx]; exact (drop_lt hn).1⟩) (List.pairwise_lt_range.drop) s hs
  refine ⟨h1, fun x hx => ?_⟩
  rcases h2 x hx with ⟨t, ht, hxt⟩ | h3
  · rw [List.mem_singleton.mp ht] at hxt
    rw [List.mem_singleton.mp hxt]
    omega
  · have := drop_lt h3
    omega
theorem subs_ok {a : Ast} (hL : a.s.L ≤ 8) (hm : a.mark < a.s.L) : ∀ s ∈ subs [[a.mark]] ((List.range a.s.L).drop (a.mark + 1)), Shown a s := fun s hs => by
  obtain ⟨h1, h2⟩ := subs_sorted hm s hs
  refine ⟨h1.imp fun h => Nat.ne_of_lt h, fun x hx => (h2 x hx).2, ?_⟩
  have h3 := subs_el (acc := [[a.mark]]) (ns := (List.range a.s.L).drop (a.mark + 1)) (m := 1) (by simp) s hs
  rw [List.length_drop, List.length_range] at h3
  omega
theorem sc_A_numbers : FnScope ["self"] ["self"] (defScope s_A_numbers) := ⟨rfl, rfl, rfl, by decide +kernel, rfl, by decide +kernel, by decide +kernel⟩
theorem ok_A_numbers (T : Tx K mg) : FnOk PP w K mg base CX0 2 (He.fAd K d_A_numbers.at_) (fdOf K d_A_numbers.at_) ["self"] (spR (C_A_numbers K)) := by
  have G_B_many := ok_B_many T (w := w) (base := base)
  refine fn_ok T.F_A_numbers sc_A_numbers (by rintro _ _ ⟨Fs, s1, hle, hfl, rfl, rfl⟩; rfl) fun Rs R hC cdv A outer s H E hr => ?_
  obtain ⟨Fs, s1, hle, hfl, rfl, rfl⟩ := hC
  refine ⟨_, (pss_one (ps_ret (pe_listRg rfl (by rfl) T.f_list (prg_1 (by rfl) T.f_range (pe_meth0 (pe_fldK K (pv 0) rfl) T.c_Bonds T.m_B_many G_B_many (hr.mono (by decide)) T.b_B_many .nil pass0))))), fun e => ?_⟩
  exact by
    have hL : s1.L ≤ 1000 := Nat.le_trans (looks_le _) hle
    exact hr_ret (y_listRg (y_meth (y_fld (R := Bnd K s1) (y_var rfl) T.c_Audience T.n_A_own_bonds hfl) rfl ya_nil ⟨s1, rfl, rfl⟩) (by omega))

theorem sc_A_part_of : FnScope ["self", "look", "shown", "found", "at", "other"] ["self", "look", "shown"] (defScope s_A_part_of) := ⟨rfl, rfl, rfl, by decide +kernel, rfl, by decide +kernel, by decide +kernel⟩
theorem ok_A_part_of (T : Tx K mg) : FnOk PP w K mg base CX0 2 (He.fAd K d_A_part_of.at_) (fdOf K d_A_part_of.at_) ["self", "look", "shown"] (spR (C_A_part_of K)) := by
  have G_B_is_alike := ok_B_is_alike T (w := w) (base := base)
  refine fn_ok T.F_A_part_of sc_A_part_of (by rintro _ _ ⟨a, i, sh, hi, hs, rfl, rfl⟩; rfl) fun Rs R hC cdv A outer s H E hr => ?_
  obtain ⟨a, i, sh, hi, ⟨hnd, hlt, hsl⟩, rfl, rfl⟩ := hC
  refine ⟨_, (pss_cons (ps_asg (pe_tup (pa_cons (pe_lst (pa_cons (pv 1) pa_nil)) (pa_cons pe_int pa_nil))) (pg_tupK K 2 rfl (pgs_cons (pg_name (i := 3) sc_A_part_of.nd rfl (Or.inr rfl)) (pgs_cons (pg_name (i := 4) sc_A_part_of.nd rfl (Or.inr rfl)) pgs_nil))))
      (pss_cons (ps_while PassesOwn.never (pt_cmpR op_lt (pv 4) (pe_callB (r := rLenA K) call_len_seq (by rfl) T.f_len (by decide +kernel) (pa_cons (pv 3) pa_nil)) (nomark _)) (pss_cons (ps_expr (pe_bmK K PySem.F.plainAttrs_list PySem.F.slot_list_extend PySem.F.type_list_extend mt_extend (pv 3) (pa_cons (pe_lc (own := [("other", 5)]) rfl sc_A_part_of.nd (pi_tupK K (pv 2)) (blkOk_by (N := ["self", "look", "shown", "found", "at", "other"]) (sc := _) (by kernel_rfl)) (fun _ _ _ _ _ => (pg_name (i := 5) sc_A_part_of.nd rfl (Or.inl rfl))) (fun _ _ _ _ _ => pts_one (PW.pt (pw_and (pt_cmpR (r := rIn K true) op_notIn_seq (pv 5) (pv 3) (by with_unfolding_all rfl)) (pw_and1 (pt_val (pe_meth (pe_fldK K (pv 0) rfl) T.c_Bonds T.m_B_is_alike G_B_is_alike (hr.mono (by decide)) T.b_B_is_alike .nil pass0 (pa_cons (pe_ix (r := rIxL K) ix_list (pv 3) (pv 4) (fun _ _ => rfl)) (pa_cons (pv 5) pa_nil)))))))) (fun _ _ _ _ _ => (pv 5))) pa_nil)))
      (pss_one (ps_aug (i := 4) sc_A_part_of.nd rfl (Or.inr rfl) pe_int ip_add))))
      (pss_one (ps_ret (pv 3))))), fun e => ?_⟩
  exact by
    refine hr_tparL0 (Rs := [i].map tN) (y := .int ((0 : Nat) : Int)) (yl_lst (ya_cons (y_var rfl) ya_nil) (by show 1 ≤ 100000; decide)) y_c fun f => ?_
    refine hr_seq (N1 := fun Γ' μ' => ∃ l, PartOf a l ∧ Wk Γ' [some (Aud K a), none, some (Tup K (sh.map tN)), some (Is (.ref f)), none, none] ∧ μ' = M0.and (Cl e f (l.map tN))) (hr_while (fun m Γ' μ' => ∃ l at', l.Nodup ∧ l ≠ [] ∧ (∀ x ∈ l, x ∈ i :: sh) ∧ at' ≤ l.length ∧ m = 1 + sh.length - at' ∧ Wk Γ' [some (Aud K a), none, some (Tup K (sh.map tN)), some (Is (.ref f)), some (tN at'), none] ∧ μ' = M0.and (Cl e f (l.map tN))) _ ⟨[i], 0, by simp, by simp, by simp, by simp, rfl, .keep (.skip (.keep (.keep (.keep (.skip .nil))))), rfl⟩ ?_) ?_
    · rintro m Γ1 μ1 ⟨l, at', hlnd, hlne, hls, hat, rfl, wk, rfl⟩
      have hlen : l.length ≤ 1 + sh.length := by
        have := hlnd.length_le_of_subset fun x hx => hls x hx
        rw [List.length_cons] at this
        omega
      refine ⟨decide (at' < l.length), fun σ H0 H s => yt_loc (cell_up (k := 3) rfl) (yt_t (y_ltN (y_var rfl) ((y_lenL (Rs := l.map tN) (y_var rfl)).to (by rw [List.length_map])))) σ H0 H (s.weak wk), fun hpos => ?_, fun hz => ?_⟩
      · refine hr_weak ?_ wk
        have hlt' : at' < l.length := by simpa using hpos
        have hget : l[at']? = some l[at'] := List.getElem?_eq_getElem hlt'
        generalize l[at'] = v at hget
        have hv : v ∈ l := List.mem_of_getElem? hget
        let more := sh.filter fun b => !decide (b ∈ l) && (decide (v = b) || decide ((v, b) ∈ a.s.A))
        have hmore : Y (tLc (iTup K (tVar 2)) (gName 5) (tAnd (tTest (tOp (rIn K true) (tVar 5) (tVar 3))) (L2.tB (tMeth (He.ga K "Bonds") "is_alike" (spR (C_B_is_alike K)) [] E0 (tFld K (tVar 0) "own_bonds") (tCons (tOp (rIxL K) (tVar 3) (tVar 4)) (tCons (tVar 5) tNil))))) (tVar 5) [5]) [some (Aud K a), none, some (Tup K (sh.map tN)), some (Lst (l.map tN)), some (tN at'), none] M0 (tNs more) :=
          y_lc (xs := sh) (r := tN) (yi_tup (y_var rfl)) (by decide) (by omega) (fun b hb => yg_name) (fun b hb => (yt_and (yt_t (y_ninL (ns := l) (y_var rfl) (y_var rfl))) fun h => (yt_B (y_meth (y_fld (y_var rfl) T.c_Audience T.n_A_own_bonds rfl) rfl (ya_cons (y_ixL (n := at') (R := tN v) (y_var rfl) (y_var rfl) rfl (by rw [List.getElem?_map, hget]; rfl)) (ya_cons (y_var rfl) ya_nil)) ⟨a.s, v, b, rfl, rfl⟩)))) (fun b hb hf => (y_var rfl))
        have hml : more.length ≤ 64 := Nat.le_trans (List.length_filter_le _ _) hsl
        refine hr_seq (N1 := fun Γ' μ' => Γ' = _ ∧ μ' = M0.and (Cl e f ((l ++ more).map tN))) (hr_ext1L (k := 3) rfl M0.off (cell_up (k := 3) rfl) hmore (by rw [List.length_map, List.length_map]; omega) ⟨rfl, by rw [List.map_append]⟩) ?_
        rintro _ _ ⟨rfl, rfl⟩
        refine hr_augN (k := 4) (n := at') (m := 1) rfl y_c ?_
        have hmm : ∀ b, b ∈ more → b ∈ sh ∧ b ∉ l := fun b hb => by
          have := List.mem_filter.mp hb
          simp at this
          exact ⟨this.1, this.2.1⟩
        refine ⟨_, ?_, l ++ more, at' + 1, ?_, ?_, ?_, ?_, rfl, .keep (.skip (.keep (.keep (.keep (.skip .nil))))), rfl⟩
        · omega
        · rw [List.nodup_append]
          exact ⟨hlnd, hnd.filter _, fun x hx y hy z => (hmm y hy).2 (z ▸ hx)⟩
        · exact fun z => hlne (List.append_eq_nil_iff.mp z).1
        · intro x hx
          rcases List.mem_append.mp hx with h | h
          · exact hls x h
          · exact List.mem_cons_of_mem _ (hmm x h).1
        · rw [List.length_append]; omega
      · refine ⟨l, ⟨hlne, fun x hx => ?_, by omega⟩, wk.trans (.keep (.skip (.keep (.keep (.skip (.skip .nil)))))), rfl⟩
        rcases List.mem_cons.mp (hls x hx) with h | h
        · rw [h]; exact hi
        · exact hlt x h
    · rintro Γ1 μ1 ⟨l, hl, wk, rfl⟩
      refine hr_weak ?_ wk
      exact hr_keepC (k := 3) rfl (hr_ret ((y_var (R := tNs l) rfl).cast (fun v H h => ⟨l, hl, h⟩)))

theorem sc_A_cut : FnScope ["self", "look", "shown", "number", "part", "found", "one"] ["self", "look", "shown"] (defScope s_A_cut) := ⟨rfl, rfl, rfl, by decide +kernel, rfl, by decide +kernel, by decide +kernel⟩
theorem ok_A_cut (T : Tx K mg) : FnOk PP w K mg base CX0 3 (He.fAd K d_A_cut.at_) (fdOf K d_A_cut.at_) ["self", "look", "shown"] (spR (C_A_cut K)) := by
  have G_A_part_of := ok_A_part_of T (w := w) (base := base)
  have G_A_numbers := ok_A_numbers T (w := w) (base := base)
  have G_B_is_alike := ok_B_is_alike T (w := w) (base := base)
  refine fn_ok T.F_A_cut sc_A_cut (by rintro _ _ ⟨a, i, sh, hle, hi, hsh, rfl, rfl⟩; rfl) fun Rs R hC cdv A outer s H E hr => ?_
  obtain ⟨a, i, sh, hle, hi, hsh, rfl, rfl⟩ := hC
  refine ⟨_, (pss_cons (ps_par (i := 4) (j := 5) (by rfl) sc_A_cut.nd rfl rfl (by decide) rfl rfl (pa_cons (pe_meth (pv 0) T.c_Audience T.m_A_part_of G_A_part_of (hr.mono (by decide)) T.b_A_part_of .nil pass0 (pa_cons (pv 1) (pa_cons (pv 2) pa_nil))) (pa_cons (pe_lst (pa_cons (pe_un un_neg pe_int) pa_nil)) pa_nil)) (by rfl))
      (pss_cons (ps_for PassesOwn.never rfl (pi_listK K (pe_meth0 (pv 0) T.c_Audience T.m_A_numbers G_A_numbers (hr.mono (by decide)) T.b_A_numbers .nil pass0)) (pg_name (i := 3) sc_A_cut.nd rfl (Or.inr rfl)) (pss_one (ps_if (PW.pt (pw_and (pt_cmpR (r := rIn K true) op_notIn_seq (pv 3) (pv 2) (by with_unfolding_all rfl)) (pw_and1 (pt_val (pe_callB (r := rAny K) (cr_any rfl) (by rfl) T.f_any (by decide +kernel) (pa_cons (pe_lc (own := [("one", 6)]) rfl sc_A_cut.nd (pi_listK K (pv 4)) (blkOk_by (N := ["self", "look", "shown", "number", "part", "found", "one"]) (sc := _) (by kernel_rfl)) (fun _ _ _ _ _ => (pg_name (i := 6) sc_A_cut.nd rfl (Or.inl rfl))) (fun _ _ _ _ _ => pts_nil) (fun _ _ _ _ _ => (pe_meth (pe_fldK K (pv 0) rfl) T.c_Bonds T.m_B_is_alike G_B_is_alike (hr.mono (by decide)) T.b_B_is_alike .nil pass0 (pa_cons (pv 3) (pa_cons (pv 6) pa_nil))))) pa_nil)))))) (pss_one (ps_expr (pe_bmK K PySem.F.plainAttrs_list PySem.F.slot_list_append PySem.F.type_list_append mt_append (pv 5) (pa_cons (pe_ix (r := rIxL K) ix_list (pe_fldK K (pv 0) rfl) (pv 3) (fun _ _ => rfl)) pa_nil)))) pss_nil)))
      (pss_one (ps_ret (pe_callB (r := rMax K) (cr_max rfl) (by rfl) T.f_max (by decide +kernel) (pa_cons (pv 5) pa_nil)))))), fun e => ?_⟩
  exact by
    have hL : a.s.L ≤ 1000 := Nat.le_trans (looks_le _) hle
    refine hr_parL (RA := ExT (PartOf a) tNs) (Rs := [tI (-1)]) (y_meth (y_var rfl) rfl (ya_cons (y_var rfl) (ya_cons (y_var rfl) ya_nil)) ⟨a, i, sh, hi, hsh, rfl, rfl⟩) (yl_lst (ya_cons (y_neg y_c) ya_nil) (by show 1 ≤ 100000; decide)) fun f => ?_
    refine hr_exi (k := 4) rfl fun l hl => ?_
    refine hr_seq (N1 := fun Γ' μ' => ∃ j, j ≤ a.s.L ∧ Wk Γ' [some (Aud K a), none, some (Tup K (sh.map tN)), none, some (tNs l), some (Is (.ref f)), none] ∧ μ' = M0.and (Cl e f (List.replicate (j + 1) (tI (-1))))) (hr_for (fun i Γ' μ' => ∃ j, j ≤ i ∧ Wk Γ' [some (Aud K a), none, some (Tup K (sh.map tN)), none, some (tNs l), some (Is (.ref f)), none] ∧ μ' = M0.and (Cl e f (List.replicate (j + 1) (tI (-1))))) (yi_list (y_meth (y_var rfl) rfl ya_nil ⟨aFs K a, a.s, hle, rfl, rfl, rfl⟩)) ⟨0, Nat.le_refl _, .keep (.skip (.keep (.skip (.keep (.keep (.skip .nil)))))), rfl⟩ ?_ ?_) ?_
    · rintro j R1 Γi μi ⟨c, hc, wk, rfl⟩ hR
      obtain ⟨p, hp, rfl⟩ := map_get hR
      have hpj : p = j := by
        have := List.getElem?_eq_some_iff.mp hp
        obtain ⟨h1, h2⟩ := this
        rw [List.getElem_range] at h2
        exact h2.symm
      have hjl : j < a.s.L := by
        have := (List.getElem?_eq_some_iff.mp hp).1
        rwa [List.length_range] at this
      subst hpj
      refine ⟨_, _, YG.weak wk yg_name, hr_if (yt_and (yt_t (y_ninT (ns := sh) (y_var rfl) (y_var rfl))) fun h => (yt_B (y_any (y_lcA (xs := l) (r := tN) (yi_list (y_var rfl)) (by decide) (by have := hl.2.2; omega) (fun x hx => yg_name) (fun x hx => (y_meth (y_fld (y_var rfl) T.c_Audience T.n_A_own_bonds rfl) rfl (ya_cons (y_var rfl) (ya_cons (y_var rfl) ya_nil)) ⟨a.s, _, _, rfl, rfl⟩)))))) (fun h => ?_) (fun h => hr_nil ⟨c, by omega, .keep (.skip (.keep (.skip (.keep (.keep (.skip .nil)))))), rfl⟩)⟩
      refine hr_app1 (k := 5) (T := tI (-1)) rfl M0.off (y_ixL (n := p) (y_fld (y_var rfl) T.c_Audience T.n_A_own_newest rfl) (y_var rfl) rfl (by rw [List.getElem?_map, List.getElem?_range hjl]; rfl)) (by rw [List.length_replicate]; omega) ⟨c + 1, by omega, .keep (.skip (.keep (.skip (.keep (.keep (.skip .nil)))))), by rw [List.replicate_succ' (n := c + 1)]⟩
    · rintro Γn μn ⟨j, hj, wk, rfl⟩
      rw [List.length_map, List.length_range] at hj
      exact ⟨j, hj, wk, rfl⟩
    · rintro Γ1 μ1 ⟨j, hj, wk, rfl⟩
      refine hr_weak ?_ wk
      refine hr_keepC (k := 5) rfl (hr_ret (y_max (ns := List.replicate (j + 1) (-1)) ((y_var (R := Lst (List.replicate (j + 1) (tI (-1)))) rfl).to (by rw [List.map_replicate])) (by simp) (fun y hy => by rw [List.eq_of_mem_replicate hy]; exact Int.le_refl _)))

theorem sc_A_people : FnScope ["self", "shown", "everybody", "person", "look"] ["self", "shown"] (defScope s_A_people) := ⟨rfl, rfl, rfl, by decide +kernel, rfl, by decide +kernel, by decide +kernel⟩
theorem ok_A_people (T : Tx K mg) : FnOk PP w K mg base CX0 2 (He.fAd K d_A_people.at_) (fdOf K d_A_people.at_) ["self", "shown"] (spR (C_A_people K)) := by
  have G_B_has := ok_B_has T (w := w) (base := base)
  refine fn_ok T.F_A_people sc_A_people (by rintro _ _ ⟨a, sh, hn, hhs, rfl, rfl⟩; rfl) fun Rs R hC cdv A outer s H E hr => ?_
  obtain ⟨a, sh, hn, hhs, rfl, rfl⟩ := hC
  refine ⟨_, (pss_cons (ps_set (i := 2) sc_A_people.nd rfl (Or.inl rfl) (pe_listRg rfl (by rfl) T.f_list (prg_1 (by rfl) T.f_range (pe_fldK K (pv 0) rfl))))
      (pss_one (ps_ret (pe_callTy (r := rTupA K) call_tuple_of (by rfl) T.f_tuple (by decide +kernel) (pa_cons (pe_lc (own := [("person", 3)]) rfl sc_A_people.nd (pi_listK K (pv 2)) (blkOk_by (N := ["self", "shown", "everybody", "person", "look"]) (sc := _) (by kernel_rfl)) (fun _ _ _ _ _ => (pg_name (i := 3) sc_A_people.nd rfl (Or.inl rfl))) (fun _ _ _ _ _ => pts_one (pt_val (pe_callB (r := rAny K) (cr_any rfl) (by rfl) T.f_any (by decide +kernel) (pa_cons (pe_lc (own := [("look", 4)]) rfl sc_A_people.nd (pi_listK K (pe_meth (pe_fldK K (pv 0) rfl) T.c_Bonds T.m_B_has G_B_has (hr.mono (by decide)) T.b_B_has .nil pass0 (pa_cons (pv 3) pa_nil))) (blkOk_by (N := ["self", "shown", "everybody", "person", "look"]) (sc := _) (by kernel_rfl)) (fun _ _ _ _ _ => (pg_name (i := 4) sc_A_people.nd rfl (Or.inl rfl))) (fun _ _ _ _ _ => pts_nil) (fun _ _ _ _ _ => (pe_cmpR (r := rIn K false) op_in_seq (pv 4) (pv 1) (by with_unfolding_all rfl)))) pa_nil)))) (fun _ _ _ _ _ => (pv 3))) pa_nil))))), fun e => ?_⟩
  exact by
    refine hr_set (y_listRg (y_fld (y_var rfl) T.c_Audience T.n_A_own_people rfl) (by omega)) (hr_ret (y_tupL (y_lc (xs := List.range a.s.n) (r := tN) (yi_list (y_var rfl)) (by decide) (by rw [List.length_range]; omega) (fun x hx => yg_name) (fun x hx => (yt_B (y_any (y_lcA (xs := a.s.hs x) (r := tN) (yi_list (y_meth (y_fld (y_var rfl) T.c_Audience T.n_A_own_bonds rfl) rfl (ya_cons (y_var rfl) ya_nil) ⟨a.s, x, List.mem_range.mp hx, rfl, rfl⟩)) (by decide) (by have := hhs x (List.mem_range.mp hx); omega) (fun x hx => yg_name) (fun x hx => (y_inT (y_var rfl) (y_var rfl))))))) (fun x hx hf => (y_var rfl)))))

theorem sc_A_is_possible : FnScope ["self", "shown", "rest", "number", "look"] ["self", "shown"] (defScope s_A_is_possible) := ⟨rfl, rfl, rfl, by decide +kernel, rfl, by decide +kernel, by decide +kernel⟩
theorem ok_A_is_possible (T : Tx K mg) : FnOk PP w K mg base CX0 4 (He.fAd K d_A_is_possible.at_) (fdOf K d_A_is_possible.at_) ["self", "shown"] (spR (C_A_is_possible K)) := by
  have G_A_numbers := ok_A_numbers T (w := w) (base := base)
  have G_A_cut := ok_A_cut T (w := w) (base := base)
  have G_A_part_of := ok_A_part_of T (w := w) (base := base)
  have G_B_is_below := ok_B_is_below T (w := w) (base := base)
  refine fn_ok T.F_A_is_possible sc_A_is_possible (by rintro _ _ ⟨a, sh, hle, hL, hsh, rfl, rfl⟩; rfl) fun Rs R hC cdv A outer s H E hr => ?_
  obtain ⟨a, sh, hle, hL, hsh, rfl, rfl⟩ := hC
  refine ⟨_, (pss_cons (ps_set (i := 2) sc_A_is_possible.nd rfl (Or.inr rfl) (pe_lc (own := [("number", 3)]) rfl sc_A_is_possible.nd (pi_listK K (pe_meth0 (pv 0) T.c_Audience T.m_A_numbers G_A_numbers (hr.mono (by decide)) T.b_A_numbers .nil pass0)) (blkOk_by (N := ["self", "shown", "rest", "number", "look"]) (sc := _) (by kernel_rfl)) (fun _ _ _ _ _ => (pg_name (i := 3) sc_A_is_possible.nd rfl (Or.inl rfl))) (fun _ _ _ _ _ => pts_one (pt_cmpR (r := rIn K true) op_notIn_seq (pv 3) (pv 1) (by with_unfolding_all rfl))) (fun _ _ _ _ _ => (pv 3))))
      (pss_cons (ps_if (pt_val (pe_callB (r := rAny K) (cr_any rfl) (by rfl) T.f_any (by decide +kernel) (pa_cons (pe_lc2 (own := [("look", 4), ("number", 3)]) (vs1 := [3]) rfl sc_A_is_possible.nd (pi_tupK K (pv 1)) (blkOk_by (N := ["self", "shown", "rest", "number", "look"]) (sc := _) (by kernel_rfl)) (by decide) (fun _ _ _ _ _ => (pg_name (i := 4) sc_A_is_possible.nd rfl (Or.inl rfl))) (fun _ _ _ _ _ => pts_nil) (fun _ _ _ _ _ => (pi_listK K (pv 2))) (fun _ _ _ _ _ => (pg_name (i := 3) sc_A_is_possible.nd rfl (Or.inl rfl))) (fun _ _ _ _ _ => pts_nil) (fun _ _ _ _ _ => (pe_meth (pe_fldK K (pv 0) rfl) T.c_Bonds T.m_B_is_below G_B_is_below (hr.mono (by decide)) T.b_B_is_below .nil pass0 (pa_cons (pv 4) (pa_cons (pv 3) pa_nil))))) pa_nil))) (pss_one (ps_ret pe_bl)) pss_nil)
      (pss_one (ps_ret (pe_callB (r := rAll K) (cr_all rfl) (by rfl) T.f_all (by decide +kernel) (pa_cons (pe_lc (own := [("look", 4)]) rfl sc_A_is_possible.nd (pi_tupK K (pv 1)) (blkOk_by (N := ["self", "shown", "rest", "number", "look"]) (sc := _) (by kernel_rfl)) (fun _ _ _ _ _ => (pg_name (i := 4) sc_A_is_possible.nd rfl (Or.inl rfl))) (fun _ _ _ _ _ => pts_nil) (fun _ _ _ _ _ => (pe_cmpR op_lt (pe_meth (pv 0) T.c_Audience T.m_A_cut G_A_cut (hr.mono (by decide)) T.b_A_cut .nil pass0 (pa_cons (pv 4) (pa_cons (pv 1) pa_nil))) (pe_ix (r := rIxL K) ix_list (pe_fldK K (pv 0) rfl) (pe_callB (r := rMin K) (cr_min rfl) (by rfl) T.f_min (by decide +kernel) (pa_cons (pe_meth (pv 0) T.c_Audience T.m_A_part_of G_A_part_of (hr.mono (by decide)) T.b_A_part_of .nil pass0 (pa_cons (pv 4) (pa_cons (pv 1) pa_nil))) pa_nil)) (fun _ _ => rfl)) (nomark _)))) pa_nil)))))), fun e => ?_⟩
  exact by
    have hre : ((List.range a.s.L).filter fun n => !decide (n ∈ sh)).length ≤ 100 := Nat.le_trans (List.length_filter_le _ _) (by rw [List.length_range]; exact hL)
    refine hr_set (y_lc (xs := List.range a.s.L) (r := tN) (yi_list (y_meth (y_var rfl) rfl ya_nil ⟨aFs K a, a.s, hle, rfl, rfl, rfl⟩)) (by decide) (by rw [List.length_range]; omega) (fun x hx => yg_name) (fun x hx => (yt_t (y_ninT (ns := sh) (y_var rfl) (y_var rfl)))) (fun x hx hf => (y_var rfl))) ?_
    refine hr_ifr (b := !(a.pos sh)) (yt_B (Y.to (y_any (xs := sh.flatMap fun x => ((List.range a.s.L).filter fun n => !decide (n ∈ sh)).map fun y => (x, y)) (f := fun p => decide (p ∈ a.s.B)) (Y.to (YL.yy (yl_lc2 (xs := sh) (ys := fun _ => (List.range a.s.L).filter fun n => !decide (n ∈ sh)) (r := tN) (r2 := fun _ => tN) (f := fun _ _ => true) (o := fun x y => tBo (decide ((x, y) ∈ a.s.B))) (yi_tup (y_var rfl)) (by decide) (by decide) (by have := hsh.2.2; omega) (fun x hx => by omega) (fun x hx => yg_name) (fun x hx => (yi_list (y_var rfl))) (fun x hx y hy => yg_name) (fun x hx y hy => yt_yes) (fun x hx y hy _ => (y_meth (y_fld (y_var rfl) T.c_Audience T.n_A_own_bonds rfl) rfl (ya_cons (y_var rfl) (ya_cons (y_var rfl) ya_nil)) ⟨a.s, x, y, rfl, rfl⟩)))) ?_)) ?_)) (fun h => hr_ret (y_c.to ?_)) (fun h => hr_ret (Y.to (y_all (xs := sh) (f := fun _ => true) (y_lcA (xs := sh) (r := tN) (yi_tup (y_var rfl)) (by decide) (by have := hsh.2.2; omega) (fun x hx => yg_name) (fun x hx => ?_))) ?_))
    · rw [List.map_flatMap]
      refine congrArg Lst (congrArg (fun F => List.flatMap F sh) (funext fun x => ?_))
      rw [List.filter_eq_self.mpr fun _ _ => rfl, List.map_map]
      rfl
    · refine congrArg tBo ?_
      unfold Ast.pos
      rw [Bool.not_not, List.any_flatMap]
      refine congrArg (fun F => List.any sh F) (funext fun x => ?_)
      rw [List.any_map]
      rfl
    · have : a.pos sh = false := by simpa using h
      rw [this]
    · have hx' := hsh.2.1 x hx
      refine ((y_lt (i := -1) (j := ((0 : Nat) : Int)) (y_meth (y_var rfl) rfl (ya_cons (y_var rfl) (ya_cons (y_var rfl) ya_nil)) ⟨a, x, sh, hle, hx', hsh, rfl, rfl⟩) (y_ixE (P := PartOf a) (r := tNs) (y_fld (y_var rfl) T.c_Audience T.n_A_own_before rfl) (y_meth (y_var rfl) rfl (ya_cons (y_var rfl) (ya_cons (y_var rfl) ya_nil)) ⟨a, x, sh, hx', hsh, rfl, rfl⟩) ?_)).to ?_)
      · exact fun l hl => ⟨hl.1, fun m hm => by rw [List.getElem?_map, List.getElem?_range (hl.2.1 m hm)]; rfl⟩
      · rfl
    · have : a.pos sh = true := by simpa using h
      rw [this, List.all_eq_true.mpr fun _ _ => rfl]

theorem sc_A_sets : FnScope ["self", "found", "number", "shown"] ["self"] (defScope s_A_sets) := ⟨rfl, rfl, rfl, by decide +kernel, rfl, by decide +kernel, by decide +kernel⟩
theorem ok_A_sets (T : Tx K mg) : FnOk PP w K mg base CX0 5 (He.fAd K d_A_sets.at_) (fdOf K d_A_sets.at_) ["self"] (spR (C_A_sets K)) := by
  have G_A_numbers := ok_A_numbers T (w := w) (base := base)
  have G_A_is_possible := ok_A_is_possible T (w := w) (base := base)
  refine fn_ok T.F_A_sets sc_A_sets (by rintro _ _ ⟨a, hle, hL, hm, rfl, rfl⟩; rfl) fun Rs R hC cdv A outer s H E hr => ?_
  obtain ⟨a, hle, hL, hm, rfl, rfl⟩ := hC
  refine ⟨_, (pss_cons (ps_set (i := 1) sc_A_sets.nd rfl (Or.inl rfl) (pe_lst (pa_cons (pe_tup (pa_cons (pe_fldK K (pv 0) rfl) pa_nil)) pa_nil)))
      (pss_cons (ps_for PassesOwn.never rfl (pi_listK K (pe_slice (r := rSlL K) sl_list (pe_meth0 (pv 0) T.c_Audience T.m_A_numbers G_A_numbers (hr.mono (by decide)) T.b_A_numbers .nil pass0) (po_some (pe_op op_add (pe_fldK K (pv 0) rfl) pe_int)) po_none)) (pg_name (i := 2) sc_A_sets.nd rfl (Or.inr rfl)) (pss_one (ps_set (i := 1) sc_A_sets.nd rfl (Or.inl rfl) (pe_op op_cat (pv 1) (pe_lc (own := [("shown", 3)]) rfl sc_A_sets.nd (pi_listK K (pv 1)) (blkOk_by (N := ["self", "found", "number", "shown"]) (sc := _) (by kernel_rfl)) (fun _ _ _ _ _ => (pg_name (i := 3) sc_A_sets.nd rfl (Or.inl rfl))) (fun _ _ _ _ _ => pts_nil) (fun _ _ _ _ _ => (pe_op (r := rCatA K) op_catA (pv 3) (pe_tup (pa_cons (pv 2) pa_nil)))))))))
      (pss_one (ps_ret (pe_lc (own := [("shown", 3)]) rfl sc_A_sets.nd (pi_listK K (pv 1)) (blkOk_by (N := ["self", "found", "number", "shown"]) (sc := _) (by kernel_rfl)) (fun _ _ _ _ _ => (pg_name (i := 3) sc_A_sets.nd rfl (Or.inl rfl))) (fun _ _ _ _ _ => pts_one (pt_val (pe_meth (pv 0) T.c_Audience T.m_A_is_possible G_A_is_possible (hr.mono (by decide)) T.b_A_is_possible .nil pass0 (pa_cons (pv 3) pa_nil)))) (fun _ _ _ _ _ => (pv 3))))))), fun e => ?_⟩
  exact by
    refine hr_set (RA := Lst ([[a.mark]].map fun sh => Tup K (sh.map tN))) (y_lst (ya_cons (y_tup (ya_cons (y_fld (y_var rfl) T.c_Audience T.n_A_own_mark rfl) ya_nil) (by show 1 ≤ 100000; decide)) ya_nil) (by show 1 ≤ 100000; decide)) ?_
    have hds : ((List.range a.s.L).drop (a.mark + 1)).length ≤ 8 := by rw [List.length_drop, List.length_range]; omega
    have hlast := subs_ok (a := a) hL hm
    refine hr_seq (N1 := fun Γ' μ' => Wk Γ' [some (Aud K a), some (Lst ((subs [[a.mark]] ((List.range a.s.L).drop (a.mark + 1))).map fun sh => Tup K (sh.map tN))), none, none] ∧ μ' = M0) (hr_for (fun i Γ' μ' => Wk Γ' [some (Aud K a), some (Lst ((subs [[a.mark]] (((List.range a.s.L).drop (a.mark + 1)).take i)).map fun sh => Tup K (sh.map tN))), none, none] ∧ μ' = M0) (yi_list (Rs := ((List.range a.s.L).drop (a.mark + 1)).map tN) (Y.to (y_slL (Rs := (List.range a.s.L).map tN) (y_meth (y_var rfl) rfl ya_nil ⟨aFs K a, a.s, hle, rfl, rfl, rfl⟩) (yo_some (y_addN (n := a.mark) (m := 1) (y_fld (y_var rfl) T.c_Audience T.n_A_own_mark rfl) y_c)) yo_none) (by rw [cut_from, ← List.map_drop]))) ⟨.keep (.keep (.skip (.skip .nil))), rfl⟩ ?_ ?_) ?_
    · rintro i R1 Γi μi ⟨wk, rfl⟩ hR
      obtain ⟨p, hp, rfl⟩ := map_get hR
      have hi8 : i < 8 := Nat.lt_of_lt_of_le (List.getElem?_eq_some_iff.mp hp).1 hds
      have htake : ((List.range a.s.L).drop (a.mark + 1)).take (i + 1) = ((List.range a.s.L).drop (a.mark + 1)).take i ++ [p] := by rw [List.take_succ, hp]; rfl
      have hcnt := subs_len (acc := [[a.mark]]) (ns := ((List.range a.s.L).drop (a.mark + 1)).take i) 
      have hc2 : 2 ^ (((List.range a.s.L).drop (a.mark + 1)).take i).length ≤ 2 ^ 8 := Nat.pow_le_pow_right (by decide) (by rw [List.length_take]; omega)
      rw [List.length_singleton] at hcnt
      refine ⟨_, _, YG.weak wk yg_name, hr_set1 (RA := Lst ((subs [[a.mark]] (((List.range a.s.L).drop (a.mark + 1)).take (i + 1))).map fun sh : List Nat => Tup K (List.map tN sh))) ?_ ⟨.keep (.keep (.skip (.skip .nil))), rfl⟩⟩
      refine (y_cat (y_var rfl) (y_lcA (xs := subs [[a.mark]] (((List.range a.s.L).drop (a.mark + 1)).take i)) (r := fun sh => Tup K (sh.map tN)) (o := fun sh => Tup K (sh.map tN ++ [tN p])) (yi_list (y_var rfl)) (by decide) (by omega) (fun x hx => yg_name) (fun x hx => (y_catA (y_var rfl) (y_tup (ya_cons (y_var rfl) ya_nil) (by show 1 ≤ 100000; decide)) ?_))) ?_).to ?_
      · rw [List.length_map]
        have := subs_el (acc := [[a.mark]]) (ns := ((List.range a.s.L).drop (a.mark + 1)).take i) (m := 1) (by simp) x hx
        have h3 : (((List.range a.s.L).drop (a.mark + 1)).take i).length ≤ 8 := by rw [List.length_take]; omega
        show x.length + 1 ≤ 100000
        omega
      · rw [List.length_map, List.length_map]; omega
      · rw [htake, subs_snoc, List.map_append, List.map_map]
        congr 2
        refine List.map_congr_left fun s _ => ?_
        show Tup K (s.map tN ++ [tN p]) = Tup K ((s ++ [p]).map tN)
        rw [List.map_append]
        rfl
    · rintro Γn μn ⟨wk, rfl⟩
      rw [List.length_map, List.take_length] at wk
      exact ⟨wk, rfl⟩
    · rintro Γ1 μ1 ⟨wk, rfl⟩
      refine hr_weak ?_ wk
      have hcnt := subs_len (acc := [[a.mark]]) (ns := (List.range a.s.L).drop (a.mark + 1))
      have hc2 : 2 ^ ((List.range a.s.L).drop (a.mark + 1)).length ≤ 2 ^ 8 := Nat.pow_le_pow_right (by decide) hds
      rw [List.length_singleton] at hcnt
      exact hr_ret (y_lc (xs := subs [[a.mark]] ((List.range a.s.L).drop (a.mark + 1))) (r := fun sh => Tup K (sh.map tN)) (yi_list (y_var rfl)) (by decide) (by omega) (fun x hx => yg_name) (fun x hx => (yt_B (y_meth (y_var rfl) rfl (ya_cons (y_var rfl) ya_nil) ⟨a, x, hle, by omega, hlast x hx, rfl, rfl⟩))) (fun x hx hf => (y_var rfl)))
end
end HF
set_option maxHeartbeats 400000
namespace HF
open PySem PyProof.Rows L2 Evl
/-! ### Bonds while it is made: the plain part -/
def insP (A : List (Nat × Nat)) (p : Nat × Nat) : List (Nat × Nat) := if p ∈ A then A else A ++ [p]
theorem mem_insP {A : List (Nat × Nat)} {p q : Nat × Nat} : q ∈ insP A p ↔ q ∈ A ∨ q = p := by
  unfold insP
  split
  · exact ⟨.inl, fun h => h.elim id fun e => e ▸ ‹_›⟩
  · rw [List.mem_append, List.mem_singleton]
theorem insP_len {A : List (Nat × Nat)} {p : Nat × Nat} : A.length ≤ (insP A p).length := by
  unfold insP
  split
  · exact Nat.le_refl _
  · rw [List.length_append]; omega
theorem insP_new {A : List (Nat × Nat)} {p : Nat × Nat} (h : p ∉ A) : (insP A p).length = A.length + 1 := by
  unfold insP
  rw [if_neg h, List.length_append, List.length_singleton]
theorem insP_nodup {A : List (Nat × Nat)} {p : Nat × Nat} (h : A.Nodup) : (insP A p).Nodup := by
  unfold insP
  split
  · exact h
  · rename_i hp
    rw [List.nodup_append]
    exact ⟨h, by simp, fun x hx y hy e => hp (by rw [← List.mem_singleton.mp hy, ← e]; exact hx)⟩
def Bst.bindB (s : Bst) (i j : Nat) : Bool := !(decide (i = j) || decide ((i, j) ∈ s.A))
def Bst.bind (s : Bst) (i j : Nat) : Bst := if s.bindB i j then { s with A := insP (insP s.A (i, j)) (j, i) } else s
def Bst.lowB (s : Bst) (i j : Nat) : Bool := !(decide (i = j) || decide ((i, j) ∈ s.B))
def Bst.low (s : Bst) (i j : Nat) : Bst := if s.lowB i j then { s with B := insP s.B (i, j) } else s
structure Bst.Ok (s : Bst) : Prop where
  len : s.es.length ≤ 64
  L8 : s.L ≤ 8
  an : s.A.Nodup
  ab : ∀ p ∈ s.A, p.1 < s.L ∧ p.2 < s.L
  bn : s.B.Nodup
  bb : ∀ p ∈ s.B, p.1 < s.L ∧ p.2 < s.L
  sym : ∀ a b, (a, b) ∈ s.A → (b, a) ∈ s.A
theorem pairs_len {A : List (Nat × Nat)} {L : Nat} (hn : A.Nodup) (h : ∀ p ∈ A, p.1 < L ∧ p.2 < L) : A.length ≤ L * L := by
  have h1 : A ⊆ (List.range L).flatMap fun i => (List.range L).map fun j => (i, j) := fun p hp => by
    obtain ⟨h1, h2⟩ := h p hp
    exact List.mem_flatMap.mpr ⟨p.1, List.mem_range.mpr h1, List.mem_map.mpr ⟨p.2, List.mem_range.mpr h2, rfl⟩⟩
  have h2 := hn.length_le_of_subset h1
  have h3 : ∀ l : List Nat, (l.flatMap fun i => (List.range L).map fun j => (i, j)).length = l.length * L := fun l => by
    induction l with
    | nil => simp
    | cons a l ih => rw [List.flatMap_cons, List.length_append, ih, List.length_map, List.length_range, List.length_cons, Nat.succ_mul, Nat.add_comm]
  rw [h3, List.length_range] at h2
  exact h2
theorem Bst.Ok.alen {s : Bst} (o : s.Ok) : s.A.length ≤ 64 := Nat.le_trans (pairs_len o.an o.ab) (Nat.mul_le_mul o.L8 o.L8)
theorem Bst.Ok.blen {s : Bst} (o : s.Ok) : s.B.length ≤ 64 := Nat.le_trans (pairs_len o.bn o.bb) (Nat.mul_le_mul o.L8 o.L8)
theorem Bst.Ok.bind {s : Bst} (o : s.Ok) {i j : Nat} (hi : i < s.L) (hj : j < s.L) : (s.bind i j).Ok := by
  unfold Bst.bind
  split
  · refine ⟨o.len, o.L8, insP_nodup (insP_nodup o.an), fun p hp => ?_, o.bn, o.bb, fun a b hab => ?_⟩
    · rcases mem_insP.mp hp with h | rfl
      · rcases mem_insP.mp h with h | rfl
        · exact o.ab p h
        · exact ⟨hi, hj⟩
      · exact ⟨hj, hi⟩
    · rcases mem_insP.mp hab with h | h
      · rcases mem_insP.mp h with h | h
        · exact mem_insP.mpr (.inl (mem_insP.mpr (.inl (o.sym a b h))))
        · cases h; exact mem_insP.mpr (.inr rfl)
      · cases h; exact mem_insP.mpr (.inl (mem_insP.mpr (.inr rfl)))
  · exact o
theorem Bst.Ok.low {s : Bst} (o : s.Ok) {i j : Nat} (hi : i < s.L) (hj : j < s.L) : (s.low i j).Ok := by
  unfold Bst.low
  split
  · refine ⟨o.len, o.L8, o.an, o.ab, insP_nodup o.bn, fun p hp => ?_, o.sym⟩
    rcases mem_insP.mp hp with h | rfl
    · exact o.bb p h
    · exact ⟨hi, hj⟩
  · exact o
/-! ### .. and its objects -/
structure BAd where
  (x dx aA aB aH aF : Addr)
  (vE vG vL vD : V)
  n : Nat
  kd : Str
  Hb : Hp
abbrev BAd.fs (ad : BAd) : List (Str × V) := [("own_people", .int (ad.n : Int)), ("own_events", ad.vE), ("own_kind", .str ad.kd), ("own_gone", ad.vG), ("own_looks", ad.vL), ("own_adds", ad.vD),
  ("own_alike", .ref ad.aA), ("own_below", .ref ad.aB), ("own_has", .ref ad.aH), ("own_facts", .ref ad.aF)]
structure BX (K : PySem.W.Frag) (H0 H : Hp) (ad : BAd) (kA kB : List (List L2.Key × V)) (kH : List (L2.Key × V)) (fs : List V) : Prop where
  ex : Ex H0 H
  hx : H ad.x = some (.ins (He.ga K "Bonds") ad.dx ad.fs)
  hA : H ad.aA = some (.dT kA)
  hB : H ad.aB = some (.dT kB)
  hH : H ad.aH = some (.dK kH)
  hF : H ad.aF = some (.lst fs)
  nx : H0 ad.x = none
  nA : H0 ad.aA = none
  nB : H0 ad.aB = none
  nH : H0 ad.aH = none
  nF : H0 ad.aF = none
  dAB : ad.aA ≠ ad.aB
  eb : Ex ad.Hb H
  bx : ad.Hb ad.x = none
  bA : ad.Hb ad.aA = none
  bB : ad.Hb ad.aB = none
  bH : ad.Hb ad.aH = none
  bF : ad.Hb ad.aF = none
section
variable {K : PySem.W.Frag} {H0 H H' : Hp} {ad : BAd} {kA kB kA' kB' : List (List L2.Key × V)} {kH kH' : List (L2.Key × V)} {fs fs' : List V}
theorem BX.ext (b : BX K H0 H ad kA kB kH fs) (e : Ex H H') : BX K H0 H' ad kA kB kH fs := ⟨b.ex.trans e, e _ _ b.hx, e _ _ b.hA, e _ _ b.hB, e _ _ b.hH, e _ _ b.hF, b.nx, b.nA, b.nB, b.nH, b.nF, b.dAB, b.eb.trans e, b.bx, b.bA, b.bB, b.bH, b.bF⟩
theorem ex_upd {p : Addr} {o : HO} (e : Ex H0 H) (n : H0 p = none) : Ex H0 (upd H p o) := fun b u q => by rw [upd_ne (ne_of_none q n)]; exact e b u q
theorem BX.setA (b : BX K H0 H ad kA kB kH fs) : BX K H0 (upd H ad.aA (.dT kA')) ad kA' kB kH fs := by
  refine ⟨ex_upd b.ex b.nA, ?_, upd_same, ?_, ?_, ?_, b.nx, b.nA, b.nB, b.nH, b.nF, b.dAB, ex_upd b.eb b.bA, b.bx, b.bA, b.bB, b.bH, b.bF⟩
  · rw [upd_ne (ne_of b.hx b.hA (by intro z; cases z))]; exact b.hx
  · rw [upd_ne b.dAB.symm]; exact b.hB
  · rw [upd_ne (ne_of b.hH b.hA (by intro z; cases z))]; exact b.hH
  · rw [upd_ne (ne_of b.hF b.hA (by intro z; cases z))]; exact b.hF
theorem BX.setB (b : BX K H0 H ad kA kB kH fs) : BX K H0 (upd H ad.aB (.dT kB')) ad kA kB' kH fs := by
  refine ⟨ex_upd b.ex b.nB, ?_, ?_, upd_same, ?_, ?_, b.nx, b.nA, b.nB, b.nH, b.nF, b.dAB, ex_upd b.eb b.bB, b.bx, b.bA, b.bB, b.bH, b.bF⟩
  · rw [upd_ne (ne_of b.hx b.hB (by intro z; cases z))]; exact b.hx
  · rw [upd_ne b.dAB]; exact b.hA
  · rw [upd_ne (ne_of b.hH b.hB (by intro z; cases z))]; exact b.hH
  · rw [upd_ne (ne_of b.hF b.hB (by intro z; cases z))]; exact b.hF
theorem BX.setF (b : BX K H0 H ad kA kB kH fs) : BX K H0 (upd H ad.aF (.lst fs')) ad kA kB kH fs' := by
  refine ⟨ex_upd b.ex b.nF, ?_, ?_, ?_, ?_, upd_same, b.nx, b.nA, b.nB, b.nH, b.nF, b.dAB, ex_upd b.eb b.bF, b.bx, b.bA, b.bB, b.bH, b.bF⟩
  · rw [upd_ne (ne_of b.hx b.hF (by intro z; cases z))]; exact b.hx
  · rw [upd_ne (ne_of b.hA b.hF (by intro z; cases z))]; exact b.hA
  · rw [upd_ne (ne_of b.hB b.hF (by intro z; cases z))]; exact b.hB
  · rw [upd_ne (ne_of b.hH b.hF (by intro z; cases z))]; exact b.hH
theorem BX.setH (b : BX K H0 H ad kA kB kH fs) : BX K H0 (upd H ad.aH (.dK kH')) ad kA kB kH' fs := by
  refine ⟨ex_upd b.ex b.nH, ?_, ?_, ?_, upd_same, ?_, b.nx, b.nA, b.nB, b.nH, b.nF, b.dAB, ex_upd b.eb b.bH, b.bx, b.bA, b.bB, b.bH, b.bF⟩
  · rw [upd_ne (ne_of b.hx b.hH (by intro z; cases z))]; exact b.hx
  · rw [upd_ne (ne_of b.hA b.hH (by intro z; cases z))]; exact b.hA
  · rw [upd_ne (ne_of b.hB b.hH (by intro z; cases z))]; exact b.hB
  · rw [upd_ne (ne_of b.hF b.hH (by intro z; cases z))]; exact b.hF
/-- the kept part may be another one that leaves the cells out -/
theorem BX.swap {H0' : Hp} (b : BX K H0 H ad kA kB kH fs) (e : Ex H0' H) (h : ∀ a, H0 a = none → H0' a = none) : BX K H0' H ad kA kB kH fs := ⟨e, b.hx, b.hA, b.hB, b.hH, b.hF, h _ b.nx, h _ b.nA, h _ b.nB, h _ b.nH, h _ b.nF, b.dAB, b.eb, b.bx, b.bA, b.bB, b.bH, b.bF⟩
end
/-- what of it is kept -/
structure BK (K : PySem.W.Frag) (H0 : Hp) (ad : BAd) (hv : List V) (s : Bst) : Prop where
  n : ad.n = s.n
  kd : ad.kd = s.kd
  tE : (tEvs K s.es).r ad.vE H0
  tG : (Lst []).r ad.vG H0
  tL : (Lst ((looksL s.es).map (tPr K))).r ad.vL H0
  tD : (Lst []).r ad.vD H0
  th : AllR hv ((List.range s.n).map fun p => tNs (s.hs p)) H0
theorem BK.m {K : PySem.W.Frag} {H0 H0' : Hp} {ad : BAd} {hv : List V} {s : Bst} (b : BK K H0 ad hv s) (e : Ex H0 H0') : BK K H0' ad hv s := ⟨b.n, b.kd, Ty.m _ _ _ _ e b.tE, Ty.m _ _ _ _ e b.tG, Ty.m _ _ _ _ e b.tL, Ty.m _ _ _ _ e b.tD, b.th.m e⟩
def keysH (n : Nat) : List L2.Key := (List.range n).map fun p : Nat => (Sum.inl (p : Int) : L2.Key)
structure BP (K : PySem.W.Frag) (H0 H : Hp) (ad : BAd) (hv : List V) (s : Bst) : Prop where
  ex : ∃ kA kB kH fs, BX K H0 H ad kA kB kH fs ∧ kA.map (·.1) = s.A.map keyN ∧ kB.map (·.1) = s.B.map keyN ∧ kH.map (·.1) = keysH s.n ∧ kH.map (·.2) = hv ∧ fs.length ≤ s.A.length + s.B.length
  k : BK K H0 ad hv s
section
variable {K : PySem.W.Frag} {H0 H H' : Hp} {ad : BAd} {s : Bst} {hv : List V}
theorem BP.ext (b : BP K H0 H ad hv s) (e : Ex H H') : BP K H0 H' ad hv s := by
  obtain ⟨⟨kA, kB, kH, fs, x, h⟩, k⟩ := b
  exact ⟨⟨kA, kB, kH, fs, x.ext e, h⟩, k⟩
theorem BP.e (b : BP K H0 H ad hv s) : Ex H0 H := by
  obtain ⟨⟨kA, kB, kH, fs, x, h⟩, k⟩ := b
  exact x.ex
theorem BP.eb (b : BP K H0 H ad hv s) : Ex ad.Hb H := by
  obtain ⟨⟨kA, kB, kH, fs, x, h⟩, k⟩ := b
  exact x.eb
/-- the kept part grew, and took nothing of what was there at first -/
def Gb (ad : BAd) (H0 H0' : Hp) : Prop := Ex H0 H0' ∧ ∀ a, H0 a = none → ad.Hb a ≠ none → H0' a = none
theorem Gb.refl : Gb ad H0 H0 := ⟨Ex.refl _, fun _ h _ => h⟩
theorem Gb.trans {H1 H2 : Hp} (a : Gb ad H0 H1) (b : Gb ad H1 H2) : Gb ad H0 H2 := ⟨a.1.trans b.1, fun c h h' => b.2 c (a.2 c h h') h'⟩
theorem Gb.of {H0' : Hp} (g : Gr H0 H H0' H') (eb : Ex ad.Hb H) : Gb ad H0 H0' := ⟨g.e0, fun a h h' => g.f a h (Ex.nn eb h')⟩
theorem gr_b {E0' H1 : Hp} (g : Gr E0' ad.Hb H0 H) (x : Gb ad H0 H1) (b : BP K H1 H' ad hv s) : Gr E0' ad.Hb H1 H' := ⟨g.e0.trans x.1, b.eb, b.e, fun a h h' => x.2 a (g.f a h h') h'⟩
theorem gr_b0 (b : BP K H0 H ad hv s) : Gr H0 ad.Hb H0 H := ⟨Ex.refl _, b.eb, b.e, fun _ h _ => h⟩
theorem BP.bnd (b : BP K H0 H ad hv s) : (Bnd K s).r (.ref ad.x) H := by
  obtain ⟨⟨kA, kB, kH, fs, x, h1, h2, h3, h4, _⟩, k⟩ := b
  have k' := k.m x.ex
  refine ⟨ad.x, ad.dx, ad.fs, rfl, x.hx, rfl, ?_, k'.tE, ?_, k'.tG, k'.tL, k'.tD, ⟨_, kA, rfl, x.hA, h1⟩, ⟨_, kB, rfl, x.hB, h2⟩, ⟨_, kH, rfl, x.hH, ?_, ?_⟩, ⟨_, fs, rfl, x.hF⟩, trivial⟩
  · show V.int (ad.n : Int) = V.int (s.n : Int)
    rw [k.n]
  · show V.str ad.kd = V.str s.kd
    rw [k.kd]
  · rw [h3, List.map_map]; rfl
  · rw [h4, List.map_map]; exact k'.th
/-- its fields as they stand -/
abbrev BndR (K : PySem.W.Frag) (ad : BAd) : Ty := Ins (He.ga K "Bonds") (ad.fs.map fun p => (p.1, Is p.2))
theorem BX.bndR {kA kB : List (List L2.Key × V)} {kH : List (L2.Key × V)} {fs : List V} (b : BX K H0 H ad kA kB kH fs) : (BndR K ad).r (.ref ad.x) H :=
  ⟨ad.x, ad.dx, ad.fs, rfl, b.hx, rfl, rfl, rfl, rfl, rfl, rfl, rfl, rfl, rfl, rfl, rfl, trivial⟩
theorem BP.swap {H0' : Hp} {s' : Bst} (b : BP K H0 H ad hv s) (b' : BP K H0' H' ad hv s') (e : Ex H0 H0') (h1 : s'.n = s.n) (h2 : s'.kd = s.kd) (h3 : s'.es = s.es) (h4 : s'.hs = s.hs) : BP K H0 H' ad hv s' := by
  obtain ⟨⟨kA, kB, kH, fs, x, h⟩, k⟩ := b'
  refine ⟨⟨kA, kB, kH, fs, x.swap (e.trans x.ex) fun a ha => fresh_back e ha, h⟩, ?_⟩
  have k0 := b.k
  exact ⟨k0.n.trans h1.symm, k0.kd.trans h2.symm, by rw [h3]; exact k0.tE, k0.tG, by rw [h3]; exact k0.tL, k0.tD, by rw [h1, h4]; exact k0.th⟩
end
def insK {κ : Type} [DecidableEq κ] (ks : List κ) (k : κ) : List κ := if k ∈ ks then ks else ks ++ [k]
theorem putK_keys {κ : Type} [DecidableEq κ] (kvs : List (κ × V)) (k : κ) (v : V) : (putK kvs k v).map (·.1) = insK (kvs.map (·.1)) k := by
  unfold insK
  split
  · rename_i h
    have hs : (valV kvs k).isSome = true := by rw [valV_some]; exact decide_eq_true h
    unfold putK
    have h2 : (kvs.any fun kv => decide (kv.1 = k)) = true := by
      obtain ⟨p, hp, e⟩ := List.mem_map.mp h
      exact List.any_eq_true.mpr ⟨p, hp, decide_eq_true e⟩
    rw [if_pos h2, List.map_map]
    refine List.map_congr_left fun kv _ => ?_
    show (if kv.1 = k then (kv.1, v) else kv).1 = kv.1
    split <;> rfl
  · rename_i h
    have hs : valV kvs k = none := by
      cases e : valV kvs k with
      | none => rfl
      | some u =>
        have := valV_some kvs k
        rw [e, decide_eq_false h] at this
        cases this
    rw [putK_new v hs, List.map_append]
    rfl
theorem insK_keyN {A : List (Nat × Nat)} {p : Nat × Nat} : insK (A.map keyN) (keyN p) = (insP A p).map keyN := by
  have e : keyN p ∈ A.map keyN ↔ p ∈ A := ⟨fun h => by
    obtain ⟨q, hq, e⟩ := List.mem_map.mp h
    rw [← keyN_inj e]; exact hq, fun h => List.mem_map_of_mem h⟩
  unfold insK insP
  by_cases h : p ∈ A
  · rw [if_pos h, if_pos (e.mpr h)]
  · rw [if_neg h, if_neg (fun z => h (e.mp z)), List.map_append]; rfl
def SrcT (K : PySem.W.Frag) : Ty := ⟨fun v H => ∃ a xs, v = .ref a ∧ (SqL K H a xs ∨ SqT K H a xs), fun v H H' e ⟨a, xs, h1, h2⟩ => ⟨a, xs, h1, h2.imp (ex_l e) (ex_t e)⟩⟩
section
variable {K : PySem.W.Frag} {Γ : Ctx} {μ : Mt} {R : Ty} {ta td te to : TE} {σ : L2.St} {H : Hp} {D : Ends}
theorem y_tupS (ha : Y ta Γ μ (SrcT K)) : Y (tCB (rTupA K) (tCons ta tNil)) Γ μ (SrcT K) := fun σ H0 H s Q q =>
  ha σ H0 H s _ fun x H1 G1 g1 r1 => by
    obtain ⟨a, vs, rfl, h⟩ := r1
    rcases h with h | h
    · exact ⟨a, vs, rfl, .inl ⟨ex_l g1.p h, fun p hp => q _ _ _ (g1.trans (Gr.new g1.p hp)) ⟨p, vs, rfl, .inr (st_of upd_same)⟩⟩⟩
    · exact ⟨a, vs, rfl, .inr ⟨ex_t g1.p h, q _ _ _ g1 ⟨a, vs, rfl, .inr h⟩⟩⟩
theorem seq_go {t u : TS} (h : t { D with nx := u D } σ H) : tSeq t u D σ H := h
theorem dputT_run {k l i j : Nat} {a : Addr} {kvs : List (List L2.Key × V)} (hd : Y td Γ M0 (Is (.ref a))) (S : Sx σ H H Γ M0) (hk : Γ[k]? = some (some (tN i))) (hl : Γ[l]? = some (some (tN j))) (ha : H a = some (.dT kvs)) (hz : kvs.length < 100000)
    (n : ∀ H1, Ex H H1 → D.nx σ (upd H1 a (.dT (putK kvs (keyN (i, j)) (.bl true))))) : sDPut td (tTup (tCons (tVar k) (tCons (tVar l) tNil))) (tC (.bl true)) D σ H := by
  refine hd σ H H S _ fun x K1 H1 g1 r1 => ?_
  obtain rfl : x = V.ref a := r1
  obtain ⟨v, hv, rv⟩ := S.sl.2 k _ hk
  obtain ⟨u, hu, ru⟩ := S.sl.2 l _ hl
  obtain rfl : v = V.int (i : Int) := rv
  obtain rfl : u = V.int (j : Int) := ru
  refine ⟨_, hv, _, hu, sz_of (by show 2 ≤ 100000; decide), fun p hp => ⟨a, _, rfl, DPut.t (k := keyN (i, j)) ((Ex.new hp) a _ (g1.e a _ ha)) upd_same (sz_lt hz), ?_⟩⟩
  exact n _ (g1.e.trans (Ex.new hp))
theorem app_run {a : Addr} {xs : List V} (ho : Y to Γ M0 (Is (.ref a))) (he : Y te Γ M0 R) (S : Sx σ H H Γ M0) (ha : H a = some (.lst xs)) (hz : xs.length < 100000) (n : ∀ v H1, Ex H H1 → D.nx σ (upd H1 a (.lst (xs ++ [v])))) :
    tDrop (tBM K "list" rAppend to (tCons te tNil)) D σ H := by
  refine ho σ H H S _ fun x K1 H1 g1 r1 => ?_
  obtain rfl : x = V.ref a := r1
  refine ⟨.inl ⟨rfl, xs, sq_of (g1.e a _ ha)⟩, ?_⟩
  refine he σ K1 H1 (S.gr g1) _ fun v K2 H2 g2 r2 => ?_
  exact ⟨a, xs, v, rfl, rfl, g2.e a _ (g1.e a _ ha), sz_lt hz, n v H2 (g1.e.trans g2.e)⟩
end
end HF
set_option maxHeartbeats 400000
namespace HF
open PySem PyProof.Rows L2 Evl
section
variable {w : World} {K : PySem.W.Frag} {mg : Str → Option Value} {base : Heap}
def sp_B_bind (K : PySem.W.Frag) : Sp := fun vs H Q _ => ∃ H0 ad hv s i j src, BP K H0 H ad hv s ∧ s.Ok ∧ i < s.L ∧ j < s.L ∧ vs = [.ref ad.x, .int (i : Nat), .int (j : Nat), src] ∧ (SrcT K).r src H0 ∧ ∀ H', BP K H0 H' ad hv (s.bind i j) → Q (.bl (s.bindB i j)) H'
def sp_B_lower (K : PySem.W.Frag) : Sp := fun vs H Q _ => ∃ H0 ad hv s i j src, BP K H0 H ad hv s ∧ s.Ok ∧ i < s.L ∧ j < s.L ∧ vs = [.ref ad.x, .int (i : Nat), .int (j : Nat), src] ∧ (SrcT K).r src H0 ∧ ∀ H', BP K H0 H' ad hv (s.low i j) → Q (.bl (s.lowB i j)) H'
theorem sc_B_bind : FnScope ["self", "one", "other", "source"] ["self", "one", "other", "source"] (defScope s_B_bind) := ⟨rfl, rfl, rfl, by decide +kernel, rfl, by decide +kernel, by decide +kernel⟩
theorem ok_B_bind (T : Tx K mg) : FnOk PP w K mg base CX0 2 (He.fAd K d_B_bind.at_) (fdOf K d_B_bind.at_) ["self", "one", "other", "source"] (sp_B_bind K) := by
  have G_B_is_alike := ok_B_is_alike T (w := w) (base := base)
  refine T.F_B_bind.ok sc_B_bind (by rintro vs H Q E ⟨H0, ad, hv, s, i, j, src, _, _, _, _, rfl, _⟩; rfl) fun cdv A outer s_ H vs Q E hr ⟨H0, ad, hv, s, i, j, src, hP, hok, hi, hj, evs, hsrc, q⟩ => ?_
  subst evs
  refine ⟨_, PSs.nox (pss_cons (ps_if (pt_val (pe_meth (pv 0) T.c_Bonds T.m_B_is_alike G_B_is_alike (hr.mono (by decide)) T.b_B_is_alike .nil pass0 (pa_cons (pv 1) (pa_cons (pv 2) pa_nil)))) (pss_one (ps_ret pe_bl)) pss_nil)
      (pss_cons (ps_dput (hu_of hr) (pe_fldK K (pv 0) rfl) (pe_tup (pa_cons (pv 1) (pa_cons (pv 2) pa_nil))) pe_bl rfl)
      (pss_cons (ps_dput (hu_of hr) (pe_fldK K (pv 0) rfl) (pe_tup (pa_cons (pv 2) (pa_cons (pv 1) pa_nil))) pe_bl rfl)
      (pss_cons (ps_expr (pe_bmK K PySem.F.plainAttrs_list PySem.F.slot_list_append PySem.F.type_list_append mt_append (pe_fldK K (pv 0) rfl) (pa_cons (pe_tup (pa_cons (pe_tup (pa_cons (pe_S rfl T.s_ALIKE) (pa_cons (pv 1) (pa_cons (pv 2) pa_nil)))) (pa_cons (pe_callTy (r := rTupA K) call_tuple_of (by rfl) T.f_tuple (by decide +kernel) (pa_cons (pv 3) pa_nil)) pa_nil))) pa_nil)))
      (pss_one (ps_ret pe_bl)))))), ?_⟩
  have s1 : Sx (L2.start ["self", "one", "other", "source"] [.ref ad.x, .int (i : Nat), .int (j : Nat), src]) H H [some (Bnd K s), some (tN i), some (tN j), some (SrcT K)] M0 := ⟨start_sl (Rs := [Bnd K s, tN i, tN j, SrcT K]) ⟨hP.bnd, rfl, rfl, (SrcT K).m _ _ _ hP.e hsrc, trivial⟩, Ex.refl _, trivial⟩
  have hal : YT _ [some (Bnd K s), some (tN i), some (tN j), some (SrcT K)] M0 (!(s.bindB i j)) := (yt_B (y_meth (C := C_B_is_alike K) (E := E0) (D := He.ga K "Bonds") (m := "is_alike") (y_var (k := 0) rfl) rfl (ya_cons (y_var (k := 1) rfl) (ya_cons (y_var (k := 2) rfl) ya_nil)) ⟨s, i, j, rfl, rfl⟩)).to (by unfold Bst.bindB; rw [Bool.not_not])
  refine hal _ H H s1 _ fun K1 H1 g1 => ?_
  cases hb : s.bindB i j with
  | false =>
    have e1 : s.bind i j = s := by unfold Bst.bind; rw [hb]; rfl
    rw [e1, hb] at q
    rw [if_pos (by decide : (!false) = true)]
    exact q H1 (hP.ext g1.e)
  | true =>
    have e1 : s.bind i j = { s with A := insP (insP s.A (i, j)) (j, i) } := by unfold Bst.bind; rw [if_pos hb]
    have hnew : (i, j) ∉ s.A := by
      unfold Bst.bindB at hb
      simp at hb
      exact hb.2
    rw [e1, hb] at q
    obtain ⟨⟨kA, kB, kH, fs, x, h1, h2, h3, h4, h5⟩, hk⟩ := hP.ext g1.e
    have sx : ∀ {kA kB kH fs H}, BX K H0 H ad kA kB kH fs → Sx (L2.start ["self", "one", "other", "source"] [.ref ad.x, .int (i : Nat), .int (j : Nat), src]) H H [some (BndR K ad), some (tN i), some (tN j), some (SrcT K)] M0 := fun b => ⟨start_sl (Rs := [BndR K ad, tN i, tN j, SrcT K]) ⟨b.bndR, rfl, rfl, (SrcT K).m _ _ _ b.ex hsrc, trivial⟩, Ex.refl _, trivial⟩
    have kl : kA.length = s.A.length := by have := congrArg List.length h1; simpa using this
    have al := hok.alen
    have bl := hok.blen
    rw [if_neg (by decide : ¬ ((!true) = true))]
    refine seq_go (dputT_run (i := i) (j := j) (y_fld (y_var rfl) T.c_Bonds T.n_B_own_alike rfl) (sx x) rfl rfl x.hA (by omega) fun H2 e2 => ?_)
    have x2 := (x.ext e2).setA (kA' := putK kA (keyN (i, j)) (.bl true))
    have l2 := length_putK kA (keyN (i, j)) (.bl true)
    refine seq_go (dputT_run (i := j) (j := i) (y_fld (y_var rfl) T.c_Bonds T.n_B_own_alike rfl) (sx x2) rfl rfl x2.hA (by omega) fun H3 e3 => ?_)
    have x3 := (x2.ext e3).setA (kA' := putK (putK kA (keyN (i, j)) (.bl true)) (keyN (j, i)) (.bl true))
    refine seq_go (app_run (y_fld (y_var rfl) T.c_Bonds T.n_B_own_facts rfl) (y_tup (K := K) (ya_cons (y_tup (K := K) (ya_cons y_c (ya_cons (y_var rfl) (ya_cons (y_var rfl) ya_nil))) (by show 3 ≤ 100000; decide)) (ya_cons (y_tupS (y_var rfl)) ya_nil)) (by show 2 ≤ 100000; decide)) (sx x3) x3.hF (by omega) fun v H4 e4 => ?_)
    have x4 := (x3.ext e4).setF (fs' := fs ++ [v])
    refine q _ ⟨⟨_, _, _, _, x4, ?_, h2, h3, h4, ?_⟩, ⟨hk.n, hk.kd, hk.tE, hk.tG, hk.tL, hk.tD, hk.th⟩⟩
    · rw [putK_keys, putK_keys, h1, insK_keyN, insK_keyN]
    · have n1 := insP_new hnew
      have n2 := insP_len (A := insP s.A (i, j)) (p := (j, i))
      rw [List.length_append, List.length_singleton]
      show _ ≤ (insP (insP s.A (i, j)) (j, i)).length + s.B.length
      omega
theorem sc_B_lower : FnScope ["self", "one", "other", "source"] ["self", "one", "other", "source"] (defScope s_B_lower) := ⟨rfl, rfl, rfl, by decide +kernel, rfl, by decide +kernel, by decide +kernel⟩
theorem ok_B_lower (T : Tx K mg) : FnOk PP w K mg base CX0 2 (He.fAd K d_B_lower.at_) (fdOf K d_B_lower.at_) ["self", "one", "other", "source"] (sp_B_lower K) := by
  have G_B_is_below := ok_B_is_below T (w := w) (base := base)
  refine T.F_B_lower.ok sc_B_lower (by rintro vs H Q E ⟨H0, ad, hv, s, i, j, src, _, _, _, _, rfl, _⟩; rfl) fun cdv A outer s_ H vs Q E hr ⟨H0, ad, hv, s, i, j, src, hP, hok, hi, hj, evs, hsrc, q⟩ => ?_
  subst evs
  refine ⟨_, PSs.nox (pss_cons (ps_if (PW.pt (pw_or (pt_cmpR op_eq (pv 1) (pv 2) (nomark _)) (pw_or1 (pt_val (pe_meth (pv 0) T.c_Bonds T.m_B_is_below G_B_is_below (hr.mono (by decide)) T.b_B_is_below .nil pass0 (pa_cons (pv 1) (pa_cons (pv 2) pa_nil))))))) (pss_one (ps_ret pe_bl)) pss_nil)
      (pss_cons (ps_dput (hu_of hr) (pe_fldK K (pv 0) rfl) (pe_tup (pa_cons (pv 1) (pa_cons (pv 2) pa_nil))) pe_bl rfl)
      (pss_cons (ps_expr (pe_bmK K PySem.F.plainAttrs_list PySem.F.slot_list_append PySem.F.type_list_append mt_append (pe_fldK K (pv 0) rfl) (pa_cons (pe_tup (pa_cons (pe_tup (pa_cons (pe_S rfl T.s_BEGINS) (pa_cons (pv 1) (pa_cons (pv 2) pa_nil)))) (pa_cons (pe_callTy (r := rTupA K) call_tuple_of (by rfl) T.f_tuple (by decide +kernel) (pa_cons (pv 3) pa_nil)) pa_nil))) pa_nil)))
      (pss_one (ps_ret pe_bl))))), ?_⟩
  have s1 : Sx (L2.start ["self", "one", "other", "source"] [.ref ad.x, .int (i : Nat), .int (j : Nat), src]) H H [some (Bnd K s), some (tN i), some (tN j), some (SrcT K)] M0 := ⟨start_sl (Rs := [Bnd K s, tN i, tN j, SrcT K]) ⟨hP.bnd, rfl, rfl, (SrcT K).m _ _ _ hP.e hsrc, trivial⟩, Ex.refl _, trivial⟩
  have hal : YT _ [some (Bnd K s), some (tN i), some (tN j), some (SrcT K)] M0 (!(s.lowB i j)) := (yt_or (yt_t (y_eqN (y_var (k := 1) rfl) (y_var (k := 2) rfl))) fun _ => (yt_B (y_meth (C := C_B_is_below K) (E := E0) (D := He.ga K "Bonds") (m := "is_below") (y_var (k := 0) rfl) rfl (ya_cons (y_var (k := 1) rfl) (ya_cons (y_var (k := 2) rfl) ya_nil)) ⟨s, i, j, rfl, rfl⟩))).to (by unfold Bst.lowB; rw [Bool.not_not])
  refine hal _ H H s1 _ fun K1 H1 g1 => ?_
  cases hb : s.lowB i j with
  | false =>
    have e1 : s.low i j = s := by unfold Bst.low; rw [hb]; rfl
    rw [e1, hb] at q
    rw [if_pos (by decide : (!false) = true)]
    exact q H1 (hP.ext g1.e)
  | true =>
    have e1 : s.low i j = { s with B := insP s.B (i, j) } := by unfold Bst.low; rw [if_pos hb]
    have hnew : (i, j) ∉ s.B := by
      unfold Bst.lowB at hb
      simp at hb
      exact hb.2
    rw [e1, hb] at q
    obtain ⟨⟨kA, kB, kH, fs, x, h1, h2, h3, h4, h5⟩, hk⟩ := hP.ext g1.e
    have sx : ∀ {kA kB kH fs H}, BX K H0 H ad kA kB kH fs → Sx (L2.start ["self", "one", "other", "source"] [.ref ad.x, .int (i : Nat), .int (j : Nat), src]) H H [some (BndR K ad), some (tN i), some (tN j), some (SrcT K)] M0 := fun b => ⟨start_sl (Rs := [BndR K ad, tN i, tN j, SrcT K]) ⟨b.bndR, rfl, rfl, (SrcT K).m _ _ _ b.ex hsrc, trivial⟩, Ex.refl _, trivial⟩
    have kl : kB.length = s.B.length := by have := congrArg List.length h2; simpa using this
    have al := hok.alen
    have bl := hok.blen
    rw [if_neg (by decide : ¬ ((!true) = true))]
    refine seq_go (dputT_run (i := i) (j := j) (y_fld (y_var rfl) T.c_Bonds T.n_B_own_below rfl) (sx x) rfl rfl x.hB (by omega) fun H2 e2 => ?_)
    have x2 := (x.ext e2).setB (kB' := putK kB (keyN (i, j)) (.bl true))
    refine seq_go (app_run (y_fld (y_var rfl) T.c_Bonds T.n_B_own_facts rfl) (y_tup (K := K) (ya_cons (y_tup (K := K) (ya_cons y_c (ya_cons (y_var rfl) (ya_cons (y_var rfl) ya_nil))) (by show 3 ≤ 100000; decide)) (ya_cons (y_tupS (y_var rfl)) ya_nil)) (by show 2 ≤ 100000; decide)) (sx x2) x2.hF (by omega) fun v H4 e4 => ?_)
    have x4 := (x2.ext e4).setF (fs' := fs ++ [v])
    refine q _ ⟨⟨_, _, _, _, x4, h1, ?_, h3, h4, ?_⟩, ⟨hk.n, hk.kd, hk.tE, hk.tG, hk.tL, hk.tD, hk.th⟩⟩
    · rw [putK_keys, h2, insK_keyN]
    · have n1 := insP_new hnew
      rw [List.length_append, List.length_singleton]
      show _ ≤ s.A.length + (insP s.B (i, j)).length
      omega
end
end HF
set_option maxHeartbeats 400000
namespace HF
open PySem PyProof.Rows L2 Evl
section
variable {K : PySem.W.Frag} {H0 H H' : Hp} {ad : BAd} {s : Bst} {hv : List V}
def Bm (K : PySem.W.Frag) (ad : BAd) (hv : List V) (s : Bst) : Mt := ⟨fun H0 H => BP K H0 H ad hv s, fun H0 H H0' H' g ⟨⟨kA, kB, kH, fs, x, h⟩, k⟩ =>
  ⟨⟨kA, kB, kH, fs, ⟨g.p, g.e _ _ x.hx, g.e _ _ x.hA, g.e _ _ x.hB, g.e _ _ x.hH, g.e _ _ x.hF, g.f _ x.nx (ne_none x.hx), g.f _ x.nA (ne_none x.hA), g.f _ x.nB (ne_none x.hB), g.f _ x.nH (ne_none x.hH), g.f _ x.nF (ne_none x.hF), x.dAB, x.eb.trans g.e, x.bx, x.bA, x.bB, x.bH, x.bF⟩, h⟩, k.m g.e0⟩⟩
theorem Bm.off {f : Addr} (h : ∀ H0 H, BP K H0 H ad hv s → True) : True := trivial
/-- another cell, a list, is none of its objects but the facts -/
theorem allR_range {n : Nat} {F : Nat → Ty} {vs : List V} {H : Hp} : AllR vs ((List.range n).map F) H ↔ vs.length = n ∧ ∀ i v, vs[i]? = some v → i < n → (F i).r v H := by
  constructor
  · intro h
    refine ⟨by rw [h.len, List.length_map, List.length_range], fun i v hv hi => h.get' (by rw [List.getElem?_map, List.getElem?_range hi]; rfl) hv⟩
  · rintro ⟨h1, h2⟩
    induction n generalizing vs F with
    | zero => cases vs with
      | nil => trivial
      | cons v vs => simp at h1
    | succ n ih => cases vs with
      | nil => simp at h1
      | cons v vs =>
        rw [List.range_succ_eq_map, List.map_cons, List.map_map]
        refine ⟨h2 0 v rfl (Nat.succ_pos _), ?_⟩
        exact ih (F := fun i => F (i + 1)) (by simpa using h1) fun i u hu hi => h2 (i + 1) u (by simpa using hu) (by omega)
theorem BP.putH {p : Nat} {l : List Nat} {v : V} (b : BP K H0 H ad hv s) (hp : p < s.n) (r : (tNs l).r v H0) :
    ∃ kH, H ad.aH = some (.dK kH) ∧ kH.length = s.n ∧ ∃ hv', BP K H0 (upd H ad.aH (.dK (putK kH (Sum.inl (p : Int)) v))) ad hv' { s with hs := fun q => if q = p then l else s.hs q } := by
  obtain ⟨⟨kA, kB, kH, fs, x, h1, h2, h3, h4, h5⟩, k⟩ := b
  have hlen : kH.length = s.n := by
    have := congrArg List.length h3
    unfold keysH at this
    simpa using this
  refine ⟨kH, x.hH, hlen, (putK kH (Sum.inl (p : Int)) v).map (·.2), ⟨_, _, _, _, x.setH, h1, h2, ?_, rfl, h5⟩, ⟨k.n, k.kd, k.tE, k.tG, k.tL, k.tD, ?_⟩⟩
  · rw [putK_keys, h3]
    unfold insK
    rw [if_pos]
    exact List.mem_map.mpr ⟨p, List.mem_range.mpr hp, rfl⟩
  · have hth := (allR_range (F := fun p => tNs (s.hs p))).mp k.th
    have hany : (kH.any fun kv => decide (kv.1 = (Sum.inl (p : Int) : L2.Key))) = true := by
      have : (Sum.inl (p : Int) : L2.Key) ∈ kH.map (·.1) := by rw [h3]; exact List.mem_map.mpr ⟨p, List.mem_range.mpr hp, rfl⟩
      obtain ⟨kv, hkv, e⟩ := List.mem_map.mp this
      exact List.any_eq_true.mpr ⟨kv, hkv, decide_eq_true e⟩
    have hput : putK kH (Sum.inl (p : Int)) v = kH.map fun kv => if kv.1 = (Sum.inl (p : Int) : L2.Key) then (kv.1, v) else kv := by
      unfold putK
      rw [if_pos hany]
    refine (allR_range (F := fun q => tNs (if q = p then l else s.hs q))).mpr ⟨?_, fun i u hu hi => ?_⟩
    · rw [hput, List.length_map, List.length_map, hlen]
    · rw [hput, List.map_map, List.getElem?_map] at hu
      cases e : kH[i]? with
      | none => rw [e] at hu; cases hu
      | some kv =>
        rw [e] at hu
        have hu' : (if kv.1 = (Sum.inl (p : Int) : L2.Key) then (kv.1, v) else kv).2 = u := Option.some.inj hu
        have hk1 : kv.1 = (Sum.inl (i : Int) : L2.Key) := by
          have : (kH.map (·.1))[i]? = some kv.1 := by rw [List.getElem?_map, e]; rfl
          rw [h3] at this
          unfold keysH at this
          rw [List.getElem?_map, List.getElem?_range hi] at this
          exact (Option.some.inj this).symm
        by_cases hip : i = p
        · subst hip
          rw [if_pos hk1] at hu'
          rw [if_pos rfl, ← hu']
          exact r
        · rw [if_neg (fun z => hip (by rw [hk1] at z; have := Sum.inl.inj z; omega))] at hu'
          rw [if_neg hip]
          have : hv[i]? = some u := by rw [← h4, List.getElem?_map, e, ← hu']; rfl
          exact hth.2 i u this hi
end
section
variable {mg : Str → Option Value} {ls : List Nat} {K : PySem.W.Frag} {Γ Γ' : Ctx} {μ : Mt} {R T : Ty} {Rs : List Ty} {ta td te to : TE} {tr : TA} {u : TS} {N : Ctx → Mt → Prop} {ad : BAd} {s : Bst} {hv : List V} {E0' : Hp} {k l i j p : Nat} {f : Str} {v : V}
/-- a field whose content is kept -/
theorem y_fldM (T0 : Tx K mg) (hk : Γ[0]? = some (some (Is (.ref ad.x)))) (hn : NoAttr K (He.ga K "Bonds") f) (hl : ad.fs.lookup f = some v) (hR : ∀ H0, BK K H0 ad hv s → R.r v H0) : Y (tFld K (tVar 0) f) Γ (Bm K ad hv s) R := fun σ H0 H S Q q => by
  obtain ⟨w, hw, rw'⟩ := S.sl.2 0 _ hk
  obtain rfl : w = V.ref ad.x := rw'
  obtain ⟨kA, kB, kH, fs, x, h⟩ := S.mu.ex
  exact ⟨_, hw, ad.x, _, ad.dx, ad.fs, v, rfl, x.hx, T0.c_Bonds, hn, hl, q v H0 H S.g0 (hR H0 S.mu.k)⟩
/-- self.own_has[p] -/
theorem y_hasM (T0 : Tx K mg) (hk : Γ[0]? = some (some (Is (.ref ad.x)))) (ha : Y ta Γ (Bm K ad hv s) (tN p)) (hp : p < s.n) : Y (tDGet (tFld K (tVar 0) "own_has") ta) Γ (Bm K ad hv s) (tNs (s.hs p)) := fun σ H0 H S Q q => by
  obtain ⟨w, hw, rw'⟩ := S.sl.2 0 _ hk
  obtain rfl : w = V.ref ad.x := rw'
  obtain ⟨kA, kB, kH, fs, x, h⟩ := S.mu.ex
  refine ⟨_, hw, ad.x, _, ad.dx, ad.fs, .ref ad.aH, rfl, x.hx, T0.c_Bonds, T0.n_B_own_has, rfl, ?_⟩
  refine ha σ H0 H S _ fun y H1 G1 g1 r1 => ?_
  obtain ⟨⟨kA, kB, kH, fs, x, h1, h2, h3, h4, h5⟩, k⟩ := (Bm K ad hv s).m _ _ _ _ g1 S.mu
  have hes : kH.map (·.1) = ((List.range s.n).map fun p => (p, tNs (s.hs p))).map (fun p : Nat × Ty => (Sum.inl (p.1 : Int) : L2.Key)) := by rw [h3, List.map_map]; rfl
  have hall : AllR (kH.map (·.2)) (((List.range s.n).map fun p => (p, tNs (s.hs p))).map (·.2)) H1 := by rw [h4, List.map_map]; exact k.th
  obtain ⟨v, k1, k2⟩ := valV_nat hes hall (lookup_range hp)
  obtain rfl : y = V.int (p : Int) := r1
  exact ⟨ad.aH, v, rfl, .inl ⟨kH, Sum.inl (p : Int), .inl x.hH, rfl, k1.symm⟩, q _ _ _ g1 k2⟩
/-- self.own_has[p] = l -/
theorem hr_putH (T0 : Tx K mg) (hk : Γ[0]? = some (some (Is (.ref ad.x)))) (ht : Γ[k]? = some (some (tN p))) (hv' : Y te Γ (Bm K ad hv s) (tNs ls)) (hp : p < s.n) (hn : s.n ≤ 1000)
    (n : ∀ hv', N Γ (Bm K ad hv' { s with hs := fun q => if q = p then ls else s.hs q })) : Hr (E0', ad.Hb) (sDPut (tFld K (tVar 0) "own_has") (tVar k) te) Γ (Bm K ad hv s) N R := fun σ H0 H D g S nx rt => by
  refine hv' σ H0 H S _ fun v H1 G1 g1 r1 => ?_
  have S1 := S.gr g1
  obtain ⟨w, hw, rw'⟩ := S1.sl.2 0 _ hk
  obtain rfl : w = V.ref ad.x := rw'
  obtain ⟨z, hz, rz⟩ := S1.sl.2 k _ ht
  obtain rfl : z = V.int (p : Int) := rz
  obtain ⟨kA, kB, kH0, fs, x, h⟩ := S1.mu.ex
  obtain ⟨kH, hH, hlen, hv'', hP⟩ := BP.putH S1.mu hp r1
  refine ⟨_, hw, ad.x, _, ad.dx, ad.fs, .ref ad.aH, rfl, x.hx, T0.c_Bonds, T0.n_B_own_has, rfl, _, hz, ad.aH, _, rfl, DPut.k (k := Sum.inl (p : Int)) hH (sz_lt (by omega)), ?_⟩
  exact nx σ H1 _ Γ _ (n hv'') (gr_b (g.trans g1) Gb.refl hP) g1.e0 ⟨S1.sl, hP.e, hP⟩
end
end HF
set_option maxHeartbeats 400000
namespace HF
open PySem PyProof.Rows L2 Evl
section
variable {w : World} {K : PySem.W.Frag} {mg : Str → Option Value} {base : Heap}
theorem b_B_bind0 (T : Tx K mg) : ∃ ds, Vals (d_B_bind.dvs K) ds ∧ Binds K (fdOf K d_B_bind.at_) ["self", "one", "other", "source"] ds :=
  FunD.binds1 (ps := ["self", "one", "other", "source"]) T.F_B_bind 3 0 (by intro h; cases h) rfl fun _ _ _ _ _ _ _ us its h1 h2 => match us, its, h1, h2 with | [_, _, _], [_], _, _ => ⟨_, rfl, rfl⟩
theorem b_B_lower0 (T : Tx K mg) : ∃ ds, Vals (d_B_lower.dvs K) ds ∧ Binds K (fdOf K d_B_lower.at_) ["self", "one", "other", "source"] ds :=
  FunD.binds1 (ps := ["self", "one", "other", "source"]) T.F_B_lower 3 0 (by intro h; cases h) rfl fun _ _ _ _ _ _ _ us its h1 h2 => match us, its, h1, h2 with | [_, _, _], [_], _, _ => ⟨_, rfl, rfl⟩
theorem b_B_bind1 (T : Tx K mg) : Binds K (fdOf K d_B_bind.at_) ["self", "one", "other", "source"] [] := by
  obtain ⟨ds, h1, h2⟩ := FunD.binds1 (ps := ["self", "one", "other", "source"]) T.F_B_bind 4 1 (by intro h; cases h) rfl fun _ _ _ _ _ _ _ us its h1 h2 => match us, its, h1, h2 with | [_, _, _, _], [_], _, _ => ⟨_, rfl, rfl⟩
  cases h1
  exact h2
theorem b_B_lower1 (T : Tx K mg) : Binds K (fdOf K d_B_lower.at_) ["self", "one", "other", "source"] [] := by
  obtain ⟨ds, h1, h2⟩ := FunD.binds1 (ps := ["self", "one", "other", "source"]) T.F_B_lower 4 1 (by intro h; cases h) rfl fun _ _ _ _ _ _ _ us its h1 h2 => match us, its, h1, h2 with | [_, _, _, _], [_], _, _ => ⟨_, rfl, rfl⟩
  cases h1
  exact h2
theorem src0 (T : Tx K mg) {q : Str × Str × Nat} (h : q ∈ ([("Bonds", "__init__", 0), ("Bonds", "__init__", 1), ("Bonds", "bind", 0), ("Bonds", "lower", 0), ("Peeling", "__init__", 0), ("Peeling", "__init__", 1)] : List (Str × Str × Nat))) (H : Hp) : (SrcT K).r (.ref (He.dflAt (q.1, some q.2.1) q.2.2 K)) H := ⟨_, _, rfl, .inr (T.tup0 h H)⟩
def C_B_is_late (K : PySem.W.Frag) : List Ty → Ty → Prop := fun Rs R => ∃ s i j, i < s.L ∧ j < s.L ∧ Rs = [Bnd K s, tN i, tN j] ∧ R = tBo false
theorem sc_B_is_late : FnScope ["self", "one", "other", "begin", "end", "person", "place", "adder"] ["self", "one", "other"] (defScope s_B_is_late) := ⟨rfl, rfl, rfl, by decide +kernel, rfl, by decide +kernel, by decide +kernel⟩
theorem ok_B_is_late (T : Tx K mg) : FnOk PP w K mg base CX0 1 (He.fAd K d_B_is_late.at_) (fdOf K d_B_is_late.at_) ["self", "one", "other"] (spR (C_B_is_late K)) := by
  refine fn_ok T.F_B_is_late sc_B_is_late (by rintro _ _ ⟨s0, i, j, hi, hj, rfl, rfl⟩; rfl) fun Rs R hC cdv A outer s H E hr => ?_
  obtain ⟨s0, i, j, hi, hj, rfl, rfl⟩ := hC
  obtain ⟨p, hp⟩ := get_lt hi
  obtain ⟨q, hq⟩ := get_lt hj
  have hx := getElem?_map_some (r := tPr K) hp
  have hy := getElem?_map_some (r := tPr K) hq
  refine ⟨_, (pss_cons (ps_asg (pe_tup (pa_cons (pe_ix (r := rIxT K) ix_tup (pe_ix (r := rIxL K) ix_list (pe_fldK K (pv 0) rfl) (pv 1) (fun _ _ => rfl)) pe_int (fun _ _ => rfl)) (pa_cons (pe_ix (r := rIxL K) ix_list (pe_fldK K (pv 0) rfl) (pv 2) (fun _ _ => rfl)) pa_nil))) (pg_tupK K 2 rfl (pgs_cons (pg_name (i := 3) sc_B_is_late.nd rfl (Or.inr rfl)) (pgs_cons (pg_tupK K 2 rfl (pgs_cons (pg_name (i := 4) sc_B_is_late.nd rfl (Or.inr rfl)) (pgs_cons (pg_name (i := 5) sc_B_is_late.nd rfl (Or.inr rfl)) pgs_nil))) pgs_nil))))
      (pss_one (ps_ret (pe_callB (r := rAny K) (cr_any rfl) (by rfl) T.f_any (by decide +kernel) (pa_cons (pe_lc (own := [("place", 6), ("adder", 7)]) rfl sc_B_is_late.nd (pi_listK K (pe_fldK K (pv 0) rfl)) (blkOk_by (N := ["self", "one", "other", "begin", "end", "person", "place", "adder"]) (sc := _) (by kernel_rfl)) (fun _ _ _ _ _ => (pg_tupK K 2 rfl (pgs_cons (pg_name (i := 6) sc_B_is_late.nd rfl (Or.inl rfl)) (pgs_cons (pg_name (i := 7) sc_B_is_late.nd rfl (Or.inl rfl)) pgs_nil)))) (fun _ _ _ _ _ => pts_nil) (fun _ _ _ _ _ => (pe_and (pe_chain op_lt op_lt (pv 3) (pv 6) (pv 4)) (pe_one (pe_cmpR op_eq (pv 7) (pv 5) (nomark _)))))) pa_nil))))), fun e => ?_⟩
  exact hr_asg (RA := Tup K [tN p.1, tPr K q]) (y_tup (ya_cons (y_ixT (R := tN p.1) (n := 0) (y_ixL (n := i) (y_fld (y_var rfl) T.c_Bonds T.n_B_own_looks rfl) (y_var rfl) rfl hx) y_c rfl rfl) (ya_cons (y_ixL (n := j) (y_fld (y_var rfl) T.c_Bonds T.n_B_own_looks rfl) (y_var rfl) rfl hy) ya_nil)) (by show 2 ≤ 100000; decide)) (yg_tup2 yg_name (yg_tup2 yg_name yg_name))
    (hr_ret (y_any0 (bs := []) (y_lc0 (yi_list (y_fld (y_var rfl) T.c_Bonds T.n_B_own_adds rfl)))))
section
variable {Γ Γ' : Ctx} {μ : Mt} {R Ta : Ty} {Rs : List Ty} {ta td te to : TE} {tr : TA} {u : TS} {N : Ctx → Mt → Prop} {ad : BAd} {s : Bst} {hv : List V} {E0' : Hp} {k l i j p : Nat}
theorem hr_lowD (T : Tx K mg) (h0 : Γ[0]? = some (some (Is (.ref ad.x)))) (hk : Γ[k]? = some (some (tN i))) (hl : Γ[l]? = some (some (tN j))) (hok : s.Ok) (hi : i < s.L) (hj : j < s.L) (n : N Γ (Bm K ad hv (s.low i j))) :
    Hr (E0', ad.Hb) (tDrop (tMeth (He.ga K "Bonds") "lower" (sp_B_lower K) (d_B_lower.dvs K) E0 (tVar 0) (tCons (tVar k) (tCons (tVar l) tNil)))) Γ (Bm K ad hv s) N R := fun σ H0 H D g S nx rt => by
  obtain ⟨v, hv0, rv⟩ := S.sl.2 0 _ h0
  obtain rfl : v = V.ref ad.x := rv
  obtain ⟨v, hvk, rv⟩ := S.sl.2 k _ hk
  obtain rfl : v = V.int (i : Int) := rv
  obtain ⟨v, hvl, rv⟩ := S.sl.2 l _ hl
  obtain rfl : v = V.int (j : Int) := rv
  obtain ⟨kA, kB, kH, fs, x, h⟩ := S.mu.ex
  refine ⟨_, hv0, ad.x, ad.dx, ad.fs, rfl, x.hx, rfl, _, hvk, _, hvl, ?_⟩
  refine ⟨H0, ad, hv, s, i, j, _, S.mu, hok, hi, hj, rfl, src0 T (q := ("Bonds", "lower", 0)) (by simp) H0, fun H' b => ?_⟩
  exact nx σ H0 H' Γ _ n (gr_b g Gb.refl b) (Ex.refl _) ⟨S.sl, b.e, b⟩
theorem hr_bindD (T : Tx K mg) (h0 : Γ[0]? = some (some (Is (.ref ad.x)))) (hk : Γ[k]? = some (some (tN i))) (hl : Γ[l]? = some (some (tN j))) (hok : s.Ok) (hi : i < s.L) (hj : j < s.L) (n : N Γ (Bm K ad hv (s.bind i j))) :
    Hr (E0', ad.Hb) (tDrop (tMeth (He.ga K "Bonds") "bind" (sp_B_bind K) (d_B_bind.dvs K) E0 (tVar 0) (tCons (tVar k) (tCons (tVar l) tNil)))) Γ (Bm K ad hv s) N R := fun σ H0 H D g S nx rt => by
  obtain ⟨v, hv0, rv⟩ := S.sl.2 0 _ h0
  obtain rfl : v = V.ref ad.x := rv
  obtain ⟨v, hvk, rv⟩ := S.sl.2 k _ hk
  obtain rfl : v = V.int (i : Int) := rv
  obtain ⟨v, hvl, rv⟩ := S.sl.2 l _ hl
  obtain rfl : v = V.int (j : Int) := rv
  obtain ⟨kA, kB, kH, fs, x, h⟩ := S.mu.ex
  refine ⟨_, hv0, ad.x, ad.dx, ad.fs, rfl, x.hx, rfl, _, hvk, _, hvl, ?_⟩
  refine ⟨H0, ad, hv, s, i, j, _, S.mu, hok, hi, hj, rfl, src0 T (q := ("Bonds", "bind", 0)) (by simp) H0, fun H' b => ?_⟩
  exact nx σ H0 H' Γ _ n (gr_b g Gb.refl b) (Ex.refl _) ⟨S.sl, b.e, b⟩
end
def tNever : Ty := ⟨fun _ _ => False, fun _ _ _ _ h => h⟩
theorem run_diag {ad : BAd} {hv : List V} {s : Bst} {Γ : Ctx} {t : TS} {D : Ends} {σ : L2.St} {H0 H : Hp} (N : Ctx → Mt → Prop) (hP : (Bm K ad hv s).p H0 H) (he : Ex H0 H) (S : Sl σ H0 Γ) (h : Hr (H0, ad.Hb) t Γ (Bm K ad hv s) N tNever) (nx : ∀ σ' H0' H' Γ' μ', N Γ' μ' → Gb ad H0 H0' → Ex H0' H' → μ'.p H0' H' → D.nx σ' H') : t D σ H :=
  h σ H0 H D (gr_b0 hP) ⟨S, he, hP⟩ (fun σ' H0' H' Γ' μ' n g x s => nx σ' H0' H' Γ' μ' n ⟨x, g.f⟩ s.ex s.mu) (fun _ _ _ _ r => r.elim)
/-! ### looked -/
def lows (s : Bst) (os : List Nat) (m : Nat) : Bst := os.foldl (fun s o => s.low o m) s
theorem low_same (s : Bst) (i j : Nat) : (s.low i j).n = s.n ∧ (s.low i j).es = s.es ∧ (s.low i j).kd = s.kd ∧ (s.low i j).A = s.A ∧ (s.low i j).hs = s.hs := by
  unfold Bst.low
  split <;> exact ⟨rfl, rfl, rfl, rfl, rfl⟩
theorem lows_same : ∀ (os : List Nat) (s : Bst) (m : Nat), (lows s os m).n = s.n ∧ (lows s os m).es = s.es ∧ (lows s os m).kd = s.kd ∧ (lows s os m).A = s.A ∧ (lows s os m).hs = s.hs
  | [], s, m => ⟨rfl, rfl, rfl, rfl, rfl⟩
  | o :: os, s, m => by
    obtain ⟨h1, h2, h3, h4, h5⟩ := lows_same os (s.low o m) m
    obtain ⟨k1, k2, k3, k4, k5⟩ := low_same s o m
    exact ⟨h1.trans k1, h2.trans k2, h3.trans k3, h4.trans k4, h5.trans k5⟩
theorem Lof {s s' : Bst} (h : s'.es = s.es) : s'.L = s.L := by unfold Bst.L; rw [h]
theorem lows_ok : ∀ {os : List Nat} {s : Bst} {m : Nat}, s.Ok → (∀ o ∈ os, o < s.L) → m < s.L → (lows s os m).Ok
  | [], s, m, h, _, _ => h
  | o :: os, s, m, h, ho, hm => by
    have e := Lof (low_same s o m).2.1
    exact lows_ok (os := os) (s := s.low o m) (h.low (ho o List.mem_cons_self) hm) (fun x hx => by rw [e]; exact ho x (List.mem_cons_of_mem _ hx)) (by rw [e]; exact hm)
theorem lows_B : ∀ {os : List Nat} {s : Bst} {m : Nat}, (∀ o ∈ os, o ≠ m) → ∀ p, p ∈ (lows s os m).B ↔ p ∈ s.B ∨ (p.2 = m ∧ p.1 ∈ os)
  | [], s, m, _, p => by simp [lows]
  | o :: os, s, m, ho, p => by
    have h1 := lows_B (os := os) (s := s.low o m) (m := m) (fun x hx => ho x (List.mem_cons_of_mem _ hx)) p
    have h2 : p ∈ (s.low o m).B ↔ p ∈ s.B ∨ p = (o, m) := by
      unfold Bst.low
      split
      · exact mem_insP
      · rename_i hb
        unfold Bst.lowB at hb
        have hne := ho o List.mem_cons_self
        simp [hne] at hb
        exact ⟨.inl, fun h => h.elim id fun e => e ▸ hb⟩
    show p ∈ (lows (s.low o m) os m).B ↔ _
    rw [h1, h2]
    obtain ⟨a, b⟩ := p
    simp only [Prod.mk.injEq, List.mem_cons]
    constructor
    · rintro ((h | ⟨rfl, rfl⟩) | ⟨h1, h2⟩)
      · exact .inl h
      · exact .inr ⟨rfl, .inl rfl⟩
      · exact .inr ⟨h1, .inr h2⟩
    · rintro (h | ⟨rfl, rfl | h⟩)
      · exact .inl (.inl h)
      · exact .inl (.inr ⟨rfl, rfl⟩)
      · exact .inr ⟨rfl, h⟩
def Bst.look (s : Bst) (p m : Nat) : Bst := { lows s (s.hs p) m with hs := fun q => if q = p then s.hs p ++ [m] else s.hs q }
def sp_B_looked (K : PySem.W.Frag) : Sp := fun vs H Q _ => ∃ H0 ad hv s p m, BP K H0 H ad hv s ∧ s.Ok ∧ p < s.n ∧ s.n ≤ 1000 ∧ m < s.L ∧ (∀ o ∈ s.hs p, o < s.L) ∧ (s.hs p).length ≤ 1000 ∧ vs = [.ref ad.x, .int (p : Nat), .int (m : Nat)] ∧ ∀ H0' hv' H', Gb ad H0 H0' → BP K H0' H' ad hv' (s.look p m) → Q .non H'
theorem sc_B_looked : FnScope ["self", "person", "number", "other"] ["self", "person", "number"] (defScope s_B_looked) := ⟨rfl, rfl, rfl, by decide +kernel, rfl, by decide +kernel, by decide +kernel⟩
theorem ok_B_looked (T : Tx K mg) : FnOk PP w K mg base CX0 3 (He.fAd K d_B_looked.at_) (fdOf K d_B_looked.at_) ["self", "person", "number"] (sp_B_looked K) := by
  have G_B_lower := ok_B_lower T (w := w) (base := base)
  obtain ⟨ds, hL, bL⟩ := b_B_lower0 T
  refine T.F_B_looked.ok sc_B_looked (by rintro vs H Q E ⟨H0, ad, hv, s, p, m, _, _, _, _, _, _, _, rfl, _⟩; rfl) fun cdv A outer s_ H vs Q E hr ⟨H0, ad, hv, s, p, m, hP, hok, hp, hn, hm, hlt, hlen, evs, q⟩ => ?_
  subst evs
  refine ⟨_, PSs.nox (pss_cons (ps_for PassesOwn.never rfl (pi_listK K (pe_dget (hu_of hr) (pe_fldK K (pv 0) rfl) (pv 1) (fun _ _ => rfl))) (pg_name (i := 3) sc_B_looked.nd rfl (Or.inl rfl)) (pss_one (ps_expr (pe_meth (pv 0) T.c_Bonds T.m_B_lower G_B_lower (hr.mono (by decide)) bL hL pass0 (pa_cons (pv 3) (pa_cons (pv 2) pa_nil))))))
      (pss_one (ps_dput (hu_of hr) (pe_fldK K (pv 0) rfl) (pv 1) (pe_op op_cat (pe_dget (hu_of hr) (pe_fldK K (pv 0) rfl) (pv 1) (fun _ _ => rfl)) (pe_lst (pa_cons (pv 2) pa_nil))) rfl))), ?_⟩
  have hs := lows_same (s.hs p) s m
  refine run_diag (Γ := [some (Is (.ref ad.x)), some (tN p), some (tN m), none]) (fun _ μ' => ∃ hv', μ' = Bm K ad hv' (s.look p m)) hP hP.e (start_sl (Rs := [Is (.ref ad.x), tN p, tN m]) ⟨rfl, rfl, rfl, trivial⟩) ?_ (fun σ' H0' H' Γ' μ' ⟨hv', e⟩ x y hp => q H0' hv' H' x (by subst e; exact hp))
  exact
    hr_seq (N1 := fun Γ' μ' => Wk Γ' [some (Is (.ref ad.x)), some (tN p), some (tN m), none] ∧ μ' = Bm K ad hv (lows s (s.hs p) m)) (hr_for (fun i Γ' μ' => Wk Γ' [some (Is (.ref ad.x)), some (tN p), some (tN m), none] ∧ μ' = Bm K ad hv (lows s ((s.hs p).take i) m)) (yi_list (y_hasM T rfl (y_var (k := 1) rfl) hp)) ⟨Wk.refl, rfl⟩ (fun i R1 Γi μi ⟨wk, e⟩ hR => by
        subst e
        obtain ⟨o, ho, rfl⟩ := map_get hR
        have htake : (s.hs p).take (i + 1) = (s.hs p).take i ++ [o] := by rw [List.take_succ, ho]; rfl
        have eL := Lof (lows_same ((s.hs p).take i) s m).2.1
        have hol := hlt o (List.mem_of_getElem? ho)
        refine ⟨_, _, YG.weak wk yg_name, hr_lowD (k := 3) (l := 2) (i := o) (j := m) T rfl rfl rfl (lows_ok hok (fun x hx => hlt x (List.mem_of_mem_take hx)) hm) (by rw [eL]; exact hol) (by rw [eL]; exact hm) ⟨.keep (.keep (.keep (.skip .nil))), ?_⟩⟩
        rw [htake]
        unfold lows
        rw [List.foldl_append]
        rfl) (fun Γn μn ⟨wk, e⟩ => ⟨wk, by rw [List.length_map, List.take_length] at e; exact e⟩))
      fun Γ1 μ1 ⟨wk, e⟩ => by
        subst e
        refine hr_weak ?_ wk
        have hh : (lows s (s.hs p) m).hs p = s.hs p := by rw [hs.2.2.2.2]
        refine hr_putH (p := p) (k := 1) (ls := s.hs p ++ [m]) T rfl rfl (Y.to (y_cat (Rs := (s.hs p).map tN) (Ss := [m].map tN) (Y.to (y_hasM T rfl (y_var rfl) (by rw [hs.1]; exact hp)) (by rw [hh])) (y_lst (ya_cons (y_var rfl) ya_nil) (by show 1 ≤ 100000; decide)) (by rw [List.length_map, List.length_map, List.length_singleton]; omega)) (by show Lst _ = Lst _; rw [List.map_append])) (by rw [hs.1]; exact hp) (by rw [hs.1]; exact hn) fun hv' => ⟨hv', ?_⟩
        unfold Bst.look
        rw [hs.2.2.2.2]
end
end HF
set_option maxHeartbeats 400000
namespace HF
open PySem PyProof.Rows L2 Evl
section
variable {w : World} {K : PySem.W.Frag} {mg : Str → Option Value} {base : Heap}
/-- the same but for what is alike -/
structure SA (s s' : Bst) : Prop where
  n : s'.n = s.n
  es : s'.es = s.es
  kd : s'.kd = s.kd
  B : s'.B = s.B
  hs : s'.hs = s.hs
  ok : s'.Ok
theorem SA.refl {s : Bst} (h : s.Ok) : SA s s := ⟨rfl, rfl, rfl, rfl, rfl, h⟩
theorem SA.L {s s' : Bst} (h : SA s s') : s'.L = s.L := Lof h.es
theorem SA.bind {s s' : Bst} (h : SA s s') {i j : Nat} (hi : i < s.L) (hj : j < s.L) : SA s (s'.bind i j) := by
  have o := h.ok.bind (i := i) (j := j) (by rw [h.L]; exact hi) (by rw [h.L]; exact hj)
  have e : (s'.bind i j).n = s'.n ∧ (s'.bind i j).es = s'.es ∧ (s'.bind i j).kd = s'.kd ∧ (s'.bind i j).B = s'.B ∧ (s'.bind i j).hs = s'.hs := by
    unfold Bst.bind
    split <;> exact ⟨rfl, rfl, rfl, rfl, rfl⟩
  exact ⟨e.1.trans h.n, e.2.1.trans h.es, e.2.2.1.trans h.kd, e.2.2.2.1.trans h.B, e.2.2.2.2.trans h.hs, o⟩
def upd1 (hs : Nat → List Nat) (p : Nat) (l : List Nat) : Nat → List Nat := fun q => if q = p then l else hs q
def cmpHs (long : Bool) (L : Nat) (hs : Nat → List Nat) (meet : Bool) (p q : Nat) : Nat → List Nat :=
  if long then (if meet then upd1 (upd1 hs q (up L (hs p ++ hs q))) p (up L (hs p ++ hs q)) else upd1 hs q (up L (hs p ++ hs q))) else hs
def sp_B_compared (K : PySem.W.Frag) : Sp := fun vs H Q _ => ∃ H0 ad hv s p q wd ev, BP K H0 H ad hv s ∧ s.Ok ∧ p < s.n ∧ q < s.n ∧ s.n ≤ 1000 ∧ (∀ x, x < s.n → (∀ o ∈ s.hs x, o < s.L) ∧ (s.hs x).length ≤ 16) ∧ (Tup K [tSt wd, tN p, tN q]).r ev H0 ∧ vs = [.ref ad.x, ev] ∧
  ∀ s' H0' hv' H', Gb ad H0 H0' → s'.n = s.n → s'.es = s.es → s'.kd = s.kd → s'.B = s.B → s'.Ok → s'.hs = cmpHs (decide (s.kd = "long")) s.L s.hs (decide (wd = "meet")) p q → BP K H0' H' ad hv' s' → Q .non H'
theorem run_asg {Γ Γ1 : Ctx} {μ : Mt} {RA : Ty} {te : TE} {gg : TG} {is : List Nat} {u : TS} {D : Ends} {σ : L2.St} {H0 H : Hp} (h : Y te Γ μ RA) (hg : YG gg RA Γ Γ1 is) (S : Sx σ H0 H Γ μ) (k : ∀ σ' H0' H', Gr H0 H H0' H' → Sx σ' H0' H' Γ1 μ → u D σ' H') : tSeq (tAsg te gg) u D σ H :=
  h σ H0 H S _ fun v H1 G1 g1 r1 => hg v σ H1 G1 (S.gr g1).sl r1 g1.p _ fun σ' s' _ => k σ' H1 G1 g1 ⟨s', g1.p, (S.gr g1).mu⟩
theorem run_set {Γ : Ctx} {μ : Mt} {RA : Ty} {te : TE} {i : Nat} {u : TS} {D : Ends} {σ : L2.St} {H0 H : Hp} (h : Y te Γ μ RA) (S : Sx σ H0 H Γ μ) (k : ∀ v H0' H', Gr H0 H H0' H' → Sx (σ.set i (some v)) H0' H' (Γ.set i (some RA)) μ → u D (σ.set i (some v)) H') : tSeq (tAsg te (gName i)) u D σ H :=
  h σ H0 H S _ fun v H1 G1 g1 r1 => k v H1 G1 g1 ((S.gr g1).set i r1)
theorem run_par {Γ : Ctx} {μ : Mt} {RA RB : Ty} {tr : TA} {k l : Nat} {u : TS} {D : Ends} {σ : L2.St} {H0 H : Hp} (h : YA tr Γ μ [RA, RB]) (S : Sx σ H0 H Γ μ) (q : ∀ σ' H0' H', Gr H0 H H0' H' → Sx σ' H0' H' ((Γ.set k (some RA)).set l (some RB)) μ → u D σ' H') : tSeq (tPar k l tr) u D σ H :=
  h σ H0 H S _ fun vs H1 G1 g1 r1 => by
    obtain ⟨v, w, rfl, rv, rw'⟩ := r1.two
    exact ⟨v, w, rfl, q _ H1 G1 g1 (((S.gr g1).set k rv).set l rw')⟩
/-- an if of which the side is known -/
theorem run_if {Γ : Ctx} {μ : Mt} {tt : TT} {t t' u : TS} {b : Bool} {D : Ends} {σ : L2.St} {H0 H : Hp} (h : YT tt Γ μ b) (S : Sx σ H0 H Γ μ) (k : ∀ H0' H', Gr H0 H H0' H' → Sx σ H0' H' Γ μ → (match b with | true => t | false => t') { D with nx := u D } σ H') : tSeq (tIfS tt t t') u D σ H :=
  h σ H0 H S _ fun H1 G1 g1 => by
    have := k H1 G1 g1 (S.gr g1)
    cases b with
    | true => exact this
    | false => exact this
theorem last_mem {l : List Nat} {x : Nat} (h : x ∈ l.drop (l.length - 1)) : x ∈ l := List.mem_of_mem_drop h
theorem sc_B_compared : FnScope ["self", "event", "both", "word", "person", "other", "mine", "its", "one", "place", "two"] ["self", "event"] (defScope s_B_compared) := ⟨rfl, rfl, rfl, by decide +kernel, rfl, by decide +kernel, by decide +kernel⟩
theorem ok_B_compared (T : Tx K mg) : FnOk PP w K mg base CX0 3 (He.fAd K d_B_compared.at_) (fdOf K d_B_compared.at_) ["self", "event"] (sp_B_compared K) := by
  have G_B_bind := ok_B_bind T (w := w) (base := base)
  obtain ⟨ds, hB, bB⟩ := b_B_bind0 T
  refine T.F_B_compared.ok sc_B_compared (by rintro vs H Q E ⟨H0, ad, hv, s, p, q, wd, ev, _, _, _, _, _, _, _, rfl, _⟩; rfl) fun cdv A outer s_ H vs Q E hr ⟨H0, ad, hv, s, p, q, wd, ev, hP, hok, hp, hq, hn, hhs, hev, evs, qq⟩ => ?_
  subst evs
  refine ⟨_, PSs.nox (pss_cons (ps_asg (pv 1) (pg_tupK K 3 rfl (pgs_cons (pg_name (i := 3) sc_B_compared.nd rfl (Or.inl rfl)) (pgs_cons (pg_name (i := 4) sc_B_compared.nd rfl (Or.inl rfl)) (pgs_cons (pg_name (i := 5) sc_B_compared.nd rfl (Or.inl rfl)) pgs_nil)))))
      (pss_cons (ps_par (i := 6) (j := 7) (by rfl) sc_B_compared.nd rfl rfl (by decide) rfl rfl (pa_cons (pe_dget (hu_of hr) (pe_fldK K (pv 0) rfl) (pv 4) (fun _ _ => rfl)) (pa_cons (pe_dget (hu_of hr) (pe_fldK K (pv 0) rfl) (pv 5) (fun _ _ => rfl)) pa_nil)) (by rfl))
      (pss_cons (ps_if (pt_cmpR op_ne (pe_fldK K (pv 0) rfl) (pe_S rfl T.s_LONG) (nomark _)) (pss_cons (ps_for PassesOwn.never rfl (pi_listK K (pe_slice (r := rSlL K) sl_list (pv 6) (po_some (pe_un un_neg pe_int)) po_none)) (pg_name (i := 8) sc_B_compared.nd rfl (Or.inl rfl)) (pss_one (ps_for PassesOwn.never rfl (pi_listK K (pe_slice (r := rSlL K) sl_list (pv 7) (po_some (pe_un un_neg pe_int)) po_none)) (pg_name (i := 10) sc_B_compared.nd rfl (Or.inl rfl)) (pss_one (ps_expr (pe_meth (pv 0) T.c_Bonds T.m_B_bind G_B_bind (hr.mono (by decide)) bB hB pass0 (pa_cons (pv 8) (pa_cons (pv 10) pa_nil))))))))
      (pss_one ps_retN)) pss_nil)
      (pss_cons (ps_set (i := 2) sc_B_compared.nd rfl (Or.inl rfl) (pe_callB (r := rSortedSet w) (cr_sortedSet rfl) (by rfl) T.f_sorted (by decide +kernel) (pa_cons (pe_callTy (r := rSetL K w) (cr_setL rfl) (by rfl) T.f_set (by decide +kernel) (pa_cons (pe_op op_cat (pv 6) (pv 7)) pa_nil)) pa_nil)))
      (pss_cons (ps_for PassesOwn.never rfl (pi_enumK K (by rfl) T.f_enumerate (pa_cons (pv 2) pa_nil)) (pg_tupK K 2 rfl (pgs_cons (pg_name (i := 9) sc_B_compared.nd rfl (Or.inl rfl)) (pgs_cons (pg_name (i := 8) sc_B_compared.nd rfl (Or.inl rfl)) pgs_nil))) (pss_one (ps_for PassesOwn.never rfl (pi_listK K (pe_slice (r := rSlL K) sl_list (pv 2) (po_some (pe_op op_add (pv 9) pe_int)) po_none)) (pg_name (i := 10) sc_B_compared.nd rfl (Or.inl rfl)) (pss_one (ps_expr (pe_meth (pv 0) T.c_Bonds T.m_B_bind G_B_bind (hr.mono (by decide)) bB hB pass0 (pa_cons (pv 8) (pa_cons (pv 10) pa_nil))))))))
      (pss_cons (ps_dput (hu_of hr) (pe_fldK K (pv 0) rfl) (pv 5) (pv 2) rfl)
      (pss_one (ps_if (pt_cmpR op_eq (pv 3) (pe_S rfl T.s_MEET) (nomark _)) (pss_one (ps_dput (hu_of hr) (pe_fldK K (pv 0) rfl) (pv 4) (pv 2) rfl)) pss_nil)))))))), ?_⟩
  obtain ⟨hpl, hpn⟩ := hhs p hp
  obtain ⟨hql, hqn⟩ := hhs q hq
  have S0 : Sl (L2.start ["self", "event", "both", "word", "person", "other", "mine", "its", "one", "place", "two"] [.ref ad.x, ev]) H0 [some (Is (.ref ad.x)), some (Tup K [tSt wd, tN p, tN q]), none, none, none, none, none, none, none, none, none] := start_sl (Rs := [Is (.ref ad.x), Tup K [tSt wd, tN p, tN q]]) ⟨rfl, hev, trivial⟩
  have cutl : ∀ xs : List Nat, cutR (xs.map tN) (some (-1)) none = (xs.drop (xs.length - 1)).map tN := fun xs => by rw [cut_last, List.length_map, List.map_drop]
  -- the two targets, as contexts
  let G : Ctx := [some (Is (.ref ad.x)), some (Tup K [tSt wd, tN p, tN q]), none, some (tSt wd), some (tN p), some (tN q), some (tNs (s.hs p)), some (tNs (s.hs q)), none, none, none]
  -- all binds in a double loop
  by_cases hk : s.kd = ("long" : Str)
  · let both := up s.L (s.hs p ++ s.hs q)
    have hall : ∀ x ∈ s.hs p ++ s.hs q, x < s.L := fun x hx => (List.mem_append.mp hx).elim (hpl x) (hql x)
    have hbl : ∀ x ∈ both, x < s.L := fun x hx => hall x ((mem_up hall).mp hx)
    have hbn : both.length ≤ 1000 := by
      have := hok.L8
      have h2 : both.length ≤ s.L := by
        show ((List.range s.L).filter _).length ≤ s.L
        exact Nat.le_trans (List.length_filter_le _ _) (by rw [List.length_range]; exact Nat.le_refl _)
      omega
    have hcm : cmpHs (decide (s.kd = "long")) s.L s.hs (decide (wd = "meet")) p q = if decide (wd = "meet") = true then upd1 (upd1 s.hs q both) p both else upd1 s.hs q both := by
      unfold cmpHs
      rw [decide_eq_true hk]
      rfl
    rw [hcm] at qq
    let Gb : Ctx := [some (Is (.ref ad.x)), none, some (tNs both), some (tSt wd), some (tN p), some (tN q), none, none, none, none, none]
    refine run_diag (fun _ μ' => ∃ s' hv', μ' = Bm K ad hv' s' ∧ s'.n = s.n ∧ s'.es = s.es ∧ s'.kd = s.kd ∧ s'.B = s.B ∧ s'.Ok ∧ s'.hs = if decide (wd = "meet") = true then upd1 (upd1 s.hs q both) p both else upd1 s.hs q both) hP hP.e S0 ?_ (fun σ' H0' H' Γ' μ' ⟨s', hv', e, h1, h2, h3, h4, h5, h6⟩ x y hp => qq s' H0' hv' H' x h1 h2 h3 h4 h5 h6 (by subst e; exact hp))
    refine hr_asg (RA := Tup K [tSt wd, tN p, tN q]) (y_var rfl) (yg_tup3 yg_name yg_name yg_name) (hr_par (RA := tNs (s.hs p)) (RB := tNs (s.hs q)) (ya_cons (y_hasM T rfl (y_var rfl) hp) (ya_cons (y_hasM T rfl (y_var rfl) hq) ya_nil)) (hr_ifr (b := false) (YT.to (yt_t (y_neS (y_fldM (R := tSt s.kd) T rfl T.n_B_own_kind rfl (fun H0 b => by show V.str ad.kd = V.str s.kd; rw [b.kd])) y_c)) (by rw [decide_eq_true hk]; rfl)) (fun h => nomatch h) (fun _ => ?_)))
    refine hr_set (RA := tNs both) (y_sset (n := s.L) (Y.to (y_cat (Rs := (s.hs p).map tN) (Ss := (s.hs q).map tN) (y_var rfl) (y_var rfl) (by rw [List.length_map, List.length_map]; omega)) (by show Lst _ = Lst _; rw [List.map_append])) hall (by rw [List.length_append]; omega)) ?_
    refine hr_seq (N1 := fun Γ' μ' => Wk Γ' Gb ∧ ∃ s', SA s s' ∧ μ' = Bm K ad hv s') (hr_for (fun _ Γ' μ' => Wk Γ' Gb ∧ ∃ s', SA s s' ∧ μ' = Bm K ad hv s') (yi_enumLM (xs := both) (r := tN) (ya_cons (y_var rfl) ya_nil)) ⟨.keep (.skip (.keep (.keep (.keep (.keep (.skip (.skip (.skip (.skip (.skip .nil)))))))))), s, SA.refl hok, rfl⟩ (fun i R1 Γi μi ⟨wk, s', hsa, e⟩ hR => ?_) (fun _ _ h => h)) ?_
    · subst e
      obtain ⟨⟨pl, a⟩, ha, rfl⟩ := map_get hR
      have hab : a < s.L := by
        have h3 : (ixs both)[i]? = some (pl, a) := ha
        unfold ixs at h3
        rw [List.getElem?_mapIdx] at h3
        cases e : both[i]? with
        | none => rw [e] at h3; cases h3
        | some z => rw [e] at h3; cases h3; exact hbl _ (List.mem_of_getElem? e)
      refine ⟨_, _, YG.weak wk (yg_tup2 yg_name yg_name), hr_for (fun _ Γ' μ' => Wk Γ' [some (Is (.ref ad.x)), none, some (tNs both), some (tSt wd), some (tN p), some (tN q), none, none, some (tN a), none, none] ∧ ∃ s', SA s s' ∧ μ' = Bm K ad hv s') (yi_list (Rs := (both.drop (pl + 1)).map tN) (Y.to (y_slL (Rs := both.map tN) (y_var rfl) (yo_some (y_addN (n := pl) (m := 1) (y_var rfl) y_c)) yo_none) (by rw [cut_from, ← List.map_drop]))) ⟨.keep (.skip (.keep (.keep (.keep (.keep (.skip (.skip (.keep (.skip (.skip .nil)))))))))), s', hsa, rfl⟩ (fun j R2 Γj μj ⟨wk2, s2, hsa2, e2⟩ hR2 => ?_) (fun Γn μn ⟨wk2, h⟩ => ⟨wk2.trans (.keep (.skip (.keep (.keep (.keep (.keep (.skip (.skip (.skip (.skip (.skip .nil))))))))))), h⟩)⟩
      subst e2
      obtain ⟨b, hb, rfl⟩ := map_get hR2
      have hbb := hbl b (List.mem_of_mem_drop (List.mem_of_getElem? hb))
      exact ⟨_, _, YG.weak wk2 yg_name, hr_bindD (k := 8) (l := 10) (i := a) (j := b) T rfl rfl rfl hsa2.ok (by rw [hsa2.L]; exact hab) (by rw [hsa2.L]; exact hbb) ⟨.keep (.skip (.keep (.keep (.keep (.keep (.skip (.skip (.keep (.skip (.skip .nil)))))))))), _, hsa2.bind hab hbb, rfl⟩⟩
    · rintro Γ1 μ1 ⟨wk, s', hsa, rfl⟩
      refine hr_weak ?_ wk
      refine hr_seq (N1 := fun Γ' μ' => Γ' = Gb ∧ ∃ hv', μ' = Bm K ad hv' { s' with hs := upd1 s'.hs q both }) (hr_putH (p := q) (k := 5) (ls := both) T rfl rfl (y_var rfl) (by rw [hsa.n]; exact hq) (by rw [hsa.n]; exact hn) fun hv' => ⟨rfl, hv', rfl⟩) ?_
      rintro _ _ ⟨rfl, hv1, rfl⟩
      have ok1 : ({ s' with hs := upd1 s'.hs q both } : Bst).Ok := ⟨hsa.ok.len, hsa.ok.L8, hsa.ok.an, hsa.ok.ab, hsa.ok.bn, hsa.ok.bb, hsa.ok.sym⟩
      refine hr_if (yt_t (y_eqS (y_var rfl) y_c)) (fun h => ?_) (fun h => hr_nil ⟨_, hv1, rfl, hsa.n, hsa.es, hsa.kd, hsa.B, ok1, ?_⟩)
      · refine hr_putH (p := p) (k := 4) (ls := both) T rfl rfl (y_var rfl) (by show p < s'.n; rw [hsa.n]; exact hp) (by show s'.n ≤ 1000; rw [hsa.n]; exact hn) fun hv' => ⟨_, hv', rfl, hsa.n, hsa.es, hsa.kd, hsa.B, ⟨hsa.ok.len, hsa.ok.L8, hsa.ok.an, hsa.ok.ab, hsa.ok.bn, hsa.ok.bb, hsa.ok.sym⟩, ?_⟩
        rw [if_pos h]
        show upd1 (upd1 s'.hs q both) p both = _
        rw [hsa.hs]
      · rw [if_neg (by rw [h]; decide)]
        show upd1 s'.hs q both = _
        rw [hsa.hs]
  · have hcm : cmpHs (decide (s.kd = "long")) s.L s.hs (decide (wd = "meet")) p q = s.hs := by
      unfold cmpHs
      rw [decide_eq_false hk]
      rfl
    rw [hcm] at qq
    have SX : Sx _ H0 H [some (Is (.ref ad.x)), some (Tup K [tSt wd, tN p, tN q]), none, none, none, none, none, none, none, none, none] (Bm K ad hv s) := ⟨S0, hP.e, hP⟩
    refine run_asg (RA := Tup K [tSt wd, tN p, tN q]) (y_var rfl) (yg_tup3 yg_name yg_name yg_name) SX fun σ1 K1 H1 g1 S1 => ?_
    refine run_par (RA := tNs (s.hs p)) (RB := tNs (s.hs q)) (ya_cons (y_hasM T rfl (y_var rfl) hp) (ya_cons (y_hasM T rfl (y_var rfl) hq) ya_nil)) S1 fun σ2 K2 H2 g2 S2 => ?_
    refine run_if (b := true) (YT.to (yt_t (y_neS (y_fldM (R := tSt s.kd) T rfl T.n_B_own_kind rfl (fun H0 b => by show V.str ad.kd = V.str s.kd; rw [b.kd])) y_c)) (by rw [decide_eq_false hk]; rfl)) S2 fun K3 H3 g3 S3 => ?_
    have S4 := S3.weak (Γ' := [some (Is (.ref ad.x)), none, none, none, none, none, some (tNs (s.hs p)), some (tNs (s.hs q)), none, none, none]) (.keep (.skip (.skip (.skip (.skip (.skip (.keep (.keep (.skip (.skip (.skip .nil)))))))))))
    have hx : Gb ad H0 K3 := Gb.of ((g1.trans g2).trans g3) hP.eb
    refine seq_go (run_diag (fun _ μ' => ∃ s', SA s s' ∧ μ' = Bm K ad hv s') S4.mu S4.ex S4.sl ?_ (fun σ' H0' H' Γ' μ' ⟨s', hsa, e⟩ x y hp => qq s' H0' hv H' (hx.trans x) hsa.n hsa.es hsa.kd hsa.B hsa.ok hsa.hs (by subst e; exact hp)))
    refine hr_for (fun _ Γ' μ' => Wk Γ' [some (Is (.ref ad.x)), none, none, none, none, none, none, some (tNs (s.hs q)), none, none, none] ∧ ∃ s', SA s s' ∧ μ' = Bm K ad hv s') (yi_list (Rs := ((s.hs p).drop ((s.hs p).length - 1)).map tN) (Y.to (y_slL (Rs := (s.hs p).map tN) (y_var rfl) (yo_some (y_neg y_c)) yo_none) (by rw [cutl]))) ⟨.keep (.skip (.skip (.skip (.skip (.skip (.skip (.keep (.skip (.skip (.skip .nil)))))))))), s, SA.refl hok, rfl⟩ (fun i R1 Γi μi ⟨wk, s', hsa, e⟩ hR => ?_) (fun _ _ h => h.2)
    subst e
    obtain ⟨a, ha, rfl⟩ := map_get hR
    have hab := hpl a (last_mem (List.mem_of_getElem? ha))
    refine ⟨_, _, YG.weak wk yg_name, hr_for (fun _ Γ' μ' => Wk Γ' [some (Is (.ref ad.x)), none, none, none, none, none, none, some (tNs (s.hs q)), some (tN a), none, none] ∧ ∃ s', SA s s' ∧ μ' = Bm K ad hv s') (yi_list (Rs := ((s.hs q).drop ((s.hs q).length - 1)).map tN) (Y.to (y_slL (Rs := (s.hs q).map tN) (y_var rfl) (yo_some (y_neg y_c)) yo_none) (by rw [cutl]))) ⟨.keep (.skip (.skip (.skip (.skip (.skip (.skip (.keep (.keep (.skip (.skip .nil)))))))))), s', hsa, rfl⟩ (fun j R2 Γj μj ⟨wk2, s2, hsa2, e2⟩ hR2 => ?_) (fun Γn μn ⟨wk2, h⟩ => ⟨wk2.trans (.keep (.skip (.skip (.skip (.skip (.skip (.skip (.keep (.skip (.skip (.skip .nil))))))))))), h⟩)⟩
    subst e2
    obtain ⟨b, hb, rfl⟩ := map_get hR2
    have hbb := hql b (last_mem (List.mem_of_getElem? hb))
    exact ⟨_, _, YG.weak wk2 yg_name, hr_bindD (k := 8) (l := 10) (i := a) (j := b) T rfl rfl rfl hsa2.ok (by rw [hsa2.L]; exact hab) (by rw [hsa2.L]; exact hbb) ⟨.keep (.skip (.skip (.skip (.skip (.skip (.skip (.keep (.keep (.skip (.skip .nil)))))))))), _, hsa2.bind hab hbb, rfl⟩⟩
end
end HF
set_option maxHeartbeats 400000
namespace HF
/-! ### what goes through: plainly -/
structure Sim where
  k : Nat
  hs : Nat → List Nat
  bs : List (Nat × Nat)
def Sim.step (long : Bool) (L : Nat) (c : Sim) : Evt → Sim
  | .look p => ⟨c.k + 1, upd1 c.hs p (c.hs p ++ [c.k]), c.bs ++ (c.hs p).map fun o => (o, c.k)⟩
  | .meet p q => { c with hs := cmpHs long L c.hs true p q }
  | .tell p q => { c with hs := cmpHs long L c.hs false p q }
def sim0 : Sim := ⟨0, fun _ => [], []⟩
def sim (long : Bool) (L : Nat) (es : List Evt) : Sim := es.foldl (Sim.step long L) sim0
def EvOk (n : Nat) : Evt → Prop
  | .look p => p < n
  | .meet p q => p < n ∧ q < n
  | .tell p q => p < n ∧ q < n
theorem sim_snoc (long : Bool) (L : Nat) (es : List Evt) (e : Evt) : sim long L (es ++ [e]) = (sim long L es).step long L e := by
  unfold sim
  rw [List.foldl_append]
  rfl
def cnt (es : List Evt) : Nat := (es.filter Evt.isL).length
theorem cnt_looks (es : List Evt) : (looksL es).length = cnt es := by
  unfold looksL cnt
  rw [List.length_map]
  have h1 : (ixs es).map (·.2) = es := by
    unfold ixs
    refine List.ext_getElem? fun i => ?_
    rw [List.getElem?_map, List.getElem?_mapIdx]
    cases es[i]? <;> rfl
  have h2 : ((ixs es).filter fun p => p.2.isL).map (·.2) = ((ixs es).map (·.2)).filter Evt.isL := by
    rw [List.filter_map]
    rfl
  rw [h1] at h2
  rw [← h2, List.length_map]
theorem sim_k (long : Bool) (L : Nat) : ∀ (es : List Evt) (c : Sim), (es.foldl (Sim.step long L) c).k = c.k + cnt es
  | [], c => rfl
  | e :: es, c => by
    show (es.foldl (Sim.step long L) (c.step long L e)).k = _
    rw [sim_k long L es]
    unfold cnt
    cases e with
    | look p => simp [Evt.isL, List.filter_cons, Sim.step]; omega
    | meet p q => simp [Evt.isL, List.filter_cons, Sim.step]
    | tell p q => simp [Evt.isL, List.filter_cons, Sim.step]
structure SimOk (L : Nat) (c : Sim) : Prop where
  lt : ∀ x, ∀ o ∈ c.hs x, o < c.k
  nd : ∀ x, (c.hs x).Nodup
  bs : ∀ p ∈ c.bs, p.1 < p.2 ∧ p.2 < c.k
theorem SimOk.len {L : Nat} {c : Sim} (h : SimOk L c) (x : Nat) : (c.hs x).length ≤ c.k := by
  have := (h.nd x).length_le_of_subset (l₂ := List.range c.k) fun o ho => List.mem_range.mpr (h.lt x o ho)
  rwa [List.length_range] at this
theorem up_lts {L k : Nat} {ns : List Nat} (h : ∀ x ∈ ns, x < k) : ∀ x ∈ up L ns, x < k := fun x hx => by
  unfold up at hx
  exact h x (of_decide_eq_true (List.mem_filter.mp hx).2)
theorem cmp_ok {long meet : Bool} {L k : Nat} {hs : Nat → List Nat} {p q : Nat} (h1 : ∀ x, ∀ o ∈ hs x, o < k) (h2 : ∀ x, (hs x).Nodup) : (∀ x, ∀ o ∈ cmpHs long L hs meet p q x, o < k) ∧ ∀ x, (cmpHs long L hs meet p q x).Nodup := by
  have hb : ∀ o ∈ up L (hs p ++ hs q), o < k := up_lts fun x hx => (List.mem_append.mp hx).elim (h1 p x) (h1 q x)
  have key : ∀ x, cmpHs long L hs meet p q x = hs x ∨ cmpHs long L hs meet p q x = up L (hs p ++ hs q) := fun x => by
    unfold cmpHs
    cases long with
    | false => exact .inl rfl
    | true =>
      cases meet with
      | true =>
        show upd1 (upd1 hs q _) p _ x = _ ∨ upd1 (upd1 hs q _) p _ x = _
        unfold upd1
        by_cases a : x = p
        · rw [if_pos a]; exact .inr rfl
        · rw [if_neg a]
          by_cases b : x = q
          · rw [if_pos b]; exact .inr rfl
          · rw [if_neg b]; exact .inl rfl
      | false =>
        show upd1 hs q _ x = _ ∨ upd1 hs q _ x = _
        unfold upd1
        by_cases b : x = q
        · rw [if_pos b]; exact .inr rfl
        · rw [if_neg b]; exact .inl rfl
  refine ⟨fun x o ho => ?_, fun x => ?_⟩
  · rcases key x with e | e
    · rw [e] at ho; exact h1 x o ho
    · rw [e] at ho; exact hb o ho
  · rcases key x with e | e
    · rw [e]; exact h2 x
    · rw [e]; exact up_nodup
theorem SimOk.step {long : Bool} {L : Nat} {c : Sim} (h : SimOk L c) (e : Evt) : SimOk L (c.step long L e) := by
  cases e with
  | look p =>
    refine ⟨fun x o ho => ?_, fun x => ?_, fun q hq => ?_⟩
    · show o < c.k + 1
      have ho' : o ∈ upd1 c.hs p (c.hs p ++ [c.k]) x := ho
      unfold upd1 at ho'
      split at ho'
      · rcases List.mem_append.mp ho' with h1 | h1
        · have := h.lt p o h1; omega
        · rw [List.mem_singleton.mp h1]; omega
      · have := h.lt x o ho'; omega
    · show (upd1 c.hs p (c.hs p ++ [c.k]) x).Nodup
      unfold upd1
      split
      · rw [List.nodup_append]
        exact ⟨h.nd p, by simp, fun a ha b hb z => by
          rw [List.mem_singleton.mp hb] at z
          have := h.lt p a ha
          omega⟩
      · exact h.nd x
    · show q.1 < q.2 ∧ q.2 < c.k + 1
      rcases List.mem_append.mp (show q ∈ c.bs ++ (c.hs p).map fun o => (o, c.k) from hq) with h1 | h1
      · have := h.bs q h1; omega
      · obtain ⟨o, ho, rfl⟩ := List.mem_map.mp h1
        have := h.lt p o ho
        show o < c.k ∧ c.k < c.k + 1
        omega
  | meet p q =>
    obtain ⟨h1, h2⟩ := cmp_ok (long := long) (meet := true) (L := L) (p := p) (q := q) h.lt h.nd
    exact ⟨h1, h2, h.bs⟩
  | tell p q =>
    obtain ⟨h1, h2⟩ := cmp_ok (long := long) (meet := false) (L := L) (p := p) (q := q) h.lt h.nd
    exact ⟨h1, h2, h.bs⟩
theorem sim_ok (long : Bool) (L : Nat) : ∀ (es : List Evt) (c : Sim), SimOk L c → SimOk L (es.foldl (Sim.step long L) c)
  | [], c, h => h
  | e :: es, c, h => sim_ok long L es _ (h.step e)
theorem sim0_ok (L : Nat) : SimOk L sim0 := ⟨fun _ _ h => (nomatch h), fun _ => List.nodup_nil, fun _ h => (nomatch h)⟩
end HF
set_option maxHeartbeats 400000
namespace HF
open PySem PyProof.Rows L2 Evl
section
variable {w : World} {K : PySem.W.Frag} {mg : Str → Option Value} {base : Heap}
section
variable {Γ Γ' : Ctx} {μ : Mt} {R Ta : Ty} {Rs : List Ty} {ta td te to : TE} {tr : TA} {u : TS} {N : Ctx → Mt → Prop} {ad : BAd} {s : Bst} {hv : List V} {E0' : Hp} {k l i j p m q : Nat} {wd : Str}
theorem hr_lookD (h0 : Γ[0]? = some (some (Is (.ref ad.x)))) (hA : YA tr Γ (Bm K ad hv s) [tN p, tN m]) (hok : s.Ok) (hp : p < s.n) (hn : s.n ≤ 1000) (hm : m < s.L) (hlt : ∀ o ∈ s.hs p, o < s.L) (hlen : (s.hs p).length ≤ 1000) (n : ∀ hv', N Γ (Bm K ad hv' (s.look p m))) :
    Hr (E0', ad.Hb) (tDrop (tMeth (He.ga K "Bonds") "looked" (sp_B_looked K) [] E0 (tVar 0) tr)) Γ (Bm K ad hv s) N R := fun σ H0 H D g S nx rt => by
  obtain ⟨v, hv0, rv⟩ := S.sl.2 0 _ h0
  obtain rfl : v = V.ref ad.x := rv
  obtain ⟨kA, kB, kH, fs, x, h⟩ := S.mu.ex
  refine ⟨_, hv0, ad.x, ad.dx, ad.fs, rfl, x.hx, rfl, ?_⟩
  refine hA σ H0 H S _ fun vs K1 H1 g1 r1 => ?_
  have S1 := S.gr g1
  have evs := AllR.nats (ns := [p, m]) r1
  refine ⟨K1, ad, hv, s, p, m, S1.mu, hok, hp, hn, hm, hlt, hlen, by rw [evs]; rfl, fun H0' hv' H' x' b => ?_⟩
  exact nx σ H0' H' Γ _ (n hv') (gr_b (g.trans g1) x' b) (g1.e0.trans x'.1) ⟨S1.sl.mono x'.1, b.e, b⟩
theorem hr_cmpD (h0 : Γ[0]? = some (some (Is (.ref ad.x)))) (hA : YA tr Γ (Bm K ad hv s) [Tup K [tSt wd, tN p, tN q]]) (hok : s.Ok) (hp : p < s.n) (hq : q < s.n) (hn : s.n ≤ 1000) (hhs : ∀ x, x < s.n → (∀ o ∈ s.hs x, o < s.L) ∧ (s.hs x).length ≤ 16)
    (n : ∀ s' hv', s'.n = s.n → s'.es = s.es → s'.kd = s.kd → s'.B = s.B → s'.Ok → s'.hs = cmpHs (decide (s.kd = "long")) s.L s.hs (decide (wd = "meet")) p q → N Γ (Bm K ad hv' s')) :
    Hr (E0', ad.Hb) (tDrop (tMeth (He.ga K "Bonds") "compared" (sp_B_compared K) [] E0 (tVar 0) tr)) Γ (Bm K ad hv s) N R := fun σ H0 H D g S nx rt => by
  obtain ⟨v, hv0, rv⟩ := S.sl.2 0 _ h0
  obtain rfl : v = V.ref ad.x := rv
  obtain ⟨kA, kB, kH, fs, x, h⟩ := S.mu.ex
  refine ⟨_, hv0, ad.x, ad.dx, ad.fs, rfl, x.hx, rfl, ?_⟩
  refine hA σ H0 H S _ fun vs K1 H1 g1 r1 => ?_
  have S1 := S.gr g1
  obtain ⟨ev, rfl, re⟩ := r1.one
  refine ⟨K1, ad, hv, s, p, q, wd, ev, S1.mu, hok, hp, hq, hn, hhs, re, rfl, fun s' H0' hv' H' x' h1 h2 h3 h4 h5 h6 b => ?_⟩
  exact nx σ H0' H' Γ _ (n s' hv' h1 h2 h3 h4 h5 h6) (gr_b (g.trans g1) x' b) (g1.e0.trans x'.1) ⟨S1.sl.mono x'.1, b.e, b⟩
end
/-- what has gone through -/
structure GoOk (n : Nat) (es : List Evt) (kd : Str) (c : Sim) (s : Bst) : Prop where
  n : s.n = n
  es : s.es = es
  kd : s.kd = kd
  ok : s.Ok
  hs : s.hs = c.hs
  B : ∀ p, p ∈ s.B ↔ p ∈ c.bs
def sp_B_go_through (K : PySem.W.Frag) : Sp := fun vs H Q _ => ∃ H0 ad hv s, BP K H0 H ad hv s ∧ GoOk s.n s.es s.kd sim0 s ∧ s.n ≤ 1000 ∧ (∀ e ∈ s.es, EvOk s.n e) ∧ vs = [.ref ad.x] ∧
  ∀ s' H0' hv' H', Gb ad H0 H0' → GoOk s.n s.es s.kd (sim (decide (s.kd = "long")) s.L s.es) s' → BP K H0' H' ad hv' s' → Q .non H'
theorem sc_B_go_through : FnScope ["self", "number", "place", "event"] ["self"] (defScope s_B_go_through) := ⟨rfl, rfl, rfl, by decide +kernel, rfl, by decide +kernel, by decide +kernel⟩
theorem ok_B_go_through (T : Tx K mg) : FnOk PP w K mg base CX0 4 (He.fAd K d_B_go_through.at_) (fdOf K d_B_go_through.at_) ["self"] (sp_B_go_through K) := by
  have G_B_looked := ok_B_looked T (w := w) (base := base)
  have G_B_compared := ok_B_compared T (w := w) (base := base)
  refine T.F_B_go_through.ok sc_B_go_through (by rintro vs H Q E ⟨H0, ad, hv, s, _, _, _, _, rfl, _⟩; rfl) fun cdv A outer s_ H vs Q E hr ⟨H0, ad, hv, s, hP, hgo, hn, hev, evs, qq⟩ => ?_
  subst evs
  refine ⟨_, PSs.nox (pss_cons (ps_set (i := 1) sc_B_go_through.nd rfl (Or.inl rfl) pe_int)
      (pss_one (ps_for PassesOwn.never rfl (pi_enumTK K (by rfl) T.f_enumerate (pa_cons (pe_fldK K (pv 0) rfl) pa_nil)) (pg_tupK K 2 rfl (pgs_cons (pg_name (i := 2) sc_B_go_through.nd rfl (Or.inl rfl)) (pgs_cons (pg_name (i := 3) sc_B_go_through.nd rfl (Or.inl rfl)) pgs_nil))) (pss_cons (ps_if (PW.pt (pw_and (pt_cmpR (r := rIn K true) op_notIn_seq (pv 2) (pe_fldK K (pv 0) rfl) (by with_unfolding_all rfl)) (pw_and1 (pt_cmpR op_eq (pe_ix (r := rIxT K) ix_tup (pv 3) pe_int (fun _ _ => rfl)) (pe_S rfl T.s_LOOK) (nomark _))))) (pss_one (ps_expr (pe_meth (pv 0) T.c_Bonds T.m_B_looked G_B_looked (hr.mono (by decide)) T.b_B_looked .nil pass0 (pa_cons (pe_ix (r := rIxT K) ix_tup (pv 3) pe_int (fun _ _ => rfl)) (pa_cons (pv 1) pa_nil))))) (pss_one (ps_if (PW.pt (pw_and (pt_cmpR (r := rIn K true) op_notIn_seq (pv 2) (pe_fldK K (pv 0) rfl) (by with_unfolding_all rfl)) (pw_and1 (pt_cmpR op_gt (pe_callB (r := rLenA K) call_len_seq (by rfl) T.f_len (by decide +kernel) (pa_cons (pv 3) pa_nil)) pe_int (nomark _))))) (pss_one (ps_expr (pe_meth (pv 0) T.c_Bonds T.m_B_compared G_B_compared (hr.mono (by decide)) T.b_B_compared .nil pass0 (pa_cons (pv 3) pa_nil)))) pss_nil)))
      (pss_one (ps_aug (i := 1) sc_B_go_through.nd rfl (Or.inl rfl) (pe_callTy call_int1 (by rfl) T.f_int (by decide +kernel) (pa_cons (pe_cmpR op_eq (pe_ix (r := rIxT K) ix_tup (pv 3) pe_int (fun _ _ => rfl)) (pe_S rfl T.s_LOOK) (nomark _)) pa_nil)) ip_add)))))), ?_⟩
  have hcnt : s.L = cnt s.es := cnt_looks s.es
  let G : Nat → Ctx := fun k => [some (Is (.ref ad.x)), some (tN k), none, none]
  refine run_diag (fun _ μ' => ∃ s' hv', GoOk s.n s.es s.kd (sim (decide (s.kd = "long")) s.L s.es) s' ∧ μ' = Bm K ad hv' s') hP hP.e (start_sl (Rs := [Is (.ref ad.x)]) ⟨rfl, trivial⟩) ?_ (fun σ' H0' H' Γ' μ' ⟨s', hv', h, e⟩ x y hp => qq s' H0' hv' H' x h (by subst e; exact hp))
  refine hr_set (RA := tN 0) y_c ?_
  refine hr_for (fun i Γ' μ' => Wk Γ' (G (cnt (s.es.take i))) ∧ ∃ s' hv', GoOk s.n s.es s.kd (sim (decide (s.kd = "long")) s.L (s.es.take i)) s' ∧ μ' = Bm K ad hv' s') (yi_enumTM (xs := s.es) (r := tEv K) (ya_cons (y_fldM T rfl T.n_B_own_events rfl (fun H0 b => b.tE)) ya_nil)) ⟨.keep (.keep (.skip (.skip .nil))), s, hv, hgo, rfl⟩ (fun i R1 Γi μi ⟨wk, s', hv', hg, e⟩ hR => ?_) (fun Γn μn ⟨wk, h⟩ => by
    rw [List.length_map, ixs_len, List.take_length] at h
    exact h)
  subst e
  obtain ⟨⟨pl, ev⟩, hpe, rfl⟩ := map_get hR
  have hei : s.es[i]? = some ev := by
    have h3 : (ixs s.es)[i]? = some (pl, ev) := hpe
    unfold ixs at h3
    rw [List.getElem?_mapIdx] at h3
    cases e : s.es[i]? with
    | none => rw [e] at h3; cases h3
    | some z => rw [e] at h3; cases h3; rfl
  have htake : s.es.take (i + 1) = s.es.take i ++ [ev] := by rw [List.take_succ, hei]; rfl
  have hok := hev ev (List.mem_of_getElem? hei)
  have hL' : s'.L = s.L := Lof hg.es
  have hsim := sim_ok (decide (s.kd = "long")) s.L (s.es.take i) sim0 (sim0_ok s.L)
  have hk : (sim (decide (s.kd = "long")) s.L (s.es.take i)).k = cnt (s.es.take i) := by
    have := sim_k (decide (s.kd = "long")) s.L (s.es.take i) sim0
    rw [show (sim (decide (s.kd = "long")) s.L (s.es.take i)).k = _ from this]
    show 0 + _ = _
    rw [Nat.zero_add]
  have hcle : cnt (s.es.take i) ≤ s.L := by
    rw [hcnt]
    exact (List.Sublist.filter _ (List.take_sublist i s.es)).length_le
  have hstep : sim (decide (s.kd = "long")) s.L (s.es.take (i + 1)) = (sim (decide (s.kd = "long")) s.L (s.es.take i)).step (decide (s.kd = "long")) s.L ev := by rw [htake, sim_snoc]
  have hhs : ∀ x, (∀ o ∈ s'.hs x, o < s'.L) ∧ (s'.hs x).length ≤ 8 := fun x => by
    rw [hg.hs, hL']
    have h8 := hgo.ok.L8
    have h1 := hsim.len x
    have h2 := hk
    refine ⟨fun o ho => ?_, ?_⟩
    · have := hsim.lt x o ho
      have e : (sim (decide (s.kd = "long")) s.L (s.es.take i)).k = (List.foldl (Sim.step (decide (s.kd = "long")) s.L) sim0 (s.es.take i)).k := rfl
      omega
    · have e : (sim (decide (s.kd = "long")) s.L (s.es.take i)).k = (List.foldl (Sim.step (decide (s.kd = "long")) s.L) sim0 (s.es.take i)).k := rfl
      have e2 : (sim (decide (s.kd = "long")) s.L (s.es.take i)).hs x = (List.foldl (Sim.step (decide (s.kd = "long")) s.L) sim0 (s.es.take i)).hs x := rfl
      rw [e2]
      omega
  have hgone : Y (tFld K (tVar 0) "own_gone") [some (Is (.ref ad.x)), some (tN (cnt (s.es.take i))), some (tN pl), some (tEv K ev)] (Bm K ad hv' s') (tNs []) := y_fldM T rfl T.n_B_own_gone rfl (fun H0 b => b.tG)
  refine ⟨_, _, YG.weak wk (yg_tup2 yg_name yg_name), ?_⟩
  have hadd : ∀ b : Bool, b = ev.isL → cnt (s.es.take (i + 1)) = cnt (s.es.take i) + (if b = true then 1 else 0) := fun b hb => by
    rw [htake]
    unfold cnt
    rw [List.filter_append, List.length_append, List.filter_cons, hb]
    cases ev.isL <;> rfl
  -- the tail: number += ..
  have tail : ∀ (N : Ctx → Mt → Prop) (R : Ty) (μ : Mt), N (G (cnt (s.es.take (i + 1))) |>.set 2 (some (tN pl)) |>.set 3 (some (tEv K ev))) μ → Hr (H0, ad.Hb) (tAug 1 (tCB (fun xs H Q => (∃ i, xs = [V.int i] ∧ Q (V.int i) H) ∨ ∃ k, xs = [V.bl k] ∧ Q (V.int (if k = true then 1 else 0)) H) (tCons (tOp rEq (tOp (rIxT K) (tVar 3) (tC (.int 0))) (tC (.str "look"))) tNil)) (ipI fun i j => i + j)) [some (Is (.ref ad.x)), some (tN (cnt (s.es.take i))), some (tN pl), some (tEv K ev)] μ N R := fun N R μ h =>
    hr_augN (k := 1) (n := cnt (s.es.take i)) (m := if ev.isL = true then 1 else 0) rfl (Y.to (y_intB (b := ev.isL) (Y.to (y_eqS (y_ixT (n := 0) (R := tSt ev.word) (y_var rfl) y_c rfl rfl) y_c) (by rw [word_look]))) (by cases ev.isL <;> rfl)) (by rw [← hadd _ rfl]; exact h)
  cases ev with
  | look p =>
    have hp : p < s'.n := by rw [hg.n]; exact hok
    have hm : cnt (s.es.take i) < s'.L := by
      rw [hL', hcnt]
      have h1 := hadd true rfl
      have h2 : cnt (s.es.take (i + 1)) ≤ cnt s.es := (List.Sublist.filter _ (List.take_sublist (i + 1) s.es)).length_le
      rw [if_pos rfl] at h1
      omega
    obtain ⟨hlt, hlen⟩ := hhs p
    refine hr_seq (N1 := fun Γ' μ' => Γ' = _ ∧ ∃ hv'', μ' = Bm K ad hv'' (s'.look p (cnt (s.es.take i)))) (hr_if (b := true) (YT.to (yt_and (yt_t (y_ninL (ns := []) (y_var rfl) hgone)) fun _ => yt_t (y_eqS (y_ixT (n := 0) (R := tSt "look") (y_var rfl) y_c rfl rfl) y_c)) (by simp)) (fun _ => hr_lookD rfl (ya_cons (y_ixT (n := 1) (R := tN p) (y_var rfl) y_c rfl rfl) (ya_cons (y_var rfl) ya_nil)) hg.ok hp (by rw [hg.n]; exact hn) hm hlt (by omega) fun hv'' => ⟨rfl, hv'', rfl⟩) (fun h => nomatch h)) ?_
    rintro _ _ ⟨rfl, hv'', rfl⟩
    refine tail _ _ _ ⟨.keep (.keep (.skip (.skip .nil))), _, hv'', ?_, rfl⟩
    have hs0 := lows_same (s'.hs p) s' (cnt (s.es.take i))
    have hne : ∀ o ∈ s'.hs p, o ≠ cnt (s.es.take i) := fun o ho => by
      rw [hg.hs] at ho
      have := hsim.lt p o ho
      have e : (sim (decide (s.kd = "long")) s.L (s.es.take i)).k = (List.foldl (Sim.step (decide (s.kd = "long")) s.L) sim0 (s.es.take i)).k := rfl
      omega
    have hlo := lows_ok hg.ok hlt hm
    refine ⟨hs0.1.trans hg.n, hs0.2.1.trans hg.es, hs0.2.2.1.trans hg.kd, ⟨hlo.len, hlo.L8, hlo.an, hlo.ab, hlo.bn, hlo.bb, hlo.sym⟩, ?_, fun x => ?_⟩
    · rw [hstep]
      show (fun q => if q = p then s'.hs p ++ [cnt (s.es.take i)] else s'.hs q) = upd1 _ p _
      rw [hg.hs, hk]
      rfl
    · rw [hstep]
      show x ∈ (lows s' (s'.hs p) (cnt (s.es.take i))).B ↔ x ∈ _ ++ _
      rw [lows_B hne x, List.mem_append, hg.B x, hk, hg.hs]
      constructor
      · rintro (h | ⟨h1, h2⟩)
        · exact .inl h
        · exact .inr (List.mem_map.mpr ⟨x.1, h2, by rw [← h1]⟩)
      · rintro (h | h)
        · exact .inl h
        · obtain ⟨o, ho, rfl⟩ := List.mem_map.mp h
          exact .inr ⟨rfl, ho⟩
  | meet p q => 
    have hpq : p < s'.n ∧ q < s'.n := by rw [hg.n]; exact hok
    refine hr_seq (N1 := fun Γ' μ' => Γ' = _ ∧ ∃ s2 hv'', μ' = Bm K ad hv'' s2 ∧ s2.n = s'.n ∧ s2.es = s'.es ∧ s2.kd = s'.kd ∧ s2.B = s'.B ∧ s2.Ok ∧ s2.hs = cmpHs (decide (s'.kd = "long")) s'.L s'.hs (decide (("meet" : Str) = "meet")) p q) (hr_if (b := false) (YT.to (yt_and (yt_t (y_ninL (ns := []) (y_var rfl) hgone)) fun _ => yt_t (y_eqS (y_ixT (n := 0) (R := tSt "meet") (y_var rfl) y_c rfl rfl) y_c)) (Bool.and_eq_false_iff.mpr (.inr (by decide +kernel)))) (fun h => nomatch h) (fun _ => hr_if (b := true) (YT.to (yt_and (yt_t (y_ninL (ns := []) (y_var rfl) hgone)) fun _ => yt_t (y_gt (y_lenT (y_var rfl)) y_c)) (by rfl)) (fun _ => hr_cmpD (wd := "meet") (p := p) (q := q) rfl (ya_cons (y_var rfl) ya_nil) hg.ok hpq.1 hpq.2 (by rw [hg.n]; exact hn) (fun x _ => ⟨(hhs x).1, by have := (hhs x).2; omega⟩) fun s2 hv'' h1 h2 h3 h4 h5 h6 => ⟨rfl, s2, hv'', rfl, h1, h2, h3, h4, h5, h6⟩) (fun h => nomatch h))) ?_
    rintro _ _ ⟨rfl, s2, hv'', rfl, h1, h2, h3, h4, h5, h6⟩
    refine tail _ _ _ ⟨.keep (.keep (.skip (.skip .nil))), s2, hv'', ?_, rfl⟩
    refine ⟨h1.trans hg.n, h2.trans hg.es, h3.trans hg.kd, h5, ?_, fun x => ?_⟩
    · rw [hstep, h6, hg.kd, hL', hg.hs]
      have e : decide (("meet" : Str) = "meet") = true := by decide +kernel
      rw [e]
      rfl
    · rw [hstep, h4]
      exact hg.B x
  | tell p q => 
    have hpq : p < s'.n ∧ q < s'.n := by rw [hg.n]; exact hok
    refine hr_seq (N1 := fun Γ' μ' => Γ' = _ ∧ ∃ s2 hv'', μ' = Bm K ad hv'' s2 ∧ s2.n = s'.n ∧ s2.es = s'.es ∧ s2.kd = s'.kd ∧ s2.B = s'.B ∧ s2.Ok ∧ s2.hs = cmpHs (decide (s'.kd = "long")) s'.L s'.hs (decide (("tell" : Str) = "meet")) p q) (hr_if (b := false) (YT.to (yt_and (yt_t (y_ninL (ns := []) (y_var rfl) hgone)) fun _ => yt_t (y_eqS (y_ixT (n := 0) (R := tSt "tell") (y_var rfl) y_c rfl rfl) y_c)) (Bool.and_eq_false_iff.mpr (.inr (by decide +kernel)))) (fun h => nomatch h) (fun _ => hr_if (b := true) (YT.to (yt_and (yt_t (y_ninL (ns := []) (y_var rfl) hgone)) fun _ => yt_t (y_gt (y_lenT (y_var rfl)) y_c)) (by rfl)) (fun _ => hr_cmpD (wd := "tell") (p := p) (q := q) rfl (ya_cons (y_var rfl) ya_nil) hg.ok hpq.1 hpq.2 (by rw [hg.n]; exact hn) (fun x _ => ⟨(hhs x).1, by have := (hhs x).2; omega⟩) fun s2 hv'' h1 h2 h3 h4 h5 h6 => ⟨rfl, s2, hv'', rfl, h1, h2, h3, h4, h5, h6⟩) (fun h => nomatch h))) ?_
    rintro _ _ ⟨rfl, s2, hv'', rfl, h1, h2, h3, h4, h5, h6⟩
    refine tail _ _ _ ⟨.keep (.keep (.skip (.skip .nil))), s2, hv'', ?_, rfl⟩
    refine ⟨h1.trans hg.n, h2.trans hg.es, h3.trans hg.kd, h5, ?_, fun x => ?_⟩
    · rw [hstep, h6, hg.kd, hL', hg.hs]
      have e : decide (("tell" : Str) = "meet") = false := by decide +kernel
      rw [e]
      rfl
    · rw [hstep, h4]
      exact hg.B x
end
end HF
set_option maxHeartbeats 400000
namespace HF
open PySem PyProof.Rows L2 Evl
/-! ### one step of the rules, plainly -/
structure Grow (s s' : Bst) (b : Bool) : Prop where
  n : s'.n = s.n
  es : s'.es = s.es
  kd : s'.kd = s.kd
  hs : s'.hs = s.hs
  ok : s'.Ok
  snd : ∀ T : Nat → Nat → Prop, (∀ a b c, T a b → T b c → T a c) → (∀ p ∈ s.B, T p.1 p.2) → ∀ p ∈ s'.B, T p.1 p.2
  sub : ∀ p ∈ s.B, p ∈ s'.B
  meas : s.A.length + s.B.length + (if b = true then 1 else 0) ≤ s'.A.length + s'.B.length
  same : b = false → s' = s
theorem Grow.refl {s : Bst} (h : s.Ok) : Grow s s false := ⟨rfl, rfl, rfl, rfl, h, fun _ _ h => h, fun _ h => h, by simp, fun _ => rfl⟩
theorem Grow.L {s s' : Bst} {b : Bool} (h : Grow s s' b) : s'.L = s.L := Lof h.es
theorem Grow.trans {s s' s'' : Bst} {b c : Bool} (h : Grow s s' b) (k : Grow s' s'' c) : Grow s s'' (b || c) := by
  refine ⟨k.n.trans h.n, k.es.trans h.es, k.kd.trans h.kd, k.hs.trans h.hs, k.ok, fun T tr hT => k.snd T tr (h.snd T tr hT), fun p hp => k.sub p (h.sub p hp), ?_, fun e => ?_⟩
  · have h1 := h.meas
    have h2 := k.meas
    cases b <;> cases c <;> simp at h1 h2 ⊢ <;> omega
  · rw [Bool.or_eq_false_iff] at e
    rw [k.same e.2, h.same e.1]
theorem Grow.bind {s : Bst} (h : s.Ok) {i j : Nat} (hi : i < s.L) (hj : j < s.L) : Grow s (s.bind i j) (s.bindB i j) := by
  have o := h.bind hi hj
  unfold Bst.bind at o ⊢
  cases e : s.bindB i j with
  | false =>
    rw [if_neg (by decide)]
    exact Grow.refl h
  | true =>
    rw [e, if_pos rfl] at o
    rw [if_pos rfl]
    have hnew : (i, j) ∉ s.A := by
      unfold Bst.bindB at e
      simp at e
      exact e.2
    refine ⟨rfl, rfl, rfl, rfl, o, fun _ _ h => h, fun _ h => h, ?_, fun h => nomatch h⟩
    have h1 := insP_new hnew
    have h2 := insP_len (A := insP s.A (i, j)) (p := (j, i))
    rw [if_pos rfl]
    show s.A.length + s.B.length + 1 ≤ (insP (insP s.A (i, j)) (j, i)).length + s.B.length
    omega
theorem Grow.low {s : Bst} (h : s.Ok) {i j m : Nat} (hi : i < s.L) (hj : j < s.L) (h1 : (i, m) ∈ s.B) (h2 : (m, j) ∈ s.B) : Grow s (s.low i j) (s.lowB i j) := by
  have o := h.low hi hj
  unfold Bst.low at o ⊢
  cases e : s.lowB i j with
  | false =>
    rw [if_neg (by decide)]
    exact Grow.refl h
  | true =>
    rw [e, if_pos rfl] at o
    rw [if_pos rfl]
    have hnew : (i, j) ∉ s.B := by
      unfold Bst.lowB at e
      simp at e
      exact e.2
    refine ⟨rfl, rfl, rfl, rfl, o, fun T tr hT p hp => ?_, fun p hp => mem_insP.mpr (.inl hp), ?_, fun h => nomatch h⟩
    · rcases mem_insP.mp hp with h | rfl
      · exact hT p h
      · exact tr i m j (hT (i, m) h1) (hT (m, j) h2)
    · have h1 := insP_new hnew
      rw [if_pos rfl]
      show s.A.length + s.B.length + 1 ≤ s.A.length + (insP s.B (i, j)).length
      omega
/-! ### the list of answers beside it -/
section
variable {K : PySem.W.Frag} {H0 H H' : Hp} {ad : BAd} {s : Bst} {hv : List V}
theorem BX.other {kA kB : List (List L2.Key × V)} {kH : List (L2.Key × V)} {fs vs : List V} {f : Addr} {o : HO} (b : BX K H0 H ad kA kB kH fs) (hf : H f = some (.lst vs)) (nf : H0 f = none) (ne : f ≠ ad.aF) (nb : ad.Hb f = none) : BX K H0 (upd H f o) ad kA kB kH fs := by
  refine ⟨ex_upd b.ex nf, ?_, ?_, ?_, ?_, ?_, b.nx, b.nA, b.nB, b.nH, b.nF, b.dAB, ex_upd b.eb nb, b.bx, b.bA, b.bB, b.bH, b.bF⟩
  · rw [upd_ne (ne_of b.hx hf (by intro z; cases z))]; exact b.hx
  · rw [upd_ne (ne_of b.hA hf (by intro z; cases z))]; exact b.hA
  · rw [upd_ne (ne_of b.hB hf (by intro z; cases z))]; exact b.hB
  · rw [upd_ne (ne_of b.hH hf (by intro z; cases z))]; exact b.hH
  · rw [upd_ne ne.symm]; exact b.hF
theorem BP.other {vs : List V} {f : Addr} {o : HO} (b : BP K H0 H ad hv s) (hf : H f = some (.lst vs)) (nf : H0 f = none) (ne : f ≠ ad.aF) (nb : ad.Hb f = none) : BP K H0 (upd H f o) ad hv s := by
  obtain ⟨⟨kA, kB, kH, fs, x, h⟩, k⟩ := b
  exact ⟨⟨kA, kB, kH, fs, x.other hf nf ne nb, h⟩, k⟩
/-- the cell may be held as kept -/
theorem BP.hold {vs : List V} {f : Addr} (b : BP K H0 H ad hv s) (hf : H f = some (.lst vs)) (nf : H0 f = none) (ne : f ≠ ad.aF) : BP K (upd H0 f (.lst vs)) H ad hv s := by
  obtain ⟨⟨kA, kB, kH, fs, x, h⟩, k⟩ := b
  have e : Ex (upd H0 f (.lst vs)) H := fun a u q => by
    by_cases z : a = f
    · subst z; rw [upd_same] at q; cases q; exact hf
    · rw [upd_ne z] at q; exact x.ex a u q
  refine ⟨⟨kA, kB, kH, fs, ⟨e, x.hx, x.hA, x.hB, x.hH, x.hF, ?_, ?_, ?_, ?_, ?_, x.dAB, x.eb, x.bx, x.bA, x.bB, x.bH, x.bF⟩, h⟩, k.m (Ex.new nf)⟩
  · rw [upd_ne (ne_of x.hx hf (by intro z; cases z))]; exact x.nx
  · rw [upd_ne (ne_of x.hA hf (by intro z; cases z))]; exact x.nA
  · rw [upd_ne (ne_of x.hB hf (by intro z; cases z))]; exact x.nB
  · rw [upd_ne (ne_of x.hH hf (by intro z; cases z))]; exact x.nH
  · rw [upd_ne ne.symm]; exact x.nF
def Bf (K : PySem.W.Frag) (e : Hp × Hp) (ad : BAd) (hv : List V) (s : Bst) (f : Addr) (Rs : List Ty) : Mt :=
  ⟨fun H0 H => BP K H0 H ad hv s ∧ f ≠ ad.aF ∧ (Cl e f Rs).p H0 H, fun H0 H H0' H' g h => ⟨(Bm K ad hv s).m _ _ _ _ g h.1, h.2.1, (Cl e f Rs).m _ _ _ _ g h.2.2⟩⟩
end
section
variable {mg : Str → Option Value} {K : PySem.W.Frag} {Γ Γ' : Ctx} {μ : Mt} {R T : Ty} {Rs : List Ty} {ta td te to ts : TE} {tt : TT} {tr : TA} {u : TS} {N : Ctx → Mt → Prop} {ad : BAd} {s : Bst} {hv : List V} {E0' : Hp} {k l i j p kf : Nat} {f : Addr} {v : V} {b : Bool}
theorem bf_up (h0 : Γ[0]? = some (some (Is (.ref ad.x)))) : ∀ σ H0 H, Sx σ H0 H Γ (Bf K e ad hv s f Rs) → Sx σ H H (Γ.set 0 (some (Bnd K s))) M0 := fun σ H0 H S => by
  obtain ⟨v, hv0, rv⟩ := S.sl.2 0 _ h0
  obtain rfl : v = V.ref ad.x := rv
  exact ⟨(S.sl.mono S.ex).reset hv0 S.mu.1.bnd, Ex.refl _, trivial⟩
theorem bm_up (h0 : Γ[0]? = some (some (Is (.ref ad.x)))) : ∀ σ H0 H, Sx σ H0 H Γ (Bm K ad hv s) → Sx σ H H (Γ.set 0 (some (Bnd K s))) M0 := fun σ H0 H S => by
  obtain ⟨v, hv0, rv⟩ := S.sl.2 0 _ h0
  obtain rfl : v = V.ref ad.x := rv
  exact ⟨(S.sl.mono S.ex).reset hv0 S.mu.bnd, Ex.refl _, trivial⟩
theorem ya_two (h1 : Γ[k]? = some (some (tN i))) (h2 : Γ[l]? = some (some (tN j))) (hs : Y ts Γ μ (SrcT K)) : YA (tCons (tVar k) (tCons (tVar l) (tCons ts tNil))) Γ μ [tN i, tN j, SrcT K] := ya_cons (y_var h1) (ya_cons (y_var h2) (ya_cons hs ya_nil))
theorem src_lst (h : Y ts Γ μ (Lst Rs)) : Y ts Γ μ (SrcT K) := h.cast fun v H ⟨a, vs, e, h1, _⟩ => ⟨a, vs, e, .inl (sq_of h1)⟩
/-- found.append(self.bind(..)) -/
theorem hr_appBind (h0 : Γ[0]? = some (some (Is (.ref ad.x)))) (hf : Γ[kf]? = some (some (Is (.ref f)))) (hA : YA tr Γ (Bf K (E0', ad.Hb) ad hv s f Rs) [tN i, tN j, SrcT K]) (hok : s.Ok) (hi : i < s.L) (hj : j < s.L) (hl : Rs.length < 100000)
    (n : N Γ (Bf K (E0', ad.Hb) ad hv (s.bind i j) f (Rs ++ [tBo (s.bindB i j)]))) :
    Hr (E0', ad.Hb) (tDrop (tBM K "list" rAppend (tVar kf) (tCons (tMeth (He.ga K "Bonds") "bind" (sp_B_bind K) [] E0 (tVar 0) tr) tNil))) Γ (Bf K (E0', ad.Hb) ad hv s f Rs) N R := fun σ H0 H D g S nx rt => by
  obtain ⟨v, hvf, rv⟩ := S.sl.2 kf _ hf
  obtain rfl : v = V.ref f := rv
  obtain ⟨v, hv0, rv⟩ := S.sl.2 0 _ h0
  obtain rfl : v = V.ref ad.x := rv
  obtain ⟨kA, kB, kH, fs, x, h⟩ := S.mu.1.ex
  obtain ⟨c1, c2, ws, c3, c4⟩ := S.mu.2.2
  refine ⟨_, hvf, .inl ⟨rfl, ws, sq_of c3⟩, ?_⟩
  refine ⟨_, hv0, ad.x, ad.dx, ad.fs, rfl, x.hx, rfl, ?_⟩
  refine hA σ H0 H S _ fun vs K1 H1 g1 r1 => ?_
  have S1 := S.gr g1
  obtain ⟨a, b, src, rfl, ra, rb, rs⟩ := r1.three
  obtain ⟨d1, d2, ws', d3, d4⟩ := S1.mu.2.2
  have bh := S1.mu.1.hold d3 d2 S1.mu.2.1
  refine ⟨_, ad, hv, s, i, j, src, bh, hok, hi, hj, by rw [show a = V.int (i : Int) from ra, show b = V.int (j : Int) from rb]; rfl, (SrcT K).m _ _ _ (Ex.new d2) rs, fun H' b' => ?_⟩
  have hs := low_same s i j
  have e4 : (s.bind i j).n = s.n ∧ (s.bind i j).kd = s.kd ∧ (s.bind i j).es = s.es ∧ (s.bind i j).hs = s.hs := by
    unfold Bst.bind
    split <;> exact ⟨rfl, rfl, rfl, rfl⟩
  have b2 := S1.mu.1.swap b' (Ex.new d2) e4.1 e4.2.1 e4.2.2.1 e4.2.2.2
  have hf' : H' f = some (.lst ws') := b'.e f _ upd_same
  refine ⟨f, ws', .bl (s.bindB i j), rfl, rfl, hf', sz_lt (by rw [d4.len]; exact hl), ?_⟩
  have b3 := b2.other (o := .lst (ws' ++ [V.bl (s.bindB i j)])) hf' d2 S1.mu.2.1 d1
  exact nx σ K1 _ Γ _ n (gr_b (g.trans g1) Gb.refl b3) g1.e0 ⟨S1.sl, b3.e, b3, S1.mu.2.1, d1, d2, _, upd_same, d4.app ⟨rfl, trivial⟩⟩
theorem hr_appLow (h0 : Γ[0]? = some (some (Is (.ref ad.x)))) (hf : Γ[kf]? = some (some (Is (.ref f)))) (hA : YA tr Γ (Bf K (E0', ad.Hb) ad hv s f Rs) [tN i, tN j, SrcT K]) (hok : s.Ok) (hi : i < s.L) (hj : j < s.L) (hl : Rs.length < 100000)
    (n : N Γ (Bf K (E0', ad.Hb) ad hv (s.low i j) f (Rs ++ [tBo (s.lowB i j)]))) :
    Hr (E0', ad.Hb) (tDrop (tBM K "list" rAppend (tVar kf) (tCons (tMeth (He.ga K "Bonds") "lower" (sp_B_lower K) [] E0 (tVar 0) tr) tNil))) Γ (Bf K (E0', ad.Hb) ad hv s f Rs) N R := fun σ H0 H D g S nx rt => by
  obtain ⟨v, hvf, rv⟩ := S.sl.2 kf _ hf
  obtain rfl : v = V.ref f := rv
  obtain ⟨v, hv0, rv⟩ := S.sl.2 0 _ h0
  obtain rfl : v = V.ref ad.x := rv
  obtain ⟨kA, kB, kH, fs, x, h⟩ := S.mu.1.ex
  obtain ⟨c1, c2, ws, c3, c4⟩ := S.mu.2.2
  refine ⟨_, hvf, .inl ⟨rfl, ws, sq_of c3⟩, ?_⟩
  refine ⟨_, hv0, ad.x, ad.dx, ad.fs, rfl, x.hx, rfl, ?_⟩
  refine hA σ H0 H S _ fun vs K1 H1 g1 r1 => ?_
  have S1 := S.gr g1
  obtain ⟨a, b, src, rfl, ra, rb, rs⟩ := r1.three
  obtain ⟨d1, d2, ws', d3, d4⟩ := S1.mu.2.2
  have bh := S1.mu.1.hold d3 d2 S1.mu.2.1
  refine ⟨_, ad, hv, s, i, j, src, bh, hok, hi, hj, by rw [show a = V.int (i : Int) from ra, show b = V.int (j : Int) from rb]; rfl, (SrcT K).m _ _ _ (Ex.new d2) rs, fun H' b' => ?_⟩
  have e4 := low_same s i j
  have b2 := S1.mu.1.swap b' (Ex.new d2) e4.1 e4.2.2.1 e4.2.1 e4.2.2.2.2
  have hf' : H' f = some (.lst ws') := b'.e f _ upd_same
  refine ⟨f, ws', .bl (s.lowB i j), rfl, rfl, hf', sz_lt (by rw [d4.len]; exact hl), ?_⟩
  have b3 := b2.other (o := .lst (ws' ++ [V.bl (s.lowB i j)])) hf' d2 S1.mu.2.1 d1
  exact nx σ K1 _ Γ _ n (gr_b (g.trans g1) Gb.refl b3) g1.e0 ⟨S1.sl, b3.e, b3, S1.mu.2.1, d1, d2, _, upd_same, d4.app ⟨rfl, trivial⟩⟩
/-- found = [] beside it -/
theorem hr_newBf (h : YL te Γ (Bm K ad hv s) Rs) (n : ∀ f, Hr (E0', ad.Hb) u (Γ.set k (some (Is (.ref f)))) (Bf K (E0', ad.Hb) ad hv s f Rs) N R) : Hr (E0', ad.Hb) (tSeq (tAsg te (gName k)) u) Γ (Bm K ad hv s) N R := fun σ H0 H D g s' nx rt =>
  h σ H0 H s' _ fun p vs H1 G1 g1 n1 n2 hp hA => (n p).go (g.trans g1) g1.e0 (by
    have s1 := (s'.gr g1).set k (R := Is (.ref p)) (v := .ref p) rfl
    obtain ⟨kA, kB, kH, fs, x, h⟩ := s'.mu.ex
    exact ⟨s1.sl, s1.ex, s1.mu, (fun z => by rw [z, x.hF] at n1; cases n1), fresh_back g.e n1, n2, vs, hp, hA⟩) nx rt
end
end HF
set_option maxHeartbeats 400000
namespace HF
open PySem PyProof.Rows L2 Evl
section
variable {w : World} {K : PySem.W.Frag} {mg : Str → Option Value} {base : Heap}
theorem run_seq {Γ : Ctx} {μ : Mt} {t u : TS} {D : Ends} {σ : L2.St} {H0 H : Hp} {e : Hp × Hp} (N : Ctx → Mt → Prop) (h : Hr e t Γ μ N tNever) (g : Gr e.1 e.2 H0 H) (S : Sx σ H0 H Γ μ)
    (k : ∀ σ' H0' H' Γ' μ', N Γ' μ' → Gr e.1 e.2 H0' H' → Ex H0 H0' → Sx σ' H0' H' Γ' μ' → u D σ' H') : tSeq t u D σ H :=
  h σ H0 H { D with nx := u D } g S (fun σ' H0' H' Γ' μ' n g' x' s' => k σ' H0' H' Γ' μ' n g' x' s') (fun _ _ _ _ r => r.elim)
theorem run_newBf {Γ : Ctx} {te : TE} {Rs : List Ty} {u : TS} {D : Ends} {σ : L2.St} {H0 H E0' : Hp} {k : Nat} {ad : BAd} {hv : List V} {s : Bst} (h : YL te Γ (Bm K ad hv s) Rs) (g : Gr E0' ad.Hb H0 H) (S : Sx σ H0 H Γ (Bm K ad hv s))
    (q : ∀ f σ' H0' H', Gr E0' ad.Hb H0' H' → Ex H0 H0' → Sx σ' H0' H' (Γ.set k (some (Is (.ref f)))) (Bf K (E0', ad.Hb) ad hv s f Rs) → u D σ' H') : tSeq (tAsg te (gName k)) u D σ H :=
  h σ H0 H S _ fun p vs H1 G1 g1 n1 n2 hp hA => q p _ H1 G1 (g.trans g1) g1.e0 (by
    have s1 := (S.gr g1).set k (R := Is (.ref p)) (v := .ref p) rfl
    obtain ⟨kA, kB, kH, fs, x, h⟩ := S.mu.ex
    exact ⟨s1.sl, s1.ex, s1.mu, (fun z => by rw [z, x.hF] at n1; cases n1), fresh_back g.e n1, n2, vs, hp, hA⟩)
def Stable (s : Bst) (i j : Nat) : Prop := (i, j) ∈ s.B → (i = j ∨ (i, j) ∈ s.A) ∧ ∀ t, t < s.L → (j, t) ∈ s.B → i = t ∨ (i, t) ∈ s.B
def sp_B_rules (K : PySem.W.Frag) : Sp := fun vs H Q _ => ∃ H0 ad hv s i j, BP K H0 H ad hv s ∧ s.Ok ∧ i < s.L ∧ j < s.L ∧ vs = [.ref ad.x, .int (i : Nat), .int (j : Nat)] ∧
  ∀ s' b H', Grow s s' b → (b = false → Stable s i j) → BP K H0 H' ad hv s' → Q (.bl b) H'
theorem any_snoc (bs : List Bool) (b : Bool) : (bs ++ [b]).any id = (bs.any id || b) := by rw [List.any_append]; simp
theorem bs_snoc (bs : List Bool) (b : Bool) : (bs.map tBo) ++ [tBo b] = (bs ++ [b]).map tBo := by rw [List.map_append]; rfl
theorem sc_B_rules : FnScope ["self", "one", "other", "found", "third"] ["self", "one", "other"] (defScope s_B_rules) := ⟨rfl, rfl, rfl, by decide +kernel, rfl, by decide +kernel, by decide +kernel⟩
theorem ok_B_rules (T : Tx K mg) : FnOk PP w K mg base CX0 3 (He.fAd K d_B_rules.at_) (fdOf K d_B_rules.at_) ["self", "one", "other"] (sp_B_rules K) := by
  have G_B_bind := ok_B_bind T (w := w) (base := base)
  have G_B_lower := ok_B_lower T (w := w) (base := base)
  have G_B_is_below := ok_B_is_below T (w := w) (base := base)
  have G_B_is_alike := ok_B_is_alike T (w := w) (base := base)
  have G_B_is_late := ok_B_is_late T (w := w) (base := base)
  have G_B_many := ok_B_many T (w := w) (base := base)
  refine T.F_B_rules.ok sc_B_rules (by rintro vs H Q E ⟨H0, ad, hv, s, i, j, _, _, _, _, rfl, _⟩; rfl) fun cdv A outer s_ H vs Q E hr ⟨H0, ad, hv, s, i, j, hP, hok, hi, hj, evs, qq⟩ => ?_
  subst evs
  refine ⟨_, PSs.nox (pss_cons (ps_set (i := 3) sc_B_rules.nd rfl (Or.inl rfl) (pe_lst pa_nil))
      (pss_cons (ps_if (pt_val (pe_meth (pv 0) T.c_Bonds T.m_B_is_below G_B_is_below (hr.mono (by decide)) T.b_B_is_below .nil pass0 (pa_cons (pv 1) (pa_cons (pv 2) pa_nil)))) (pss_cons (ps_expr (pe_bmK K PySem.F.plainAttrs_list PySem.F.slot_list_append PySem.F.type_list_append mt_append (pv 3) (pa_cons (pe_meth (pv 0) T.c_Bonds T.m_B_bind G_B_bind (hr.mono (by decide)) (b_B_bind1 T) .nil pass0 (pa_cons (pv 1) (pa_cons (pv 2) (pa_cons (pe_lst (pa_cons (pe_tup (pa_cons (pe_S rfl T.s_BEGINS) (pa_cons (pv 1) (pa_cons (pv 2) pa_nil)))) pa_nil)) pa_nil)))) pa_nil)))
      (pss_one (ps_for PassesOwn.never rfl (pi_range1 rfl T.f_range (pa_cons (pe_meth0 (pv 0) T.c_Bonds T.m_B_many G_B_many (hr.mono (by decide)) T.b_B_many .nil pass0) pa_nil)) (pg_name (i := 4) sc_B_rules.nd rfl (Or.inl rfl)) (pss_cons (ps_if (pt_val (pe_meth (pv 0) T.c_Bonds T.m_B_is_below G_B_is_below (hr.mono (by decide)) T.b_B_is_below .nil pass0 (pa_cons (pv 2) (pa_cons (pv 4) pa_nil)))) (pss_one (ps_expr (pe_bmK K PySem.F.plainAttrs_list PySem.F.slot_list_append PySem.F.type_list_append mt_append (pv 3) (pa_cons (pe_meth (pv 0) T.c_Bonds T.m_B_lower G_B_lower (hr.mono (by decide)) (b_B_lower1 T) .nil pass0 (pa_cons (pv 1) (pa_cons (pv 4) (pa_cons (pe_lst (pa_cons (pe_tup (pa_cons (pe_S rfl T.s_BEGINS) (pa_cons (pv 1) (pa_cons (pv 2) pa_nil)))) (pa_cons (pe_tup (pa_cons (pe_S rfl T.s_BEGINS) (pa_cons (pv 2) (pa_cons (pv 4) pa_nil)))) pa_nil))) pa_nil)))) pa_nil)))) pss_nil)
      (pss_one (ps_if (PW.pt (pw_and (pt_cmpR op_ne (pv 4) (pv 2) (nomark _)) (pw_and1 (pt_val (pe_meth (pv 0) T.c_Bonds T.m_B_is_alike G_B_is_alike (hr.mono (by decide)) T.b_B_is_alike .nil pass0 (pa_cons (pv 2) (pa_cons (pv 4) pa_nil))))))) (pss_one (ps_expr (pe_bmK K PySem.F.plainAttrs_list PySem.F.slot_list_append PySem.F.type_list_append mt_append (pv 3) (pa_cons (pe_meth (pv 0) T.c_Bonds T.m_B_bind G_B_bind (hr.mono (by decide)) (b_B_bind1 T) .nil pass0 (pa_cons (pv 1) (pa_cons (pv 4) (pa_cons (pe_lst (pa_cons (pe_tup (pa_cons (pe_S rfl T.s_BEGINS) (pa_cons (pv 1) (pa_cons (pv 2) pa_nil)))) (pa_cons (pe_tup (pa_cons (pe_S rfl T.s_ALIKE) (pa_cons (pv 2) (pa_cons (pv 4) pa_nil)))) pa_nil))) pa_nil)))) pa_nil)))) pss_nil)))))) pss_nil)
      (pss_cons (ps_if (PW.pt (pw_and (pt_cmpR op_ne (pv 1) (pv 2) (nomark _)) (pw_and (pt_val (pe_meth (pv 0) T.c_Bonds T.m_B_is_alike G_B_is_alike (hr.mono (by decide)) T.b_B_is_alike .nil pass0 (pa_cons (pv 1) (pa_cons (pv 2) pa_nil)))) (pw_and1 (pt_val (pe_meth (pv 0) T.c_Bonds T.m_B_is_late G_B_is_late (hr.mono (by decide)) T.b_B_is_late .nil pass0 (pa_cons (pv 1) (pa_cons (pv 2) pa_nil)))))))) (pss_one (ps_expr (pe_bmK K PySem.F.plainAttrs_list PySem.F.slot_list_append PySem.F.type_list_append mt_append (pv 3) (pa_cons (pe_meth (pv 0) T.c_Bonds T.m_B_lower G_B_lower (hr.mono (by decide)) (b_B_lower1 T) .nil pass0 (pa_cons (pv 1) (pa_cons (pv 2) (pa_cons (pe_lst (pa_cons (pe_tup (pa_cons (pe_S rfl T.s_ALIKE) (pa_cons (pv 1) (pa_cons (pv 2) pa_nil)))) pa_nil)) pa_nil)))) pa_nil)))) pss_nil)
      (pss_one (ps_ret (pe_callB (r := rAny K) (cr_any rfl) (by rfl) T.f_any (by decide +kernel) (pa_cons (pv 3) pa_nil))))))), ?_⟩
  have SX : Sx (L2.start ["self", "one", "other", "found", "third"] [.ref ad.x, .int (i : Nat), .int (j : Nat)]) H0 H [some (Is (.ref ad.x)), some (tN i), some (tN j), none, none] (Bm K ad hv s) := ⟨start_sl (Rs := [Is (.ref ad.x), tN i, tN j]) ⟨rfl, rfl, rfl, trivial⟩, hP.e, hP⟩
  refine run_newBf (E0' := H0) (Rs := []) (yl_lst ya_nil (by show 0 ≤ 100000; decide)) (gr_b0 hP) SX fun f σ1 K1 H1 g1 x1 S1 => ?_
  have hL8 := hok.L8
  let G : Ctx := [some (Is (.ref ad.x)), some (tN i), some (tN j), some (Is (.ref f)), none]
  let F : Nat → Prop := fun t => s.bindB i j = false ∧ ∀ t', t' < t → (j, t') ∈ s.B → s.lowB i t' = false
  have below : ∀ {s' : Bst} {bs : List Bool} {k l a b : Nat} {Γ : Ctx}, Γ[0]? = some (some (Is (.ref ad.x))) → Γ[k]? = some (some (tN a)) → Γ[l]? = some (some (tN b)) → 0 ≠ k → 0 ≠ l → 0 < Γ.length → YT (L2.tB (tMeth (He.ga K "Bonds") "is_below" (spR (C_B_is_below K)) [] E0 (tVar 0) (tCons (tVar k) (tCons (tVar l) tNil)))) Γ (Bf K (H0, ad.Hb) ad hv s' f (bs.map tBo)) (decide ((a, b) ∈ s'.B)) := fun {s' bs k l a b Γ} h0 hk hl nk nl hz => yt_loc (bf_up h0) (yt_B (y_meth (y_var (by rw [List.getElem?_set_self hz])) rfl (ya_cons (y_var (by rw [List.getElem?_set_ne nk]; exact hk)) (ya_cons (y_var (by rw [List.getElem?_set_ne nl]; exact hl)) ya_nil)) ⟨s', a, b, rfl, rfl⟩))
  have alike : ∀ {s' : Bst} {bs : List Bool} {k l a b : Nat} {Γ : Ctx}, Γ[0]? = some (some (Is (.ref ad.x))) → Γ[k]? = some (some (tN a)) → Γ[l]? = some (some (tN b)) → 0 ≠ k → 0 ≠ l → 0 < Γ.length → YT (L2.tB (tMeth (He.ga K "Bonds") "is_alike" (spR (C_B_is_alike K)) [] E0 (tVar 0) (tCons (tVar k) (tCons (tVar l) tNil)))) Γ (Bf K (H0, ad.Hb) ad hv s' f (bs.map tBo)) (decide (a = b) || decide ((a, b) ∈ s'.A)) := fun {s' bs k l a b Γ} h0 hk hl nk nl hz => yt_loc (bf_up h0) (yt_B (y_meth (y_var (by rw [List.getElem?_set_self hz])) rfl (ya_cons (y_var (by rw [List.getElem?_set_ne nk]; exact hk)) (ya_cons (y_var (by rw [List.getElem?_set_ne nl]; exact hl)) ya_nil)) ⟨s', a, b, rfl, rfl⟩))
  have late : ∀ {s' : Bst} {bs : List Bool}, s'.L = s.L → YT (L2.tB (tMeth (He.ga K "Bonds") "is_late" (spR (C_B_is_late K)) [] E0 (tVar 0) (tCons (tVar 1) (tCons (tVar 2) tNil)))) G (Bf K (H0, ad.Hb) ad hv s' f (bs.map tBo)) false := fun {s' bs} h => yt_loc (bf_up rfl) (yt_B (y_meth (y_var rfl) rfl (ya_cons (y_var rfl) (ya_cons (y_var rfl) ya_nil)) ⟨s', i, j, by rw [h]; exact hi, by rw [h]; exact hj, rfl, rfl⟩))
  let NF : Ctx → Mt → Prop := fun Γ' μ' => Wk Γ' G ∧ ∃ (s' : Bst) (bs : List Bool), Grow s s' (bs.any id) ∧ (bs.any id = false → Stable s i j) ∧ bs.length ≤ 100 ∧ μ' = Bf K (H0, ad.Hb) ad hv s' f (bs.map tBo)
  refine run_seq (e := (H0, ad.Hb)) NF ?_ g1 S1 fun σ2 K2 H2 Γ2 μ2 ⟨wk2, s2, bs2, hg2, hst2, hl2, e2⟩ g2 x2 S2 => ?_
  · -- the first if
    refine hr_if (below (bs := []) (k := 1) (l := 2) rfl rfl rfl (by decide) (by decide) (by show 0 < 5; decide)) (fun hb => ?_) (fun hb => hr_nil ⟨Wk.refl, s, [], Grow.refl hok, fun _ h => absurd h (of_decide_eq_false hb), by show 0 ≤ 100; decide, rfl⟩)
    have hij : (i, j) ∈ s.B := of_decide_eq_true hb
    refine hr_seq (N1 := fun Γ' μ' => Γ' = G ∧ μ' = Bf K (H0, ad.Hb) ad hv (s.bind i j) f ([s.bindB i j].map tBo)) (hr_appBind (kf := 3) (i := i) (j := j) rfl rfl (ya_two rfl rfl (src_lst (y_lst (ya_cons (y_tup (K := K) (ya_cons y_c (ya_cons (y_var (k := 1) rfl) (ya_cons (y_var (k := 2) rfl) ya_nil))) (by show 3 ≤ 100000; decide)) ya_nil) (by show 1 ≤ 100000; decide)))) hok hi hj (by show 0 < 100000; decide) ⟨rfl, rfl⟩) ?_
    rintro _ _ ⟨rfl, rfl⟩
    have hg1 := Grow.bind hok hi hj
    have many : YA (tCons (tMeth (He.ga K "Bonds") "many" (spR (C_B_many K)) [] E0 (tVar 0) tNil) tNil) G (Bf K (H0, ad.Hb) ad hv (s.bind i j) f ([s.bindB i j].map tBo)) [tN s.L] := ya_cons (y_loc (bf_up rfl) ((y_meth (C := C_B_many K) (R := tN (s.bind i j).L) (y_var (k := 0) rfl) rfl ya_nil ⟨s.bind i j, rfl, rfl⟩).to (by rw [hg1.L]))) ya_nil
    refine hr_for (fun t Γ' μ' => Wk Γ' G ∧ ∃ (s' : Bst) (bs : List Bool), Grow s s' (bs.any id) ∧ (bs.any id = false → F t) ∧ bs.length ≤ 1 + 2 * t ∧ μ' = Bf K (H0, ad.Hb) ad hv s' f (bs.map tBo)) (yi_range1 many (by omega)) ⟨Wk.refl, s.bind i j, [s.bindB i j], by simpa using hg1, fun h => ⟨by simpa using h, fun t' h => absurd h (Nat.not_lt_zero t')⟩, by simp, rfl⟩ (fun t R1 Γi μi ⟨wk, s', bs, hg, hF, hbl, e⟩ hR => ?_) (fun Γn μn ⟨wk, s', bs, hg, hF, hbl, e⟩ => ⟨wk, s', bs, hg, fun h => ?_, ?_, e⟩)
    · subst e
      obtain ⟨t0, ht, rfl⟩ := map_get hR
      have htt : t0 = t := by
        obtain ⟨h1, h2⟩ := List.getElem?_eq_some_iff.mp ht
        rw [List.getElem_range] at h2
        exact h2.symm
      have htL : t < s.L := by
        have := (List.getElem?_eq_some_iff.mp ht).1
        rwa [List.length_range] at this
      subst htt
      have hi' : i < s'.L := by rw [hg.L]; exact hi
      have ht' : t0 < s'.L := by rw [hg.L]; exact htL
      refine ⟨_, _, YG.weak wk yg_name, ?_⟩
      let Gt : Ctx := [some (Is (.ref ad.x)), some (tN i), some (tN j), some (Is (.ref f)), some (tN t0)]
      refine hr_seq (N1 := fun Γ' μ' => Γ' = Gt ∧ ∃ (s' : Bst) (bs : List Bool), Grow s s' (bs.any id) ∧ (bs.any id = false → F (t0 + 1)) ∧ bs.length ≤ 2 + 2 * t0 ∧ μ' = Bf K (H0, ad.Hb) ad hv s' f (bs.map tBo)) (hr_if (below (k := 2) (l := 4) (a := j) (b := t0) rfl rfl rfl (by decide) (by decide) (by show 0 < 5; decide)) (fun hb => ?_) (fun hb => ?_)) ?_
      · have hjt : (j, t0) ∈ s'.B := of_decide_eq_true hb
        refine hr_appLow (kf := 3) (i := i) (j := t0) rfl rfl (ya_two rfl rfl (src_lst (y_lst (ya_cons (y_tup (K := K) (ya_cons y_c (ya_cons (y_var (k := 1) rfl) (ya_cons (y_var (k := 2) rfl) ya_nil))) (by show 3 ≤ 100000; decide)) (ya_cons (y_tup (K := K) (ya_cons y_c (ya_cons (y_var (k := 2) rfl) (ya_cons (y_var (k := 4) rfl) ya_nil))) (by show 3 ≤ 100000; decide)) ya_nil)) (by show 2 ≤ 100000; decide)))) hg.ok hi' ht' (by rw [List.length_map]; omega) ⟨rfl, s'.low i t0, bs ++ [s'.lowB i t0], ?_, ?_, ?_, by rw [bs_snoc]⟩
        · rw [any_snoc]
          exact hg.trans (Grow.low hg.ok hi' ht' (hg.sub _ hij) hjt)
        · rw [any_snoc, Bool.or_eq_false_iff]
          rintro ⟨h1, h2⟩
          have hss := hg.same h1
          obtain ⟨f1, f2⟩ := hF h1
          refine ⟨f1, fun t' ht2 hB => ?_⟩
          by_cases e : t' < t0
          · exact f2 t' e hB
          · have : t' = t0 := by omega
            rw [this, ← hss]
            exact h2
        · rw [List.length_append, List.length_singleton]; omega
      · refine hr_nil ⟨rfl, s', bs, hg, fun h1 => ?_, by omega, rfl⟩
        have hss := hg.same h1
        obtain ⟨f1, f2⟩ := hF h1
        refine ⟨f1, fun t' ht2 hB => ?_⟩
        by_cases e : t' < t0
        · exact f2 t' e hB
        · have : t' = t0 := by omega
          rw [this, ← hss] at hB
          exact absurd hB (of_decide_eq_false hb)
      · rintro _ _ ⟨rfl, s3, bs3, hg3, hF3, hbl3, rfl⟩
        have hi3 : i < s3.L := by rw [hg3.L]; exact hi
        have ht3 : t0 < s3.L := by rw [hg3.L]; exact htL
        refine hr_if (yt_and (yt_t (y_neN (n := t0) (m := j) (y_var (k := 4) rfl) (y_var (k := 2) rfl))) fun _ => alike (k := 2) (l := 4) (a := j) (b := t0) rfl rfl rfl (by decide) (by decide) (by show 0 < 5; decide)) (fun hb => ?_) (fun hb => hr_nil ⟨.keep (.keep (.keep (.keep (.skip .nil)))), s3, bs3, hg3, hF3, by omega, rfl⟩)
        refine hr_appBind (kf := 3) (i := i) (j := t0) rfl rfl (ya_two rfl rfl (src_lst (y_lst (ya_cons (y_tup (K := K) (ya_cons y_c (ya_cons (y_var (k := 1) rfl) (ya_cons (y_var (k := 2) rfl) ya_nil))) (by show 3 ≤ 100000; decide)) (ya_cons (y_tup (K := K) (ya_cons y_c (ya_cons (y_var (k := 2) rfl) (ya_cons (y_var (k := 4) rfl) ya_nil))) (by show 3 ≤ 100000; decide)) ya_nil)) (by show 2 ≤ 100000; decide)))) hg3.ok hi3 ht3 (by rw [List.length_map]; omega) ⟨.keep (.keep (.keep (.keep (.skip .nil)))), s3.bind i t0, bs3 ++ [s3.bindB i t0], ?_, ?_, ?_, by rw [bs_snoc]⟩
        · rw [any_snoc]
          exact hg3.trans (Grow.bind hg3.ok hi3 ht3)
        · rw [any_snoc, Bool.or_eq_false_iff]
          exact fun h => hF3 h.1
        · rw [List.length_append, List.length_singleton]; omega
    · rw [List.length_map, List.length_range] at hF
      obtain ⟨f1, f2⟩ := hF h
      refine fun _ => ⟨?_, fun t ht hB => ?_⟩
      · unfold Bst.bindB at f1
        rw [Bool.not_eq_false', Bool.or_eq_true, decide_eq_true_iff, decide_eq_true_iff] at f1
        exact f1
      · have := f2 t ht hB
        unfold Bst.lowB at this
        rw [Bool.not_eq_false', Bool.or_eq_true, decide_eq_true_iff, decide_eq_true_iff] at this
        exact this
    · rw [List.length_map, List.length_range] at hbl
      omega
  · subst e2
    -- the last if never
    refine run_seq (e := (H0, ad.Hb)) (fun Γ' μ' => Wk Γ' G ∧ μ' = Bf K (H0, ad.Hb) ad hv s2 f (bs2.map tBo)) (hr_weak (hr_if (b := false) (YT.to (yt_and (yt_t (y_neN (n := i) (m := j) (y_var (k := 1) rfl) (y_var (k := 2) rfl))) fun _ => yt_and (alike (k := 1) (l := 2) (a := i) (b := j) rfl rfl rfl (by decide) (by decide) (by show 0 < 5; decide)) fun _ => late hg2.L) (by simp)) (fun h => nomatch h) (fun _ => hr_nil ⟨Wk.refl, rfl⟩)) wk2) g2 S2 fun σ3 K3 H3 Γ3 μ3 ⟨wk3, e3⟩ g3 x3 S3 => ?_
    subst e3
    have S4 := S3.weak wk3
    -- return any(found)
    have hx : Ex H0 K3 := g3.e0
    obtain ⟨v, hvf, rv⟩ := S4.sl.2 3 _ rfl
    obtain rfl : v = V.ref f := rv
    obtain ⟨c1, c2, ws, c3, c4⟩ := S4.mu.2.2
    refine ⟨_, hvf, f, bs2, rfl, allR_bools c4 ▸ sq_of c3, ?_⟩
    exact qq s2 (bs2.any id) H3 hg2 hst2 (hP.swap S4.mu.1 hx hg2.n hg2.kd hg2.es hg2.hs)
end
end HF
set_option maxHeartbeats 400000
namespace HF
open PySem PyProof.Rows L2 Evl
section
variable {w : World} {K : PySem.W.Frag} {mg : Str → Option Value} {base : Heap}
theorem yes_go {σ : L2.St} {H : Hp} {A B : Hp → Prop} (h : A H) : tYes σ H fun b H3 => if b = true then A H3 else B H3 := by
  show if true = true then A H else B H
  rw [if_pos rfl]
  exact h
theorem asg_cb1 {ta : TE} {r : List V → Hp → VK → Prop} {k : Nat} {D : Ends} {σ : L2.St} {H : Hp} (h : ta σ H (fun x H1 => r [x] H1 fun y H2 => D.nx (σ.set k (some y)) H2)) : tAsg (tCB r (tCons ta tNil)) (gName k) D σ H := h
structure Stt (K : PySem.W.Frag) (ad : BAd) (hv : List V) (D : Addr) (K0 G : Hp) (s : Bst) (bs : List Bool) : Prop where
  b : BP K K0 G ad hv s
  n : K0 D = none
  f : D ≠ ad.aF
  nb : ad.Hb D = none
  d : G D = some (.lst (bs.map V.bl))
theorem Stt.gr {ad : BAd} {hv : List V} {D : Addr} {K0 G K0' G' : Hp} {s : Bst} {bs : List Bool} (h : Stt K ad hv D K0 G s bs) (g : Gr K0 G K0' G') : Stt K ad hv D K0' G' s bs :=
  ⟨(Bm K ad hv s).m _ _ _ _ g h.b, g.f D h.n (ne_none h.d), h.f, h.nb, g.e D _ h.d⟩
theorem Stt.back {ad : BAd} {hv : List V} {D : Addr} {K0 G K0' G' : Hp} {s s' : Bst} {bs bs' : List Bool} (h : Stt K ad hv D K0 G s bs) (h' : Stt K ad hv D K0' G' s' bs') (e : Ex K0 K0') (h1 : s'.n = s.n) (h2 : s'.kd = s.kd) (h3 : s'.es = s.es) (h4 : s'.hs = s.hs) : Stt K ad hv D K0 G' s' bs' :=
  ⟨h.b.swap h'.b e h1 h2 h3 h4, h.n, h.f, h.nb, h'.d⟩
abbrev G0c (ad : BAd) : Ctx := [some (Is (.ref ad.x)), none, none, none]
theorem many_ok {ad : BAd} {hv : List V} {s : Bst} {Γ : Ctx} (h0 : Γ[0]? = some (some (Is (.ref ad.x)))) (hz : 0 < Γ.length) : YA (tCons (tMeth (He.ga K "Bonds") "many" (spR (C_B_many K)) [] E0 (tVar 0) tNil) tNil) Γ (Bm K ad hv s) [tN s.L] :=
  ya_cons (y_loc (bm_up h0) (y_meth (C := C_B_many K) (R := tN s.L) (y_var (k := 0) (by rw [List.getElem?_set_self hz])) rfl ya_nil ⟨s, rfl, rfl⟩)) ya_nil
theorem lc2_rules {ad : BAd} {hv : List V} {s : Bst} {σ : L2.St} {H0 H : Hp} {Q : VK} (S : Sx σ H0 H (G0c ad) (Bm K ad hv s)) (hok : s.Ok)
    (q : ∀ (s2 : Bst) (bs : List Bool) (p : Addr) (H' : Hp), Grow s s2 (bs.any id) → (bs.any id = false → ∀ i j, i < s.L → j < s.L → Stable s i j) → BP K H0 H' ad hv s2 → H' p = some (.lst (bs.map V.bl)) → Q (.ref p) H') : (tLc2 (iRng1 (tCons (tMeth (He.ga K "Bonds") "many" (spR (C_B_many K)) [] E0 (tVar 0) tNil) tNil)) (gName 2) tYes (iRng1 (tCons (tMeth (He.ga K "Bonds") "many" (spR (C_B_many K)) [] E0 (tVar 0) tNil) tNil)) (gName 3) tYes (tMeth (He.ga K "Bonds") "rules" (sp_B_rules K) [] E0 (tVar 0) (tCons (tVar 2) (tCons (tVar 3) tNil))) [2, 3] [3]) σ H Q := by
  have hL8 := hok.L8
  refine yi_range1 (many_ok rfl (by show 0 < 4; decide)) (by omega) σ H0 H S _ fun J K1 H1 g1 ix => fun D hD => ?_
  have S1 := S.gr g1
  obtain ⟨kA, kB, kH, fs, x, h⟩ := S1.mu.ex
  have hDF : D ≠ ad.aF := fun z => by rw [z, x.hF] at hD; cases hD
  have hD1 : K1 D = none := fresh_back g1.p hD
  have st0 : Stt K ad hv D K1 (upd H1 D (.lst [])) s [] := ⟨S1.mu.ext (Ex.new hD), hD1, hDF, fresh_back S1.mu.eb hD, upd_same⟩
  have hlen : ((List.range s.L).map tN).length = s.L := by rw [List.length_map, List.length_range]
  refine ⟨fun i m G => i ≤ s.L ∧ m = s.L - i ∧ ∃ (si : Bst) (bs : List Bool), Stt K ad hv D K1 G si bs ∧ Grow s si (bs.any id) ∧ (bs.any id = false → ∀ a c, a < i → c < s.L → Stable s a c) ∧ bs.length ≤ 10 * i, ⟨s.L, Nat.zero_le _, by omega, s, [], st0, Grow.refl hok, fun _ a c ha => absurd ha (Nat.not_lt_zero a), by simp⟩, ?_⟩
  rintro i m G ⟨hle, rfl, si, bs, st, hg, hst, hbl⟩
  by_cases hlt : i < s.L
  · refine .inr ⟨ix.go i G (st.b.e) (by rw [hlen]; exact hlt), fun G' => i + 1 ≤ s.L ∧ ∃ (si : Bst) (bs : List Bool), Stt K ad hv D K1 G' si bs ∧ Grow s si (bs.any id) ∧ (bs.any id = false → ∀ a c, a < i + 1 → c < s.L → Stable s a c) ∧ bs.length ≤ 10 * (i + 1), fun G' h => ⟨s.L - (i + 1), by omega, h.1, rfl, h.2⟩, fun v G' hy => ?_⟩
    obtain ⟨K2, gy, rx⟩ := ix.yl i K1 G v G' (Ex.refl _) st.b.e hy (tN i) (by rw [List.getElem?_map, List.getElem?_range hlt]; rfl)
    have st1 := st.gr gy
    have sl1 : Sl σ K2 (G0c ad) := S.sl.mono (g1.e0.trans gy.e0)
    refine yg_name (k := 2) v (L2.wipe σ [2, 3]) K2 G' (sl1.wipe [2, 3]) rx gy.p _ fun σ2 s2 df2 => ⟨wipe_wipe df2 (by decide), ?_⟩
    refine yes_go ?_
    have sx2 : Sx σ2 K2 G' _ (Bm K ad hv si) := ⟨s2, gy.p, st1.b⟩
    refine yi_range1 (many_ok rfl (by show 0 < 4; decide)) (by rw [hg.L]; omega) σ2 K2 G' sx2 _ fun J1 K3 G3 g3 ix2 => ?_
    have st3 := st1.gr g3
    have hlen2 : ((List.range si.L).map tN).length = s.L := by rw [List.length_map, List.length_range, hg.L]
    refine ⟨fun j m G => j ≤ s.L ∧ m = s.L - j ∧ ∃ (sj : Bst) (bs : List Bool), Stt K ad hv D K3 G sj bs ∧ Grow s sj (bs.any id) ∧ (bs.any id = false → (∀ a c, a < i → c < s.L → Stable s a c) ∧ ∀ c, c < j → Stable s i c) ∧ bs.length ≤ 10 * i + j, ⟨s.L, Nat.zero_le _, by omega, si, bs, st3, hg, fun h => ⟨hst h, fun c hc => absurd hc (Nat.not_lt_zero c)⟩, by omega⟩, ?_⟩
    rintro j m G4 ⟨hle4, rfl, sj, bs4, st4, hg4, hst4, hbl4⟩
    by_cases hlt4 : j < s.L
    · refine .inr ⟨ix2.go j G4 st4.b.e (by rw [hlen2]; exact hlt4), fun G' => j + 1 ≤ s.L ∧ ∃ (sj : Bst) (bs : List Bool), Stt K ad hv D K3 G' sj bs ∧ Grow s sj (bs.any id) ∧ (bs.any id = false → (∀ a c, a < i → c < s.L → Stable s a c) ∧ ∀ c, c < j + 1 → Stable s i c) ∧ bs.length ≤ 10 * i + (j + 1), fun G' h => ⟨s.L - (j + 1), by omega, h.1, rfl, h.2⟩, fun v4 G5 hy4 => ?_⟩
      obtain ⟨K5, gy5, rx5⟩ := ix2.yl j K3 G4 v4 G5 (Ex.refl _) st4.b.e hy4 (tN j) (by rw [hg.L, List.getElem?_map, List.getElem?_range hlt4]; rfl)
      have st5 := st4.gr gy5
      have sl5 := s2.mono (g3.e0.trans gy5.e0)
      refine yg_name (k := 3) v4 (L2.wipe σ2 [3]) K5 G5 (sl5.wipe [3]) rx5 gy5.p _ fun σ3 s3 df3 => ⟨wipe_wipe df3 (by decide), ?_⟩
      refine yes_go ?_
      obtain ⟨w0, hw0, rw0⟩ := s3.2 0 (Is (.ref ad.x)) rfl
      obtain rfl : w0 = V.ref ad.x := rw0
      obtain ⟨w2, hw2, rw2⟩ := s3.2 2 (tN i) rfl
      obtain rfl : w2 = V.int (i : Int) := rw2
      obtain ⟨w3, hw3, rw3⟩ := s3.2 3 (tN j) rfl
      obtain rfl : w3 = V.int (j : Int) := rw3
      obtain ⟨kA, kB, kH, fs, x5, h⟩ := st5.b.ex
      refine ⟨_, hw0, ad.x, ad.dx, ad.fs, rfl, x5.hx, rfl, _, hw2, _, hw3, ?_⟩
      have hh := st5.b.hold st5.d st5.n st5.f
      refine ⟨_, ad, hv, sj, i, j, hh, hg4.ok, by rw [hg4.L]; exact hlt, by rw [hg4.L]; exact hlt4, rfl, fun s6 b H6 hg6 hst6 b6 => ?_⟩
      have d6 : H6 D = some (.lst (bs4.map V.bl)) := b6.e D _ upd_same
      have b7 := st5.b.swap b6 (Ex.new st5.n) hg6.n hg6.kd hg6.es hg6.hs
      have b8 := b7.other (o := .lst (bs4.map V.bl ++ [V.bl b])) d6 st5.n st5.f st5.nb
      have st8 : Stt K ad hv D K5 (upd H6 D (.lst (bs4.map V.bl ++ [V.bl b]))) s6 (bs4 ++ [b]) := ⟨b8, st5.n, st5.f, st5.nb, by rw [upd_same, List.map_append]; rfl⟩
      have hg8 := hg4.trans hg6
      refine ⟨_, d6, sz_lt (by rw [List.length_map]; omega), hlt4, s6, bs4 ++ [b], st4.back st8 gy5.e0 hg6.n hg6.kd hg6.es hg6.hs, by rw [any_snoc]; exact hg8, fun hz => ?_, by rw [List.length_append, List.length_singleton]; omega⟩
      rw [any_snoc, Bool.or_eq_false_iff] at hz
      obtain ⟨h1, h2⟩ := hst4 hz.1
      refine ⟨h1, fun c hc => ?_⟩
      by_cases e : c < j
      · exact h2 c e
      · have : c = j := by omega
        rw [this]
        have := hst6 hz.2
        rw [hg4.same hz.1] at this
        exact this
    · have e : j = s.L := by omega
      subst e
      refine .inl ⟨ix2.st _ _ st4.b.e (by rw [hlen2]; exact Nat.le_refl _), hlt, sj, bs4, st.back st4 (gy.e0.trans g3.e0) (hg4.n.trans hg.n.symm) (hg4.kd.trans hg.kd.symm) (hg4.es.trans hg.es.symm) (hg4.hs.trans hg.hs.symm), hg4, fun hz a c ha hc => ?_, by omega⟩
      obtain ⟨h1, h2⟩ := hst4 hz
      by_cases e : a < i
      · exact h1 a c e hc
      · have : a = i := by omega
        rw [this]
        exact h2 c hc
  · have e : i = s.L := by omega
    subst e
    refine .inl ⟨ix.st _ _ st.b.e (by rw [hlen]; exact Nat.le_refl _), ?_⟩
    exact q si bs D G hg (fun hz a c ha hc => hst hz a c ha hc) (S.mu.swap st.b g1.e0 hg.n hg.kd hg.es hg.hs) st.d
theorem hr_closeStep {ad : BAd} {hv : List V} {s : Bst} {E0' : Hp} {N : Ctx → Mt → Prop} {R : Ty} (hok : s.Ok)
    (n : ∀ s2 b, Grow s s2 b → (b = false → ∀ i j, i < s.L → j < s.L → Stable s i j) → N [some (Is (.ref ad.x)), some (tBo b), none, none] (Bm K ad hv s2)) :
    Hr (E0', ad.Hb) (tAsg (tCB (rAny K) (tCons (tLc2 (iRng1 (tCons (tMeth (He.ga K "Bonds") "many" (spR (C_B_many K)) [] E0 (tVar 0) tNil) tNil)) (gName 2) tYes (iRng1 (tCons (tMeth (He.ga K "Bonds") "many" (spR (C_B_many K)) [] E0 (tVar 0) tNil) tNil)) (gName 3) tYes (tMeth (He.ga K "Bonds") "rules" (sp_B_rules K) [] E0 (tVar 0) (tCons (tVar 2) (tCons (tVar 3) tNil))) [2, 3] [3]) tNil)) (gName 1)) (G0c ad) (Bm K ad hv s) N R := fun σ H0 H D g S nx rt => by
  refine asg_cb1 (lc2_rules S hok fun s2 bs p H' hg hst b hp => ?_)
  refine ⟨p, bs, rfl, sq_of hp, ?_⟩
  exact nx _ H0 H' _ _ (n s2 (bs.any id) hg hst) (gr_b g Gb.refl b) (Ex.refl _) ⟨S.sl.set 1 (R := tBo (bs.any id)) rfl, b.e, b⟩
def sp_B_close (K : PySem.W.Frag) : Sp := fun vs H Q _ => ∃ H0 ad hv s, BP K H0 H ad hv s ∧ s.Ok ∧ vs = [.ref ad.x] ∧
  ∀ s' H' b, Grow s s' b → (∀ i j, i < s.L → j < s.L → Stable s' i j) → BP K H0 H' ad hv s' → Q .non H'
theorem sc_B_close : FnScope ["self", "goes_on", "one", "other"] ["self"] (defScope s_B_close) := ⟨rfl, rfl, rfl, by decide +kernel, rfl, by decide +kernel, by decide +kernel⟩
theorem ok_B_close (T : Tx K mg) : FnOk PP w K mg base CX0 4 (He.fAd K d_B_close.at_) (fdOf K d_B_close.at_) ["self"] (sp_B_close K) := by
  have G_B_rules := ok_B_rules T (w := w) (base := base)
  have G_B_many := ok_B_many T (w := w) (base := base)
  refine T.F_B_close.ok sc_B_close (by rintro vs H Q E ⟨H0, ad, hv, s, _, _, rfl, _⟩; rfl) fun cdv A outer s_ H vs Q E hr ⟨H0, ad, hv, s, hP, hok, evs, qq⟩ => ?_
  subst evs
  refine ⟨_, PSs.nox (pss_cons (ps_set (i := 1) sc_B_close.nd rfl (Or.inl rfl) pe_bl)
      (pss_one (ps_while PassesOwn.never (pt_val (pv 1)) (pss_one (ps_set (i := 1) sc_B_close.nd rfl (Or.inl rfl) (pe_callB (r := rAny K) (cr_any rfl) (by rfl) T.f_any (by decide +kernel) (pa_cons (pe_lc2 (own := [("one", 2), ("other", 3)]) (vs1 := [3]) rfl sc_B_close.nd (pi_range1 rfl T.f_range (pa_cons (pe_meth0 (pv 0) T.c_Bonds T.m_B_many G_B_many (hr.mono (by decide)) T.b_B_many .nil pass0) pa_nil)) (blkOk_by (N := ["self", "goes_on", "one", "other"]) (sc := _) (by kernel_rfl)) (by decide) (fun _ _ _ _ _ => (pg_name (i := 2) sc_B_close.nd rfl (Or.inl rfl))) (fun _ _ _ _ _ => pts_nil) (fun _ _ _ _ _ => (pi_range1 rfl T.f_range (pa_cons (pe_meth0 (pv 0) T.c_Bonds T.m_B_many G_B_many (hr.mono (by decide)) T.b_B_many .nil pass0) pa_nil))) (fun _ _ _ _ _ => (pg_name (i := 3) sc_B_close.nd rfl (Or.inl rfl))) (fun _ _ _ _ _ => pts_nil) (fun _ _ _ _ _ => (pe_meth (pv 0) T.c_Bonds T.m_B_rules G_B_rules (hr.mono (by decide)) T.b_B_rules .nil pass0 (pa_cons (pv 2) (pa_cons (pv 3) pa_nil))))) pa_nil))))))), ?_⟩
  refine run_diag (Γ := G0c ad) (fun _ μ' => ∃ s' b, Grow s s' b ∧ (∀ i j, i < s.L → j < s.L → Stable s' i j) ∧ μ' = Bm K ad hv s') hP hP.e (start_sl (Rs := [Is (.ref ad.x)]) ⟨rfl, trivial⟩) ?_ (fun σ' H0' H' Γ' μ' ⟨s', b, hg, hst, e⟩ x y hp => qq s' H' b hg hst (by subst e; exact hP.swap hp x.1 hg.n hg.kd hg.es hg.hs))
  refine hr_set (RA := tBo true) y_c ?_
  refine hr_while (fun m Γ' μ' => ∃ s' b b', Grow s s' b' ∧ (b = false → ∀ i j, i < s.L → j < s.L → Stable s' i j) ∧ m = 2 * (200 - (s'.A.length + s'.B.length)) + (if b = true then 1 else 0) ∧ Wk Γ' [some (Is (.ref ad.x)), some (tBo b), none, none] ∧ μ' = Bm K ad hv s') _ ⟨s, true, false, Grow.refl hok, fun h => (nomatch h), rfl, .keep (.keep (.skip (.skip .nil))), rfl⟩ ?_
  rintro m Γ1 μ1 ⟨s1, b, b', hg, hst, rfl, wk, rfl⟩
  refine ⟨b, fun σ H0 H S => (yt_B (y_var (k := 1) (R := tBo b) rfl)) σ H0 H (S.weak wk), fun hb => ?_, fun hb => ⟨s1, b', hg, hst hb, rfl⟩⟩
  subst hb
  refine hr_weak (hr_closeStep hg.ok fun s2 c hg2 hst2 => ?_) (wk.trans (.keep (.skip (.skip (.skip .nil)))))
  have hg3 := hg.trans hg2
  have a1 := hg2.ok.alen
  have a2 := hg2.ok.blen
  have hm := hg2.meas
  refine ⟨_, ?_, s2, c, b' || c, hg3, fun hc => ?_, rfl, Wk.refl, rfl⟩
  · cases c with
    | true => simp at hm ⊢; omega
    | false => simp at hm ⊢; omega
  · have := hst2 hc
    rw [hg2.same hc]
    intro i j hi hj
    exact this i j (by rw [hg.L]; exact hi) (by rw [hg.L]; exact hj)
end
end HF
set_option maxHeartbeats 1000000
namespace HF
open PySem PyProof.Rows L2 Evl
section
variable {w : World} {K : PySem.W.Frag} {mg : Str → Option Value} {base : Heap}
abbrev SA' := SA
theorem SA'.refl {s : Bst} (h : s.Ok) : SA' s s := SA.refl h
/-- the new instance, and what is its own besides -/
def Mx (K : PySem.W.Frag) (x dx : Addr) (fs : List (Str × V)) (cs : List (Addr × HO)) : Mt := ⟨fun K0 H => H x = some (.ins (He.ga K "Bonds") dx fs) ∧ K0 x = none ∧ ∀ c ∈ cs, H c.1 = some c.2 ∧ K0 c.1 = none ∧ c.1 ≠ x,
  fun H0 H H0' H' g ⟨h1, h2, h3⟩ => ⟨g.e _ _ h1, g.f _ h2 (ne_none h1), fun c hc => ⟨g.e _ _ (h3 c hc).1, g.f _ (h3 c hc).2.1 (ne_none (h3 c hc).1), (h3 c hc).2.2⟩⟩⟩
theorem mx_put {H0 Hc K0 H : Hp} {Γ : Ctx} {σ : L2.St} {x dx : Addr} {fs : List (Str × V)} {cs : List (Addr × HO)} (nx : Hc x = none) (g : Gr H0 Hc K0 H) (S : Sx σ K0 H Γ (Mx K x dx fs cs)) (fs' : List (Str × V)) :
    Gr H0 Hc K0 (upd H x (.ins (He.ga K "Bonds") dx fs')) ∧ Sx σ K0 (upd H x (.ins (He.ga K "Bonds") dx fs')) Γ (Mx K x dx fs' cs) :=
  ⟨g.put nx S.mu.2.1, S.sl, ex_upd S.ex S.mu.2.1, upd_same, S.mu.2.1, fun c hc => ⟨by rw [upd_ne (S.mu.2.2 c hc).2.2]; exact (S.mu.2.2 c hc).1, (S.mu.2.2 c hc).2⟩⟩
theorem run_fld {H0 Hc K0 H : Hp} {Γ : Ctx} {σ : L2.St} {x dx : Addr} {fs : List (Str × V)} {cs : List (Addr × HO)} {tv : TE} {RA : Ty} {f : Str} {u : TS} {D : Ends} (nx : Hc x = none) (hc : Cls K (He.ga K "Bonds")) (hn : NoAttr K (He.ga K "Bonds") f) (g : Gr H0 Hc K0 H) (S : Sx σ K0 H Γ (Mx K x dx fs cs)) (h0 : Γ[0]? = some (some (Is (.ref x)))) (hl : fs.length < 1000) (h : Y tv Γ (Mx K x dx fs cs) RA)
    (k : ∀ v K1 H1, Ex K0 K1 → Gr H0 Hc K1 H1 → Sx σ K1 H1 Γ (Mx K x dx (putF f v fs) cs) → RA.r v K1 → u D σ H1) : tSeq (sFld K (tVar 0) tv f) u D σ H := by
  refine h σ K0 H S _ fun v K1 H1 g1 r1 => ?_
  have S1 := S.gr g1
  obtain ⟨w, hw, rw'⟩ := S1.sl.2 0 _ h0
  obtain rfl : w = V.ref x := rw'
  obtain ⟨g2, S2⟩ := mx_put nx (g.trans g1) S1 (putF f v fs)
  exact ⟨_, hw, x, _, dx, fs, rfl, S1.mu.1, hc, hn, hl, k v K1 _ g1.e0 g2 S2 r1⟩
/-- self.f = a new thing of its own -/
theorem run_fldC {H0 Hc K0 H : Hp} {Γ : Ctx} {σ : L2.St} {x dx : Addr} {fs : List (Str × V)} {cs : List (Addr × HO)} {tv : TE} {o : HO} {f : Str} {u : TS} {D : Ends} (nx : Hc x = none) (hc : Cls K (He.ga K "Bonds")) (hn : NoAttr K (He.ga K "Bonds") f) (g : Gr H0 Hc K0 H) (S : Sx σ K0 H Γ (Mx K x dx fs cs)) (h0 : Γ[0]? = some (some (Is (.ref x)))) (hl : fs.length < 1000)
    (h : ∀ σ H0 H, Sx σ H0 H Γ (Mx K x dx fs cs) → ∀ Q : VK, (∀ p H0' H', Gr H0 H H0' H' → H p = none → H0' p = none → H' p = some o → Q (.ref p) H') → tv σ H Q)
    (k : ∀ p K1 H1, Ex K0 K1 → Gr H0 Hc K1 H1 → Sx σ K1 H1 Γ (Mx K x dx (putF f (.ref p) fs) (cs ++ [(p, o)])) → (Hc p = none ∧ ∀ c ∈ cs, c.1 ≠ p) → u D σ H1) : tSeq (sFld K (tVar 0) tv f) u D σ H := by
  refine h σ K0 H S _ fun p K1 H1 g1 n1 n2 hp => ?_
  have S1 := S.gr g1
  obtain ⟨w, hw, rw'⟩ := S1.sl.2 0 _ h0
  obtain rfl : w = V.ref x := rw'
  obtain ⟨g2, S2⟩ := mx_put nx (g.trans g1) S1 (putF f (.ref p) fs)
  have hpx : p ≠ x := fun z => by rw [z, S.mu.1] at n1; cases n1
  refine ⟨_, hw, x, _, dx, fs, rfl, S1.mu.1, hc, hn, hl, k p K1 _ g1.e0 g2 ⟨S2.sl, S2.ex, S2.mu.1, S2.mu.2.1, fun c hc => ?_⟩ ⟨fresh_back g.e n1, fun c hc z => by rw [← z, (S.mu.2.2 c hc).1] at n1; cases n1⟩⟩
  rcases List.mem_append.mp hc with hc | hc
  · exact S2.mu.2.2 c hc
  · rw [List.mem_singleton.mp hc]
    exact ⟨by show upd H1 x _ p = _; rw [upd_ne hpx]; exact hp, n2, hpx⟩
theorem y_fldX {Γ : Ctx} {x dx : Addr} {fs : List (Str × V)} {cs : List (Addr × HO)} {f : Str} {v : V} (hc : Cls K (He.ga K "Bonds")) (hn : NoAttr K (He.ga K "Bonds") f) (h0 : Γ[0]? = some (some (Is (.ref x)))) (hl : fs.lookup f = some v) : Y (tFld K (tVar 0) f) Γ (Mx K x dx fs cs) (Is v) := fun σ H0 H S Q q => by
  obtain ⟨w, hw, rw'⟩ := S.sl.2 0 _ h0
  obtain rfl : w = V.ref x := rw'
  exact ⟨_, hw, x, _, dx, fs, v, rfl, S.mu.1, hc, hn, hl, q v H0 H S.g0 rfl⟩
theorem keysH_succ (i : Nat) : keysH (i + 1) = keysH i ++ [Sum.inl (i : Int)] := by
  unfold keysH
  rw [List.range_succ, List.map_append]
  rfl
theorem keysH_not (i : Nat) : (Sum.inl (i : Int) : L2.Key) ∉ keysH i := fun h => by
  unfold keysH at h
  obtain ⟨j, hj, e⟩ := List.mem_map.mp h
  have h1 := List.mem_range.mp hj
  have h2 := Sum.inl.inj e
  omega
/-- {person: [] for person in range(n)} -/
theorem nx_go {n : L2.St → Hp → Prop} {r : VK} {b c : L2.St → Hp → Prop} {σ : L2.St} {H : Hp} (h : n σ H) : (Ends.mk n r b c).nx σ H := h
theorem fld_go {σ : L2.St} {H : Hp} {tv : TE} {f : Str} {u : TS} {D : Ends} (h : tv σ H (fun y H1 => (tVar 0) σ H1 fun x H2 => ∃ a C dx fs, x = .ref a ∧ H2 a = some (.ins C dx fs) ∧ Cls K C ∧ NoAttr K C f ∧ fs.length < 1000 ∧ u D σ (upd H2 a (.ins C dx (putF f y fs))))) : tSeq (sFld K (tVar 0) tv f) u D σ H := h
theorem dc_has {Γ : Ctx} {μ : Mt} {tr : TA} {n : Nat} (hY : YA tr Γ μ [tN n]) (hn : n ≤ 1000) (hz : 7 < Γ.length) {σ : L2.St} {H0 H : Hp} (S : Sx σ H0 H Γ μ) {Q : VK}
    (q : ∀ D kH K1 H1, Gr H0 H K1 H1 → H D = none → K1 D = none → H1 D = some (.dK kH) → kH.map (·.1) = keysH n → AllR (kH.map (·.2)) ((List.range n).map fun _ => tNs []) K1 → Q (.ref D) H1) : tDc (iRng1 tr) (gName 7) tYes (tVar 7) (tLst tNil) [7] σ H Q := by
  refine yi_range1 hY (by omega) σ H0 H S _ fun J K1 H1 g1 ix => fun D hD => ?_
  have hD0 : H D = none := fresh_back g1.e hD
  have hlen : ((List.range n).map tN).length = n := by rw [List.length_map, List.length_range]
  refine ⟨fun i m G => i ≤ n ∧ m = n - i ∧ ∃ K2 kH, Gr H0 H K2 G ∧ Ex K1 K2 ∧ K2 D = none ∧ G D = some (.dK kH) ∧ kH.map (·.1) = keysH i ∧ AllR (kH.map (·.2)) ((List.range i).map fun _ => tNs []) K2, ⟨n, Nat.zero_le _, by omega, K1, [], g1.trans (Gr.own g1.p hD), Ex.refl _, fresh_back g1.p hD, upd_same, rfl, by simp [AllR]⟩, ?_⟩
  rintro i m G ⟨hle, rfl, K2, kH, gG, eK, nD, dD, hk, hA⟩
  by_cases hlt : i < n
  · refine .inr ⟨ix.go i G (eK.trans gG.p) (by rw [hlen]; exact hlt), fun G' => i + 1 ≤ n ∧ ∃ K2 kH, Gr H0 H K2 G' ∧ Ex K1 K2 ∧ K2 D = none ∧ G' D = some (.dK kH) ∧ kH.map (·.1) = keysH (i + 1) ∧ AllR (kH.map (·.2)) ((List.range (i + 1)).map fun _ => tNs []) K2, fun G' h => ⟨n - (i + 1), by omega, h.1, rfl, h.2⟩, fun v G' hy => ?_⟩
    obtain ⟨K3, gy, rx⟩ := ix.yl i K2 G v G' eK gG.p hy (tN i) (by rw [List.getElem?_map, List.getElem?_range hlt]; rfl)
    have nD3 : K3 D = none := gy.f D nD (ne_none dD)
    have d3 : G' D = some (.dK kH) := gy.e D _ dD
    have s1 := (S.gr gG).gr gy
    refine yg_name (k := 7) v (L2.wipe σ [7]) K3 G' (s1.sl.wipe [7]) rx gy.p _ fun σ2 s2 df2 => ⟨wipe_wipe df2 (by decide), ?_⟩
    refine yes_go ?_
    obtain ⟨w7, hw7, rw7⟩ := s2.2 7 (tN i) (by
      rw [List.getElem?_set_self]
      show 7 < ((wipeG Γ []).set 7 none).length
      rw [List.length_set]
      exact hz)
    obtain rfl : w7 = V.int (i : Int) := rw7
    refine ⟨_, hw7, sz_of (by show 0 ≤ 100000; decide), fun p hp => ?_⟩
    have hpD : p ≠ D := fun z => by rw [z, d3] at hp; cases hp
    have g4 := Gr.new (o := .lst []) gy.p hp
    have hkl : kH.length = i := by
      have := congrArg List.length hk
      unfold keysH at this
      simpa using this
    have hnone : valV kH (Sum.inl (i : Int) : L2.Key) = none := by
      have h1 := valV_some kH (Sum.inl (i : Int) : L2.Key)
      have h2 : (valV kH (Sum.inl (i : Int) : L2.Key)).isSome = false := by
        rw [h1]
        exact decide_eq_false_iff_not.mpr (by rw [hk]; exact keysH_not i)
      cases e : valV kH (Sum.inl (i : Int) : L2.Key) with
      | none => rfl
      | some u => rw [e] at h2; cases h2
    have nD4 : (upd K3 p (.lst [])) D = none := by rw [upd_ne hpD.symm]; exact nD3
    refine ⟨kH, Sum.inl (i : Int), rfl, by rw [upd_ne hpD.symm]; exact d3, sz_lt (by omega), hlt, upd K3 p (.lst []), kH ++ [(Sum.inl (i : Int), .ref p)], ?_, (eK.trans gy.e0).trans g4.e0, nD4, by rw [putK_new _ hnone, upd_same], ?_, ?_⟩
    · exact ((gG.trans gy).trans g4).put hD0 nD4
    · rw [List.map_append, hk, keysH_succ]; rfl
    · rw [List.map_append, List.range_succ, List.map_append]
      exact (hA.m (gy.e0.trans g4.e0)).app ⟨⟨p, [], rfl, upd_same, trivial⟩, trivial⟩
  · have e : i = n := by omega
    subst e
    exact .inl ⟨ix.st _ _ (eK.trans gG.p) (by rw [hlen]; exact Nat.le_refl _), q D kH K2 G gG hD0 nD dD hk hA⟩
theorem run_fldH {H0 Hc K0 H : Hp} {Γ : Ctx} {σ : L2.St} {x dx : Addr} {fs : List (Str × V)} {cs : List (Addr × HO)} {u : TS} {D : Ends} {n : Nat} (nx : Hc x = none) (T : Tx K mg) (g : Gr H0 Hc K0 H) (S : Sx σ K0 H Γ (Mx K x dx fs cs)) (h0 : Γ[0]? = some (some (Is (.ref x)))) (hz : 7 < Γ.length) (hf : fs.lookup ("own_people" : Str) = some (V.int (n : Nat))) (hl : fs.length < 1000) (hn : n ≤ 1000)
    (k : ∀ p kH K1 H1, Ex K0 K1 → Gr H0 Hc K1 H1 → Sx σ K1 H1 Γ (Mx K x dx (putF "own_has" (.ref p) fs) (cs ++ [(p, .dK kH)])) → Hc p = none → kH.map (·.1) = keysH n → AllR (kH.map (·.2)) ((List.range n).map fun _ => tNs []) K1 → u D σ H1) :
    tSeq (sFld K (tVar 0) (tDc (iRng1 (tCons (tFld K (tVar 0) "own_people") tNil)) (gName 7) tYes (tVar 7) (tLst tNil) [7]) "own_has") u D σ H := by
  refine fld_go (dc_has (n := n) (ya_cons (y_fldX T.c_Bonds T.n_B_own_people h0 hf) ya_nil) hn hz S fun p kH K1 H1 g1 n1 n2 hp hk hA => ?_)
  have S1 := S.gr g1
  obtain ⟨w, hw, rw'⟩ := S1.sl.2 0 _ h0
  obtain rfl : w = V.ref x := rw'
  obtain ⟨g2, S2⟩ := mx_put nx (g.trans g1) S1 (putF "own_has" (.ref p) fs)
  have hpx : p ≠ x := fun z => by rw [z, S.mu.1] at n1; cases n1
  refine ⟨_, hw, x, _, dx, fs, rfl, S1.mu.1, T.c_Bonds, T.n_B_own_has, hl, k p kH K1 _ g1.e0 g2 ⟨S2.sl, S2.ex, S2.mu.1, S2.mu.2.1, fun c hc => ?_⟩ (fresh_back g.e n1) hk hA⟩
  rcases List.mem_append.mp hc with hc | hc
  · exact S2.mu.2.2 c hc
  · rw [List.mem_singleton.mp hc]
    exact ⟨by show upd H1 x _ p = _; rw [upd_ne hpx]; exact hp, n2, hpx⟩
/-! ### what Bonds is, when made -/
structure BSpec (n : Nat) (es : List Evt) (kd : Str) (s : Bst) : Prop where
  hn : s.n = n
  hes : s.es = es
  hkd : s.kd = kd
  ok : s.Ok
  hs : s.hs = (sim (decide (kd = "long")) (looksL es).length es).hs
  base : ∀ p ∈ (sim (decide (kd = "long")) (looksL es).length es).bs, p ∈ s.B
  snd : ∀ T : Nat → Nat → Prop, (∀ a b c, T a b → T b c → T a c) → (∀ p ∈ (sim (decide (kd = "long")) (looksL es).length es).bs, T p.1 p.2) → ∀ p ∈ s.B, T p.1 p.2
  tr : ∀ a b c, (a, b) ∈ s.B → (b, c) ∈ s.B → (a, c) ∈ s.B
  al : ∀ p ∈ s.B, p ∈ s.A
  lt : ∀ p ∈ s.B, p.1 < p.2
theorem bspec_of {n : Nat} {es : List Evt} {kd : Str} {s1 s2 s3 : Bst} {b : Bool} (h1 : GoOk n es kd (sim (decide (kd = "long")) (looksL es).length es) s1) (h2 : SA' s1 s2) (h3 : Grow s2 s3 b) (h4 : ∀ i j, i < s2.L → j < s2.L → Stable s3 i j) : BSpec n es kd s3 := by
  have hsn : ∀ T : Nat → Nat → Prop, (∀ a b c, T a b → T b c → T a c) → (∀ p ∈ (sim (decide (kd = "long")) (looksL es).length es).bs, T p.1 p.2) → ∀ p ∈ s3.B, T p.1 p.2 := fun T tr hT => h3.snd T tr fun p hp => hT p ((h1.B p).mp (h2.B ▸ hp))
  have hlt : ∀ p ∈ s3.B, p.1 < p.2 := hsn (· < ·) (fun a b c => Nat.lt_trans) fun p hp => ((sim_ok (decide (kd = "long")) (looksL es).length es sim0 (sim0_ok _)).bs p hp).1
  have hL : s3.L = s2.L := h3.L
  refine ⟨(h3.n.trans h2.n).trans h1.n, (h3.es.trans h2.es).trans h1.es, (h3.kd.trans h2.kd).trans h1.kd, h3.ok, (h3.hs.trans h2.hs).trans h1.hs, fun p hp => h3.sub p (h2.B ▸ (h1.B p).mpr hp), hsn, fun a b' c hab hbc => ?_, fun p hp => ?_, hlt⟩
  · have l1 := h3.ok.bb _ hab
    have l2 := h3.ok.bb _ hbc
    rcases (h4 a b' (by rw [← hL]; exact l1.1) (by rw [← hL]; exact l1.2) hab).2 c l2.2 hbc with e | e
    · have := hlt _ hab
      have := hlt _ hbc
      simp at *
      omega
    · exact e
  · have l1 := h3.ok.bb _ hp
    rcases (h4 p.1 p.2 (by rw [← hL]; exact l1.1) (by rw [← hL]; exact l1.2) hp).1 with e | e
    · have := hlt _ hp
      omega
    · exact e
theorem bp_rest {H0 KC HC HD : Hp} {ad : BAd} {hv : List V} {s : Bst} (b : BP K KC HD ad hv s) (g : Gr H0 ad.Hb KC HC) (hex : Ex H0 ad.Hb) : (Bnd K s).r (.ref ad.x) (Rest H0 ad.Hb HD) := by
  obtain ⟨⟨kA, kB, kH, fs, x, h1, h2, h3, h4, _⟩, k⟩ := b
  have e : Ex KC (Rest H0 ad.Hb HD) := (⟨g.e0, x.eb, x.ex, g.f⟩ : Gr H0 ad.Hb KC HD).rest
  have k' := k.m e
  refine ⟨ad.x, ad.dx, ad.fs, rfl, Rest.at x.bx x.hx, rfl, ?_, k'.tE, ?_, k'.tG, k'.tL, k'.tD, ⟨_, kA, rfl, Rest.at x.bA x.hA, h1⟩, ⟨_, kB, rfl, Rest.at x.bB x.hB, h2⟩, ⟨_, kH, rfl, Rest.at x.bH x.hH, ?_, ?_⟩, ⟨_, fs, rfl, Rest.at x.bF x.hF⟩, trivial⟩
  · show V.int (ad.n : Int) = V.int (s.n : Int)
    rw [k.n]
  · show V.str ad.kd = V.str s.kd
    rw [k.kd]
  · rw [h3, List.map_map]; rfl
  · rw [h4, List.map_map]; exact k'.th
structure TabOk (n : Nat) (es : List Evt) : Prop where
  hn : n ≤ 1000
  len : es.length ≤ 64
  L : (looksL es).length ≤ 8
  ev : ∀ e ∈ es, EvOk n e
/-- the pairs to bind besides: a list of pairs, or an empty tuple -/
def MoreT (K : PySem.W.Frag) (ps : List (Nat × Nat)) (T : Ty) : Prop := T = Lst (ps.map (tPr K)) ∨ (ps = [] ∧ T = Tup K [])
def sp_B_init (K : PySem.W.Frag) : Sp := fun vs H Q _ => ∃ H0 Hc x dx n es kd tt gone more ps MT, Ex H0 Hc ∧ Hc x = none ∧ Hc dx = none ∧ dx ≠ x ∧ H = upd (upd Hc dx (.own x)) x (.ins (He.ga K "Bonds") dx []) ∧ TabOk n es ∧ (tTab K n es).r tt H0 ∧ (Tup K []).r gone H0 ∧
  MoreT K ps MT ∧ MT.r more H0 ∧ (∀ p ∈ ps, p.1 < (looksL es).length ∧ p.2 < (looksL es).length) ∧ vs = [.ref x, tt, .str kd, gone, more] ∧
  ∀ s H0' H', BSpec n es kd s → Gr H0 Hc H0' H' → (Bnd K s).r (.ref x) H0' → Q .non H'
theorem sc_B_init : FnScope ["self", "timetable", "kind", "gone", "more", "one", "other", "person"] ["self", "timetable", "kind", "gone", "more"] (defScope s_B_init) := ⟨rfl, rfl, rfl, by decide +kernel, rfl, by decide +kernel, by decide +kernel⟩
theorem ok_B_init (T : Tx K mg) : FnOk PP w K mg base CX0 5 (He.fAd K d_B_init.at_) (fdOf K d_B_init.at_) ["self", "timetable", "kind", "gone", "more"] (sp_B_init K) := by
  have G_looks := ok_looks T (w := w) (base := base)
  have G_adds := ok_adds T (w := w) (base := base)
  have G_B_go_through := ok_B_go_through T (w := w) (base := base)
  have G_B_bind := ok_B_bind T (w := w) (base := base)
  have G_B_close := ok_B_close T (w := w) (base := base)
  obtain ⟨ds, hB, bB⟩ := b_B_bind0 T
  refine T.F_B_init.ok sc_B_init (by rintro vs H Q E ⟨H0, Hc, x, dx, n, es, kd, tt, gone, more, ps, MT, _, _, _, _, _, _, _, _, _, _, _, rfl, _⟩; rfl) fun cdv A outer s_ H vs Q E hr ⟨H0, Hc, x, dx, n, es, kd, tt, gone, more, ps, MT, hex, nx, nd, ndx, eH, htab, htt, hgo, hmt, hmo, hps, evs, q⟩ => ?_
  subst evs
  subst eH
  obtain ⟨hn, hle, hL, hev⟩ := htab
  rcases hmt with rfl | ⟨rfl, rfl⟩
  · refine ⟨_, PSs.nox (pss_cons (ps_asg (pv 1) (pg_tupK K 2 rfl (pgs_cons (pg_fld (pv 0)) (pgs_cons (pg_fld (pv 0)) pgs_nil))))
        (pss_cons (ps_fld (pv 0) (pv 2) rfl)
        (pss_cons (ps_fld (pv 0) (pe_callTy (r := rListA K) call_list_of (by rfl) T.f_list (by decide +kernel) (pa_cons (pv 3) pa_nil)) rfl)
        (pss_cons (ps_fld (pv 0) (pe_call G_looks (hr.mono (by decide)) rfl T.g_looks T.F_looks.kp T.b_looks .nil pass0 (pa_cons (pv 1) pa_nil)) rfl)
        (pss_cons (ps_fld (pv 0) (pe_call G_adds (hr.mono (by decide)) rfl T.g_adds T.F_adds.kp T.b_adds .nil pass0 (pa_cons (pv 1) pa_nil)) rfl)
        (pss_cons (ps_fld (pv 0) pe_dnewT rfl)
        (pss_cons (ps_fld (pv 0) pe_dnewT rfl)
        (pss_cons (ps_fld (pv 0) (pe_dc (own := [("person", 7)]) (g := gName 7) rfl sc_B_init.nd (pi_range1 rfl T.f_range (pa_cons (pe_fldK K (pv 0) rfl) pa_nil)) (blkOk_by (N := ["self", "timetable", "kind", "gone", "more", "one", "other", "person"]) (sc := _) (by kernel_rfl)) (fun _ _ _ _ _ => (pg_name (i := 7) sc_B_init.nd rfl (Or.inl rfl))) (fun _ _ _ _ _ => pts_nil) (fun _ _ _ _ _ => (pv 7)) (fun _ _ _ _ _ => (pe_lst pa_nil))) rfl)
        (pss_cons (ps_fld (pv 0) (pe_lst pa_nil) rfl)
        (pss_cons (ps_expr (pe_meth0 (pv 0) T.c_Bonds T.m_B_go_through G_B_go_through (hr.mono (by decide)) T.b_B_go_through .nil pass0))
        (pss_cons (ps_for PassesOwn.never rfl (pi_listK K (pv 4)) (pg_tupK K 2 rfl (pgs_cons (pg_name (i := 5) sc_B_init.nd rfl (Or.inl rfl)) (pgs_cons (pg_name (i := 6) sc_B_init.nd rfl (Or.inl rfl)) pgs_nil))) (pss_one (ps_expr (pe_meth (pv 0) T.c_Bonds T.m_B_bind G_B_bind (hr.mono (by decide)) bB hB pass0 (pa_cons (pv 5) (pa_cons (pv 6) pa_nil))))))
        (pss_one (ps_expr (pe_meth0 (pv 0) T.c_Bonds T.m_B_close G_B_close (hr.mono (by decide)) T.b_B_close .nil pass0)))))))))))))), ?_⟩
  
    have SX : Sx (L2.start ["self", "timetable", "kind", "gone", "more", "one", "other", "person"] [.ref x, tt, .str kd, gone, more]) H0 (upd (upd Hc dx (.own x)) x (.ins (He.ga K "Bonds") dx [])) [some (Is (.ref x)), some (tTab K n es), some (tSt kd), some (Tup K []), some (Lst (ps.map (tPr K))), none, none, none] (Mx K x dx [] []) := by
      refine ⟨start_sl (Rs := [Is (.ref x), tTab K n es, tSt kd, Tup K [], Lst (ps.map (tPr K))]) ⟨rfl, htt, rfl, hgo, hmo, trivial⟩, fun a o q => ?_, upd_same, fresh_back hex nx, fun c hc => nomatch hc⟩
      rw [upd_ne (ne_of_none (hex a o q) nx), upd_ne (ne_of_none (hex a o q) nd)]
      exact hex a o q
    have g0 : Gr H0 Hc H0 (upd (upd Hc dx (.own x)) x (.ins (He.ga K "Bonds") dx [])) := by
      refine ⟨Ex.refl _, fun a o q => ?_, SX.ex, fun _ h _ => h⟩
      rw [upd_ne (ne_of_none q nx), upd_ne (ne_of_none q nd)]
      exact q
    -- self.own_people, self.own_events = timetable
    refine seq_go ?_
    obtain ⟨v1, hv1, rv1⟩ := SX.sl.2 1 _ rfl
    refine ⟨v1, hv1, ?_⟩
    obtain ⟨at', vs', rfl, hs1, hs2⟩ := rv1
    obtain ⟨vn, vE, rfl, hvn, hvE⟩ := hs2.two
    obtain rfl : vn = V.int (n : Int) := hvn
    refine ⟨at', [V.int (n : Int), vE], rfl, ex_t SX.ex hs1, rfl, V.int (n : Int), [vE], rfl, ?_⟩
    refine ⟨V.ref x, rfl, x, He.ga K "Bonds", dx, [], rfl, upd_same, T.c_Bonds, T.n_B_own_people, (by show 0 < 1000; decide), ?_⟩
    refine ⟨vE, [], rfl, V.ref x, rfl, x, He.ga K "Bonds", dx, _, rfl, upd_same, T.c_Bonds, T.n_B_own_events, (by show 1 < 1000; decide), ?_⟩
    refine ⟨rfl, ?_⟩
    obtain ⟨g1, S1⟩ := mx_put nx g0 SX (("own_people", V.int (n : Int)) :: [])
    obtain ⟨g2, S2⟩ := mx_put nx g1 S1 [("own_people", V.int (n : Int)), ("own_events", vE)]
    -- self.own_kind = kind
    refine run_fld nx T.c_Bonds T.n_B_own_kind g2 S2 rfl (by show 2 < 1000; decide) (y_var (R := tSt kd) rfl) fun v K3 H3 x3 g3 S3 r3 => ?_
    obtain rfl : v = V.str kd := r3
    -- self.own_gone = list(gone)
    refine run_fld nx T.c_Bonds T.n_B_own_gone g3 S3 rfl (by show 3 < 1000; decide) (y_listT (y_var (R := Tup K []) rfl)) fun vG K4 H4 x4 g4 S4 rG => ?_
    refine run_fld (RA := Lst ((looksL es).map (tPr K))) nx T.c_Bonds T.n_B_own_looks g4 S4 rfl (by show 4 < 1000; decide) (y_call (ya_cons (y_var rfl) ya_nil) ⟨n, es, by omega, rfl, rfl⟩) fun vL K5 H5 x5 g5 S5 rL => ?_
    refine run_fld (RA := Lst []) nx T.c_Bonds T.n_B_own_adds g5 S5 rfl (by show 5 < 1000; decide) (y_call (ya_cons (y_var rfl) ya_nil) ⟨n, es, by omega, rfl, rfl⟩) fun vD K6 H6 x6 g6 S6 rD => ?_
    refine run_fldC (o := .dT []) nx T.c_Bonds T.n_B_own_alike g6 S6 rfl (by show 6 < 1000; decide) (fun σ H0 H S Q q => fun p hp => q p H0 _ (Gr.own S.ex hp) hp (fresh_back S.ex hp) upd_same) fun aA K7 H7 x7 g7 S7 nA => ?_
    refine run_fldC (o := .dT []) nx T.c_Bonds T.n_B_own_below g7 S7 rfl (by show 7 < 1000; decide) (fun σ H0 H S Q q => fun p hp => q p H0 _ (Gr.own S.ex hp) hp (fresh_back S.ex hp) upd_same) fun aB K8 H8 x8 g8 S8 nB => ?_
    refine run_fldH (n := n) nx T g8 S8 rfl (by show 7 < 8; decide) rfl (by show 8 < 1000; decide) hn fun aH kH K9 H9 x9 g9 S9 nH hk1 hk3 => ?_
    refine run_fldC (o := .lst []) nx T.c_Bonds T.n_B_own_facts g9 S9 rfl (by show 9 < 1000; decide) (fun σ H0 H S Q q => (yl_lst (Γ := _) (μ := _) (Rs := []) ya_nil (by show 0 ≤ 100000; decide)) σ H0 H S Q fun p vs H0' H' g n1 n2 h hA => q p H0' H' g n1 n2 (by rw [h, List.length_eq_zero_iff.mp hA.len])) fun aF KA HA xA gA SA nF => ?_
    -- together
    let ad : BAd := ⟨x, dx, aA, aB, aH, aF, vE, vG, vL, vD, n, kd, Hc⟩
    let hv := kH.map (·.2)
    let s0 : Bst := ⟨n, es, kd, [], [], fun _ => []⟩
    have hBP : BP K KA HA ad hv s0 := by
      obtain ⟨m1, m2, m3⟩ := SA.mu
      have cA := m3 (aA, .dT []) (by simp)
      have cB := m3 (aB, .dT []) (by simp)
      have cH := m3 (aH, .dK kH) (by simp)
      have cF := m3 (aF, .lst []) (by simp)
      refine ⟨⟨[], [], kH, [], ⟨SA.ex, m1, cA.1, cB.1, cH.1, cF.1, m2, cA.2.1, cB.2.1, cH.2.1, cF.2.1, nB.2 (aA, .dT []) (by simp), gA.e, nx, nA.1, nB.1, nH, nF.1⟩, rfl, rfl, hk1, rfl, Nat.zero_le _⟩, ?_⟩
      have e9 : Ex K9 KA := xA
      have e8 : Ex K8 KA := x9.trans e9
      have e7 : Ex K7 KA := x8.trans e8
      have e6 : Ex K6 KA := x7.trans e7
      have e5 : Ex K5 KA := x6.trans e6
      have e4 : Ex K4 KA := x5.trans e5
      have e3 : Ex K3 KA := x4.trans e4
      exact ⟨rfl, rfl, Ty.m _ _ _ _ (x3.trans e3) hvE, Ty.m _ _ _ _ e4 rG, Ty.m _ _ _ _ e5 rL, Ty.m _ _ _ _ e6 rD, hk3.m e9⟩
    have s0ok : s0.Ok := ⟨hle, hL, List.nodup_nil, fun _ h => (nomatch h), List.nodup_nil, fun _ h => (nomatch h), fun _ _ h => (nomatch h)⟩
    -- self.go_through()
    refine seq_go ?_
    obtain ⟨v0, hv0, rv0⟩ := SA.sl.2 0 _ rfl
    obtain rfl : v0 = V.ref x := rv0
    refine ⟨_, hv0, x, dx, ad.fs, rfl, SA.mu.1, rfl, ?_⟩
    refine ⟨KA, ad, hv, s0, hBP, ⟨rfl, rfl, rfl, s0ok, rfl, fun p => Iff.rfl⟩, hn, hev, rfl, fun s1 KB hv1 HB gb hgo1 bp1 => ?_⟩
    -- for one, other in more: self.bind(one, other)
    have SB : Sx _ KB HB [some (Is (.ref x)), none, none, none, some (Lst (ps.map (tPr K))), none, none, none] (Bm K ad hv1 s1) := ⟨(SA.sl.mono gb.1).weak (.keep (.skip (.skip (.skip (.keep (.skip (.skip (.skip .nil)))))))), bp1.e, bp1⟩
    have gB : Gr H0 Hc KB HB := ⟨gA.e0.trans gb.1, bp1.eb, bp1.e, fun a q q' => gb.2 a (gA.f a q q') q'⟩
    refine nx_go ?_
    refine run_seq (e := (H0, ad.Hb)) (fun Γ' μ' => Wk Γ' [some (Is (.ref x)), none, none, none, none, none, none, none] ∧ ∃ s', SA' s1 s' ∧ μ' = Bm K ad hv1 s') (hr_for (fun _ Γ' μ' => Wk Γ' [some (Is (.ref x)), none, none, none, none, none, none, none] ∧ ∃ s', SA' s1 s' ∧ μ' = Bm K ad hv1 s') (yi_list (y_var rfl)) ⟨.keep (.skip (.skip (.skip (.skip (.skip (.skip (.skip .nil))))))), s1, SA'.refl hgo1.ok, rfl⟩ (fun i R1 Γi μi ⟨wk, s', hsa, e⟩ hR => ?_) (fun _ _ h => h)) gB SB fun σ2 KC HC Γ2 μ2 ⟨wk2, s2, hsa2, e2⟩ g2 x2 S2 => ?_
    · subst e
      obtain ⟨⟨a, b⟩, hab, rfl⟩ := map_get hR
      have hpab := hps (a, b) (List.mem_of_getElem? hab)
      have hL1 : s'.L = (looksL es).length := by rw [hsa.L]; exact Lof hgo1.es
      exact ⟨_, _, YG.weak wk (yg_tup2 yg_name yg_name), hr_bindD (k := 5) (l := 6) (i := a) (j := b) T rfl rfl rfl hsa.ok (by rw [hL1]; exact hpab.1) (by rw [hL1]; exact hpab.2) ⟨.keep (.skip (.skip (.skip (.skip (.skip (.skip (.skip .nil))))))), _, hsa.bind (by rw [← hsa.L, hL1]; exact hpab.1) (by rw [← hsa.L, hL1]; exact hpab.2), rfl⟩⟩
    · subst e2
      -- self.close()
      have S3 := S2.weak wk2
      obtain ⟨v0, hv0, rv0⟩ := S3.sl.2 0 _ rfl
      obtain rfl : v0 = V.ref x := rv0
      obtain ⟨kA, kB, kH2, fs2, xx, hh⟩ := S3.mu.ex
      refine ⟨_, hv0, x, dx, ad.fs, rfl, xx.hx, rfl, ?_⟩
      refine ⟨KC, ad, hv1, s2, S3.mu, hsa2.ok, rfl, fun s3 HD b hg3 hst3 bp3 => ?_⟩
      have hsp : BSpec n es kd s3 := bspec_of hgo1 hsa2 hg3 hst3
      refine q s3 (Rest H0 Hc HD) HD hsp (Rest.gr hex bp3.eb) ?_
      exact bp_rest bp3 g2 hex
  
  · refine ⟨_, PSs.nox (pss_cons (ps_asg (pv 1) (pg_tupK K 2 rfl (pgs_cons (pg_fld (pv 0)) (pgs_cons (pg_fld (pv 0)) pgs_nil))))
        (pss_cons (ps_fld (pv 0) (pv 2) rfl)
        (pss_cons (ps_fld (pv 0) (pe_callTy (r := rListA K) call_list_of (by rfl) T.f_list (by decide +kernel) (pa_cons (pv 3) pa_nil)) rfl)
        (pss_cons (ps_fld (pv 0) (pe_call G_looks (hr.mono (by decide)) rfl T.g_looks T.F_looks.kp T.b_looks .nil pass0 (pa_cons (pv 1) pa_nil)) rfl)
        (pss_cons (ps_fld (pv 0) (pe_call G_adds (hr.mono (by decide)) rfl T.g_adds T.F_adds.kp T.b_adds .nil pass0 (pa_cons (pv 1) pa_nil)) rfl)
        (pss_cons (ps_fld (pv 0) pe_dnewT rfl)
        (pss_cons (ps_fld (pv 0) pe_dnewT rfl)
        (pss_cons (ps_fld (pv 0) (pe_dc (own := [("person", 7)]) (g := gName 7) rfl sc_B_init.nd (pi_range1 rfl T.f_range (pa_cons (pe_fldK K (pv 0) rfl) pa_nil)) (blkOk_by (N := ["self", "timetable", "kind", "gone", "more", "one", "other", "person"]) (sc := _) (by kernel_rfl)) (fun _ _ _ _ _ => (pg_name (i := 7) sc_B_init.nd rfl (Or.inl rfl))) (fun _ _ _ _ _ => pts_nil) (fun _ _ _ _ _ => (pv 7)) (fun _ _ _ _ _ => (pe_lst pa_nil))) rfl)
        (pss_cons (ps_fld (pv 0) (pe_lst pa_nil) rfl)
        (pss_cons (ps_expr (pe_meth0 (pv 0) T.c_Bonds T.m_B_go_through G_B_go_through (hr.mono (by decide)) T.b_B_go_through .nil pass0))
        (pss_cons (ps_for PassesOwn.never rfl (pi_tupK K (pv 4)) (pg_tupK K 2 rfl (pgs_cons (pg_name (i := 5) sc_B_init.nd rfl (Or.inl rfl)) (pgs_cons (pg_name (i := 6) sc_B_init.nd rfl (Or.inl rfl)) pgs_nil))) (pss_one (ps_expr (pe_meth (pv 0) T.c_Bonds T.m_B_bind G_B_bind (hr.mono (by decide)) bB hB pass0 (pa_cons (pv 5) (pa_cons (pv 6) pa_nil))))))
        (pss_one (ps_expr (pe_meth0 (pv 0) T.c_Bonds T.m_B_close G_B_close (hr.mono (by decide)) T.b_B_close .nil pass0)))))))))))))), ?_⟩
  
    have SX : Sx (L2.start ["self", "timetable", "kind", "gone", "more", "one", "other", "person"] [.ref x, tt, .str kd, gone, more]) H0 (upd (upd Hc dx (.own x)) x (.ins (He.ga K "Bonds") dx [])) [some (Is (.ref x)), some (tTab K n es), some (tSt kd), some (Tup K []), some (Tup K []), none, none, none] (Mx K x dx [] []) := by
      refine ⟨start_sl (Rs := [Is (.ref x), tTab K n es, tSt kd, Tup K [], Tup K []]) ⟨rfl, htt, rfl, hgo, hmo, trivial⟩, fun a o q => ?_, upd_same, fresh_back hex nx, fun c hc => nomatch hc⟩
      rw [upd_ne (ne_of_none (hex a o q) nx), upd_ne (ne_of_none (hex a o q) nd)]
      exact hex a o q
    have g0 : Gr H0 Hc H0 (upd (upd Hc dx (.own x)) x (.ins (He.ga K "Bonds") dx [])) := by
      refine ⟨Ex.refl _, fun a o q => ?_, SX.ex, fun _ h _ => h⟩
      rw [upd_ne (ne_of_none q nx), upd_ne (ne_of_none q nd)]
      exact q
    -- self.own_people, self.own_events = timetable
    refine seq_go ?_
    obtain ⟨v1, hv1, rv1⟩ := SX.sl.2 1 _ rfl
    refine ⟨v1, hv1, ?_⟩
    obtain ⟨at', vs', rfl, hs1, hs2⟩ := rv1
    obtain ⟨vn, vE, rfl, hvn, hvE⟩ := hs2.two
    obtain rfl : vn = V.int (n : Int) := hvn
    refine ⟨at', [V.int (n : Int), vE], rfl, ex_t SX.ex hs1, rfl, V.int (n : Int), [vE], rfl, ?_⟩
    refine ⟨V.ref x, rfl, x, He.ga K "Bonds", dx, [], rfl, upd_same, T.c_Bonds, T.n_B_own_people, (by show 0 < 1000; decide), ?_⟩
    refine ⟨vE, [], rfl, V.ref x, rfl, x, He.ga K "Bonds", dx, _, rfl, upd_same, T.c_Bonds, T.n_B_own_events, (by show 1 < 1000; decide), ?_⟩
    refine ⟨rfl, ?_⟩
    obtain ⟨g1, S1⟩ := mx_put nx g0 SX (("own_people", V.int (n : Int)) :: [])
    obtain ⟨g2, S2⟩ := mx_put nx g1 S1 [("own_people", V.int (n : Int)), ("own_events", vE)]
    -- self.own_kind = kind
    refine run_fld nx T.c_Bonds T.n_B_own_kind g2 S2 rfl (by show 2 < 1000; decide) (y_var (R := tSt kd) rfl) fun v K3 H3 x3 g3 S3 r3 => ?_
    obtain rfl : v = V.str kd := r3
    -- self.own_gone = list(gone)
    refine run_fld nx T.c_Bonds T.n_B_own_gone g3 S3 rfl (by show 3 < 1000; decide) (y_listT (y_var (R := Tup K []) rfl)) fun vG K4 H4 x4 g4 S4 rG => ?_
    refine run_fld (RA := Lst ((looksL es).map (tPr K))) nx T.c_Bonds T.n_B_own_looks g4 S4 rfl (by show 4 < 1000; decide) (y_call (ya_cons (y_var rfl) ya_nil) ⟨n, es, by omega, rfl, rfl⟩) fun vL K5 H5 x5 g5 S5 rL => ?_
    refine run_fld (RA := Lst []) nx T.c_Bonds T.n_B_own_adds g5 S5 rfl (by show 5 < 1000; decide) (y_call (ya_cons (y_var rfl) ya_nil) ⟨n, es, by omega, rfl, rfl⟩) fun vD K6 H6 x6 g6 S6 rD => ?_
    refine run_fldC (o := .dT []) nx T.c_Bonds T.n_B_own_alike g6 S6 rfl (by show 6 < 1000; decide) (fun σ H0 H S Q q => fun p hp => q p H0 _ (Gr.own S.ex hp) hp (fresh_back S.ex hp) upd_same) fun aA K7 H7 x7 g7 S7 nA => ?_
    refine run_fldC (o := .dT []) nx T.c_Bonds T.n_B_own_below g7 S7 rfl (by show 7 < 1000; decide) (fun σ H0 H S Q q => fun p hp => q p H0 _ (Gr.own S.ex hp) hp (fresh_back S.ex hp) upd_same) fun aB K8 H8 x8 g8 S8 nB => ?_
    refine run_fldH (n := n) nx T g8 S8 rfl (by show 7 < 8; decide) rfl (by show 8 < 1000; decide) hn fun aH kH K9 H9 x9 g9 S9 nH hk1 hk3 => ?_
    refine run_fldC (o := .lst []) nx T.c_Bonds T.n_B_own_facts g9 S9 rfl (by show 9 < 1000; decide) (fun σ H0 H S Q q => (yl_lst (Γ := _) (μ := _) (Rs := []) ya_nil (by show 0 ≤ 100000; decide)) σ H0 H S Q fun p vs H0' H' g n1 n2 h hA => q p H0' H' g n1 n2 (by rw [h, List.length_eq_zero_iff.mp hA.len])) fun aF KA HA xA gA SA nF => ?_
    -- together
    let ad : BAd := ⟨x, dx, aA, aB, aH, aF, vE, vG, vL, vD, n, kd, Hc⟩
    let hv := kH.map (·.2)
    let s0 : Bst := ⟨n, es, kd, [], [], fun _ => []⟩
    have hBP : BP K KA HA ad hv s0 := by
      obtain ⟨m1, m2, m3⟩ := SA.mu
      have cA := m3 (aA, .dT []) (by simp)
      have cB := m3 (aB, .dT []) (by simp)
      have cH := m3 (aH, .dK kH) (by simp)
      have cF := m3 (aF, .lst []) (by simp)
      refine ⟨⟨[], [], kH, [], ⟨SA.ex, m1, cA.1, cB.1, cH.1, cF.1, m2, cA.2.1, cB.2.1, cH.2.1, cF.2.1, nB.2 (aA, .dT []) (by simp), gA.e, nx, nA.1, nB.1, nH, nF.1⟩, rfl, rfl, hk1, rfl, Nat.zero_le _⟩, ?_⟩
      have e9 : Ex K9 KA := xA
      have e8 : Ex K8 KA := x9.trans e9
      have e7 : Ex K7 KA := x8.trans e8
      have e6 : Ex K6 KA := x7.trans e7
      have e5 : Ex K5 KA := x6.trans e6
      have e4 : Ex K4 KA := x5.trans e5
      have e3 : Ex K3 KA := x4.trans e4
      exact ⟨rfl, rfl, Ty.m _ _ _ _ (x3.trans e3) hvE, Ty.m _ _ _ _ e4 rG, Ty.m _ _ _ _ e5 rL, Ty.m _ _ _ _ e6 rD, hk3.m e9⟩
    have s0ok : s0.Ok := ⟨hle, hL, List.nodup_nil, fun _ h => (nomatch h), List.nodup_nil, fun _ h => (nomatch h), fun _ _ h => (nomatch h)⟩
    -- self.go_through()
    refine seq_go ?_
    obtain ⟨v0, hv0, rv0⟩ := SA.sl.2 0 _ rfl
    obtain rfl : v0 = V.ref x := rv0
    refine ⟨_, hv0, x, dx, ad.fs, rfl, SA.mu.1, rfl, ?_⟩
    refine ⟨KA, ad, hv, s0, hBP, ⟨rfl, rfl, rfl, s0ok, rfl, fun p => Iff.rfl⟩, hn, hev, rfl, fun s1 KB hv1 HB gb hgo1 bp1 => ?_⟩
    -- for one, other in more: self.bind(one, other)
    have SB : Sx _ KB HB [some (Is (.ref x)), none, none, none, some (Tup K []), none, none, none] (Bm K ad hv1 s1) := ⟨(SA.sl.mono gb.1).weak (.keep (.skip (.skip (.skip (.keep (.skip (.skip (.skip .nil)))))))), bp1.e, bp1⟩
    have gB : Gr H0 Hc KB HB := ⟨gA.e0.trans gb.1, bp1.eb, bp1.e, fun a q q' => gb.2 a (gA.f a q q') q'⟩
    refine nx_go ?_
    refine run_seq (e := (H0, ad.Hb)) (fun Γ' μ' => Wk Γ' [some (Is (.ref x)), none, none, none, none, none, none, none] ∧ ∃ s', SA' s1 s' ∧ μ' = Bm K ad hv1 s') (hr_for (fun _ Γ' μ' => Wk Γ' [some (Is (.ref x)), none, none, none, none, none, none, none] ∧ ∃ s', SA' s1 s' ∧ μ' = Bm K ad hv1 s') (yi_tup (Rs := ([] : List (Nat × Nat)).map (tPr K)) (y_var rfl)) ⟨.keep (.skip (.skip (.skip (.skip (.skip (.skip (.skip .nil))))))), s1, SA'.refl hgo1.ok, rfl⟩ (fun i R1 Γi μi ⟨wk, s', hsa, e⟩ hR => ?_) (fun _ _ h => h)) gB SB fun σ2 KC HC Γ2 μ2 ⟨wk2, s2, hsa2, e2⟩ g2 x2 S2 => ?_
    · subst e
      obtain ⟨⟨a, b⟩, hab, rfl⟩ := map_get hR
      have hpab := hps (a, b) (List.mem_of_getElem? hab)
      have hL1 : s'.L = (looksL es).length := by rw [hsa.L]; exact Lof hgo1.es
      exact ⟨_, _, YG.weak wk (yg_tup2 yg_name yg_name), hr_bindD (k := 5) (l := 6) (i := a) (j := b) T rfl rfl rfl hsa.ok (by rw [hL1]; exact hpab.1) (by rw [hL1]; exact hpab.2) ⟨.keep (.skip (.skip (.skip (.skip (.skip (.skip (.skip .nil))))))), _, hsa.bind (by rw [← hsa.L, hL1]; exact hpab.1) (by rw [← hsa.L, hL1]; exact hpab.2), rfl⟩⟩
    · subst e2
      -- self.close()
      have S3 := S2.weak wk2
      obtain ⟨v0, hv0, rv0⟩ := S3.sl.2 0 _ rfl
      obtain rfl : v0 = V.ref x := rv0
      obtain ⟨kA, kB, kH2, fs2, xx, hh⟩ := S3.mu.ex
      refine ⟨_, hv0, x, dx, ad.fs, rfl, xx.hx, rfl, ?_⟩
      refine ⟨KC, ad, hv1, s2, S3.mu, hsa2.ok, rfl, fun s3 HD b hg3 hst3 bp3 => ?_⟩
      have hsp : BSpec n es kd s3 := bspec_of hgo1 hsa2 hg3 hst3
      refine q s3 (Rest H0 Hc HD) HD hsp (Rest.gr hex bp3.eb) ?_
      exact bp_rest bp3 g2 hex
  
end
end HF
set_option maxHeartbeats 400000
namespace HF
open PySem PyProof.Rows L2 Evl
section
variable {mg : Str → Option Value} {K : PySem.W.Frag} {Γ Γ' : Ctx} {μ : Mt} {R RA T : Ty} {Rs : List Ty} {ta td te to tv : TE} {tr : TA} {u : TS} {N : Ctx → Mt → Prop} {e : Hp × Hp} {k l i j n : Nat} {f : Str} {x C : Addr} {Fs : List (Str × Ty)} {es : List Evt} {kd : Str} {ps : List (Nat × Nat)} {MT : Ty}
/-- Bonds(timetable, kind) -/
theorem y_bonds0 (T0 : Tx K mg) (htab : TabOk n es) (hA : YA tr Γ μ [tTab K n es, tSt kd]) : Y (tMake (He.ga K "Bonds") (sp_B_init K) (d_B_init.dvs K) E0 tr) Γ μ (ExT (BSpec n es kd) (Bnd K)) := fun σ H0 H S Q q =>
  hA σ H0 H S _ fun vs K1 H1 g1 r1 => by
    obtain ⟨tt, kdv, rfl, htt, hkd⟩ := r1.two
    obtain rfl : kdv = V.str kd := hkd
    intro x dx nx nd ndx
    refine ⟨K1, H1, x, dx, n, es, kd, tt, _, _, [], Tup K [], g1.p, nx, nd, ndx, rfl, htab, htt, ?_, .inr ⟨rfl, rfl⟩, ?_, fun _ h => (nomatch h), rfl, fun s K2 H2 hs g2 r2 => ⟨rfl, q _ K2 H2 (g1.trans g2) ⟨s, hs, r2⟩⟩⟩
    · exact ⟨_, [], rfl, T0.tup0 (q := ("Bonds", "__init__", 0)) (by simp) K1, trivial⟩
    · exact ⟨_, [], rfl, T0.tup0 (q := ("Bonds", "__init__", 1)) (by simp) K1, trivial⟩
/-- Bonds(timetable, kind, (), alike) -/
theorem y_bonds4 (htab : TabOk n es) (hmt : MoreT K ps MT) (hps : ∀ p ∈ ps, p.1 < (looksL es).length ∧ p.2 < (looksL es).length) (hA : YA tr Γ μ [tTab K n es, tSt kd, Tup K [], MT]) : Y (tMake (He.ga K "Bonds") (sp_B_init K) [] E0 tr) Γ μ (ExT (BSpec n es kd) (Bnd K)) := fun σ H0 H S Q q =>
  hA σ H0 H S _ fun vs K1 H1 g1 r1 => by
    obtain ⟨tt, vs1, rfl⟩ : ∃ tt vs1, vs = tt :: vs1 := by
      cases vs with
      | nil => exact r1.elim
      | cons a b => exact ⟨a, b, rfl⟩
    obtain ⟨htt, r2⟩ := r1
    obtain ⟨kdv, go, mo, rfl, hkd, hgo, hmo⟩ := AllR.three r2
    obtain rfl : kdv = V.str kd := hkd
    intro x dx nx nd ndx
    exact ⟨K1, H1, x, dx, n, es, kd, tt, go, mo, ps, MT, g1.p, nx, nd, ndx, rfl, htab, htt, hgo, hmt, hmo, hps, rfl, fun s K2 H2 hs g2 r2 => ⟨rfl, q _ K2 H2 (g1.trans g2) ⟨s, hs, r2⟩⟩⟩
/-! ### an instance that is being made -/
def Mi (K : PySem.W.Frag) (C x : Addr) (Fs : List (Str × Ty)) : Mt := ⟨fun K0 H => K0 x = none ∧ ∃ dx fs, H x = some (.ins C dx fs) ∧ fs.map (·.1) = Fs.map (·.1) ∧ AllR (fs.map (·.2)) (Fs.map (·.2)) K0,
  by
    rintro H0 H H0' H' g ⟨h1, dx, fs, h2, h3, h4⟩
    exact ⟨g.f _ h1 (ne_none h2), dx, fs, g.e _ _ h2, h3, AllR.m g.e0 h4⟩⟩
theorem putF_new {v : V} : ∀ {fs : List (Str × V)}, f ∉ fs.map (·.1) → putF f v fs = fs ++ [(f, v)]
  | [], _ => rfl
  | (g, y) :: fs, h => by
    have h1 : g ≠ f := fun z => h (by rw [z]; exact List.mem_cons_self)
    show (if g = f then (g, v) :: fs else (g, y) :: putF f v fs) = _
    rw [if_neg h1, putF_new (fun z => h (List.mem_cons_of_mem _ z))]
    rfl
/-- self.f = .. -/
theorem hr_fldI (hx : e.2 x = none) (hc : Cls K C) (hn : NoAttr K C f) (h0 : Γ[0]? = some (some (Is (.ref x)))) (hf : (Fs.map (·.1)).contains f = false) (hl : Fs.length < 1000) (h : Y tv Γ (Mi K C x Fs) RA) (n : Hr e u Γ (Mi K C x (Fs ++ [(f, RA)])) N R) :
    Hr e (tSeq (sFld K (tVar 0) tv f) u) Γ (Mi K C x Fs) N R := fun σ H0 H D g S nx rt => by
  refine h σ H0 H S _ fun v K1 H1 g1 r1 => ?_
  have S1 := S.gr g1
  obtain ⟨w, hw, rw'⟩ := S1.sl.2 0 _ h0
  obtain rfl : w = V.ref x := rw'
  obtain ⟨m1, dx, fs, m2, m3, m4⟩ := S1.mu
  have hlen : fs.length = Fs.length := by simpa using congrArg List.length m3
  refine ⟨_, hw, x, C, dx, fs, rfl, m2, hc, hn, by omega, ?_⟩
  have e1 : putF f v fs = fs ++ [(f, v)] := putF_new (by rw [m3]; intro z; rw [List.contains_iff_mem.mpr z] at hf; cases hf)
  rw [e1]
  refine n.go ((g.trans g1).put hx m1) g1.e0 ⟨S1.sl, ex_upd S1.ex m1, m1, dx, fs ++ [(f, v)], upd_same, ?_, ?_⟩ nx rt
  · rw [List.map_append, List.map_append, m3]; rfl
  · rw [List.map_append, List.map_append]; exact m4.app ⟨r1, trivial⟩
theorem hr_fldI1 (hx : e.2 x = none) (hc : Cls K C) (hn : NoAttr K C f) (h0 : Γ[0]? = some (some (Is (.ref x)))) (hf : (Fs.map (·.1)).contains f = false) (hl : Fs.length < 1000) (h : Y tv Γ (Mi K C x Fs) RA) (n : N Γ (Mi K C x (Fs ++ [(f, RA)]))) :
    Hr e (sFld K (tVar 0) tv f) Γ (Mi K C x Fs) N R := fun σ H0 H D g S nx rt => hr_fldI (u := tNext) hx hc hn h0 hf hl h (hr_nil n) σ H0 H D g S nx rt
/-- the value of a field is known by a word alone: take it out -/
theorem hr_exF {α : Type} {P : α → Prop} {r : α → Ty} (n : ∀ a, P a → Hr e u Γ (Mi K C x (Fs ++ [(f, r a)])) N R) : Hr e u Γ (Mi K C x (Fs ++ [(f, ExT P r)])) N R := fun σ H0 H D g S nx rt => by
  obtain ⟨m1, dx, fs, m2, m3, m4⟩ := S.mu
  have hlast : ∃ fs0 q, fs = fs0 ++ [q] := by
    have : fs ≠ [] := by rintro rfl; simp at m3
    exact ⟨fs.dropLast, fs.getLast this, (List.dropLast_concat_getLast this).symm⟩
  obtain ⟨fs0, q, rfl⟩ := hlast
  have hlen : (fs0.map (·.2)).length = (Fs.map (·.2)).length := by
    have := congrArg List.length m3
    simpa using this
  rw [List.map_append, List.map_append] at m4
  have h1 := AllR.take (Fs.map (·.2)).length m4
  have h2 := AllR.drop (Fs.map (·.2)).length m4
  rw [List.take_left' rfl, ← hlen, List.take_left' rfl] at h1
  rw [List.drop_left' rfl, ← hlen, List.drop_left' rfl] at h2
  obtain ⟨⟨a, pa, ra⟩, _⟩ : (ExT P r).r q.2 H0 ∧ True := h2
  exact n a pa σ H0 H D g ⟨S.sl, S.ex, m1, dx, _, m2, by rw [m3, List.map_append, List.map_append]; rfl, by rw [List.map_append, List.map_append]; exact h1.app ⟨ra, trivial⟩⟩ nx rt
/-- what stays when an instance's cell is left out -/
def OffI (R : Ty) : Prop := ∀ v (H : Hp) x C dx fs, H x = some (.ins C dx fs) → R.r v H → R.r v (fun a => if a = x then none else H a)
theorem OffI.is {u : V} : OffI (Is u) := fun _ _ _ _ _ _ _ h => h
theorem OffI.nats {ns : List Nat} : OffI (tNs ns) := fun v H x C dx fs hx ⟨a, vs, e, h1, h2⟩ => by
  refine ⟨a, vs, e, ?_, ?_⟩
  · show (if a = x then none else H a) = _
    rw [if_neg (fun z => by rw [z, hx] at h1; cases h1)]
    exact h1
  · rw [h2.nats]; exact AllR.ofNats
theorem OffI.ints {ns : List Int} : OffI (Lst (ns.map tI)) := fun v H x C dx fs hx ⟨a, vs, e, h1, h2⟩ => by
  refine ⟨a, vs, e, ?_, ?_⟩
  · show (if a = x then none else H a) = _
    rw [if_neg (fun z => by rw [z, hx] at h1; cases h1)]
    exact h1
  · rw [allR_ints h2]; exact allR_ofInts
/-- reading through the instance that is being made -/
theorem y_self (hR : OffI R) (h0 : Γ[0]? = some (some (Is (.ref x)))) (h : Y te (Γ.set 0 (some (Ins C Fs))) M0 R) : Y te Γ (Mi K C x Fs) R := fun σ H0 H S Q q => by
  obtain ⟨m1, dx, fs, m2, m3, m4⟩ := S.mu
  obtain ⟨w, hw, rw'⟩ := S.sl.2 0 _ h0
  obtain rfl : w = V.ref x := rw'
  have x1 : Ex H0 (upd H0 x (.ins C dx fs)) := Ex.new m1
  have x2 : Ex (upd H0 x (.ins C dx fs)) H := fun a o q => by
    by_cases z : a = x
    · subst z; rw [upd_same] at q; cases q; exact m2
    · rw [upd_ne z] at q; exact S.ex a o q
  refine h σ (upd H0 x (.ins C dx fs)) H ⟨(S.sl.mono x1).reset hw ⟨x, dx, fs, rfl, upd_same, m3, m4.m x1⟩, x2, trivial⟩ Q fun v K1 H1 g r => ?_
  have hx1 : K1 x = some (.ins C dx fs) := g.e0 _ _ upd_same
  refine q v (fun a => if a = x then none else K1 a) H1 ⟨fun a o ha => ?_, g.e, fun a o ha => ?_, fun a ha hb => ?_⟩ (hR v K1 x C dx fs hx1 r)
  · show (if a = x then none else K1 a) = _
    have : a ≠ x := fun z => by rw [z, m1] at ha; cases ha
    rw [if_neg this]
    exact g.e0 a o (by rw [upd_ne this]; exact ha)
  · have ha' : (if a = x then none else K1 a) = some o := ha
    by_cases z : a = x
    · rw [if_pos z] at ha'; cases ha'
    · rw [if_neg z] at ha'; exact g.p a o ha'
  · show (if a = x then none else K1 a) = none
    by_cases z : a = x
    · rw [if_pos z]
    · rw [if_neg z]
      exact g.f a (by rw [upd_ne z]; exact ha) hb
theorem y_dnewT : Y tDNewT Γ μ (DT []) := fun σ H0 H S Q q => fun p hp => q _ _ _ (Gr.new S.ex hp) ⟨p, [], rfl, upd_same, rfl⟩
/-- made: it is kept -/
theorem mi_done {H0 Hc K0 H : Hp} (g : Gr H0 Hc K0 H) (ex : Ex K0 H) (hx : Hc x = none) (m : (Mi K C x Fs).p K0 H) : ∃ K1, Gr H0 Hc K1 H ∧ (Ins C Fs).r (.ref x) K1 := by
  obtain ⟨m1, dx, fs, m2, m3, m4⟩ := m
  refine ⟨upd K0 x (.ins C dx fs), ⟨g.e0.trans (Ex.new m1), g.e, fun a o q => ?_, fun a h h' => ?_⟩, x, dx, fs, rfl, upd_same, m3, AllR.m (Ex.new m1) m4⟩
  · by_cases z : a = x
    · subst z; rw [upd_same] at q; cases q; exact m2
    · rw [upd_ne z] at q; exact ex a o q
  · rw [upd_ne (fun z => h' (by rw [z]; exact hx))]
    exact g.f a h h'
theorem offI_const {α : Type} (xs : List α) (i : Int) : OffI (Lst (xs.map fun _ => tI i)) := by
  have e : (xs.map fun _ => tI i) = (xs.map fun _ => i).map tI := by rw [List.map_map]; rfl
  rw [e]
  exact OffI.ints
theorem Lof' {s : Bst} (h : s.es = es) : s.L = (looksL es).length := by unfold Bst.L; rw [h]
end
end HF
set_option maxHeartbeats 400000
namespace HF
open PySem PyProof.Rows L2 Evl
section
variable {w : World} {K : PySem.W.Frag} {mg : Str → Option Value} {base : Heap}
theorem b_B_init0 (T : Tx K mg) : ∃ ds, Vals (d_B_init.dvs K) ds ∧ Binds K (fdOf K d_B_init.at_) ["self", "timetable", "kind", "gone", "more"] ds :=
  FunD.binds1 (ps := ["self", "timetable", "kind", "gone", "more"]) T.F_B_init 3 0 (by intro h; cases h) rfl fun _ _ _ _ _ _ _ us its h1 h2 => match us, its, h1, h2 with | [_, _, _], [_, _], _, _ => ⟨_, rfl, rfl⟩
theorem b_B_init4 (T : Tx K mg) : Binds K (fdOf K d_B_init.at_) ["self", "timetable", "kind", "gone", "more"] [] := by
  obtain ⟨ds, h1, h2⟩ := FunD.binds1 (ps := ["self", "timetable", "kind", "gone", "more"]) T.F_B_init 5 2 (by intro h; cases h) rfl fun _ _ _ _ _ _ _ us its h1 h2 => match us, its, h1, h2 with | [_, _, _, _, _], [_, _], _, _ => ⟨_, rfl, rfl⟩
  cases h1
  exact h2
theorem mi_start {H0 Hc : Hp} {x dx C : Addr} (hex : Ex H0 Hc) (nx : Hc x = none) (nd : Hc dx = none) : Gr H0 Hc H0 (upd (upd Hc dx (.own x)) x (.ins C dx [])) ∧ (Mi K C x []).p H0 (upd (upd Hc dx (.own x)) x (.ins C dx [])) := by
  have e1 : Ex Hc (upd (upd Hc dx (.own x)) x (.ins C dx [])) := fun a o q => by
    rw [upd_ne (ne_of_none q nx), upd_ne (ne_of_none q nd)]
    exact q
  exact ⟨⟨Ex.refl _, e1, hex.trans e1, fun _ h _ => h⟩, fresh_back hex nx, dx, [], upd_same, rfl, trivial⟩
theorem run_mi {H0 Hc H : Hp} {Γ : Ctx} {μ : Mt} {σ : L2.St} {t : TS} {D : Ends} (N : Ctx → Mt → Prop) (g : Gr H0 Hc H0 H) (m : μ.p H0 H) (S : Sl σ H0 Γ) (h : Hr (H0, Hc) t Γ μ N tNever)
    (q : ∀ σ' H0' H' Γ' μ', N Γ' μ' → Gr H0 Hc H0' H' → Ex H0' H' → Sl σ' H0' Γ' → μ'.p H0' H' → D.nx σ' H') : t D σ H :=
  h σ H0 _ D g ⟨S, g.p, m⟩ (fun σ' H0' H' Γ' μ' n g' _ s => q σ' H0' H' Γ' μ' n g' s.ex s.sl s.mu) (fun _ _ _ _ r => r.elim)
theorem run_init {H0 Hc : Hp} {x dx C : Addr} {Γ : Ctx} {σ : L2.St} {t : TS} {D : Ends} (N : Ctx → Mt → Prop) (hex : Ex H0 Hc) (nx : Hc x = none) (nd : Hc dx = none) (S : Sl σ H0 Γ) (h : Hr (H0, Hc) t Γ (Mi K C x []) N tNever)
    (q : ∀ σ' H0' H' Γ' μ', N Γ' μ' → Gr H0 Hc H0' H' → Ex H0' H' → μ'.p H0' H' → D.nx σ' H') : t D σ (upd (upd Hc dx (.own x)) x (.ins C dx [])) := by
  obtain ⟨g, m⟩ := mi_start (K := K) (C := C) hex nx nd
  exact h σ H0 _ D g ⟨S, g.p, m⟩ (fun σ' H0' H' Γ' μ' n g' _ s => q σ' H0' H' Γ' μ' n g' s.ex s.mu) (fun _ _ _ _ r => r.elim)
def sp_A_init (K : PySem.W.Frag) : Sp := fun vs H Q _ => ∃ H0 Hc x dx n es kd tt m, Ex H0 Hc ∧ Hc x = none ∧ Hc dx = none ∧ dx ≠ x ∧ H = upd (upd Hc dx (.own x)) x (.ins (He.ga K "Audience") dx []) ∧ TabOk n es ∧ (tTab K n es).r tt H0 ∧ vs = [.ref x, tt, .str kd, .int (m : Nat)] ∧
  ∀ s H0' H', BSpec n es kd s → Gr H0 Hc H0' H' → (Aud K ⟨s, m⟩).r (.ref x) H0' → Q .non H'
theorem sc_A_init : FnScope ["self", "timetable", "kind", "mark", "number"] ["self", "timetable", "kind", "mark"] (defScope s_A_init) := ⟨rfl, rfl, rfl, by decide +kernel, rfl, by decide +kernel, by decide +kernel⟩
theorem ok_A_init (T : Tx K mg) : FnOk PP w K mg base CX0 7 (He.fAd K d_A_init.at_) (fdOf K d_A_init.at_) ["self", "timetable", "kind", "mark"] (sp_A_init K) := by
  have G_B_init := ok_B_init T (w := w) (base := base)
  have G_A_numbers := ok_A_numbers T (w := w) (base := base)
  have G_B_newest := ok_B_newest T (w := w) (base := base)
  have G_B_before := ok_B_before T (w := w) (base := base)
  obtain ⟨ds, hI, bI⟩ := b_B_init0 T
  refine T.F_A_init.ok sc_A_init (by rintro vs H Q E ⟨H0, Hc, x, dx, n, es, kd, tt, m, _, _, _, _, _, _, _, rfl, _⟩; rfl) fun cdv A outer s_ H vs Q E hr ⟨H0, Hc, x, dx, n, es, kd, tt, m, hex, nx, nd, ndx, eH, htab, htt, evs, q⟩ => ?_
  subst evs
  subst eH
  refine ⟨_, PSs.nox (pss_cons (ps_fld (pv 0) (pe_make T.k_Bonds G_B_init (hr.mono (by decide)) rfl T.g_Bonds bI hI pass0 (pa_cons (pv 1) (pa_cons (pv 2) pa_nil))) rfl)
      (pss_cons (ps_fld (pv 0) (pe_ix (r := rIxT K) ix_tup (pv 1) pe_int (fun _ _ => rfl)) rfl)
      (pss_cons (ps_fld (pv 0) (pv 3) rfl)
      (pss_cons (ps_fld (pv 0) (pe_lc (own := [("number", 4)]) rfl sc_A_init.nd (pi_listK K (pe_meth0 (pv 0) T.c_Audience T.m_A_numbers G_A_numbers (hr.mono (by decide)) T.b_A_numbers .nil pass0)) (blkOk_by (N := ["self", "timetable", "kind", "mark", "number"]) (sc := _) (by kernel_rfl)) (fun _ _ _ _ _ => (pg_name (i := 4) sc_A_init.nd rfl (Or.inl rfl))) (fun _ _ _ _ _ => pts_nil) (fun _ _ _ _ _ => (pe_meth (pe_fldK K (pv 0) rfl) T.c_Bonds T.m_B_newest G_B_newest (hr.mono (by decide)) T.b_B_newest .nil pass0 (pa_cons (pv 4) pa_nil)))) rfl)
      (pss_one (ps_fld (pv 0) (pe_lc (own := [("number", 4)]) rfl sc_A_init.nd (pi_listK K (pe_meth0 (pv 0) T.c_Audience T.m_A_numbers G_A_numbers (hr.mono (by decide)) T.b_A_numbers .nil pass0)) (blkOk_by (N := ["self", "timetable", "kind", "mark", "number"]) (sc := _) (by kernel_rfl)) (fun _ _ _ _ _ => (pg_name (i := 4) sc_A_init.nd rfl (Or.inl rfl))) (fun _ _ _ _ _ => pts_nil) (fun _ _ _ _ _ => (pe_meth (pe_fldK K (pv 0) rfl) T.c_Bonds T.m_B_before G_B_before (hr.mono (by decide)) T.b_B_before .nil pass0 (pa_cons (pv 4) pa_nil)))) rfl)))))), ?_⟩
  have hx : ((H0, Hc) : Hp × Hp).2 x = none := nx
  have h64 := htab.len
  refine run_init (K := K) (C := He.ga K "Audience") (Γ := [some (Is (.ref x)), some (tTab K n es), some (tSt kd), some (tN m), none]) (fun _ μ' => ∃ s, BSpec n es kd s ∧ μ' = Mi K (He.ga K "Audience") x (aFs K ⟨s, m⟩)) hex nx nd (start_sl (Rs := [Is (.ref x), tTab K n es, tSt kd, tN m]) ⟨rfl, htt, rfl, rfl, trivial⟩) ?_ (fun σ' H0' H' Γ' μ' ⟨s, hs, e⟩ g ex m' => by
    subst e
    obtain ⟨K1, g1, r1⟩ := mi_done g ex nx m'
    exact q s K1 H' hs g1 r1)
  refine hr_fldI (RA := ExT (BSpec n es kd) (Bnd K)) hx T.c_Audience T.n_A_own_bonds rfl (by kernel_rfl) (by show 0 < 1000; decide) (y_bonds0 T htab (ya_cons (y_var rfl) (ya_cons (y_var rfl) ya_nil))) ?_
  refine hr_exF (Fs := []) (f := "own_bonds") fun s hs => ?_
  have hL : s.L = (looksL es).length := Lof' hs.hes
  have hL8 := htab.L
  have hes : s.es.length ≤ 1000 := by rw [hs.hes]; omega
  refine hr_fldI (RA := tN s.n) hx T.c_Audience T.n_A_own_people rfl (by kernel_rfl) (by show 1 < 1000; decide) (y_ixT (n := 0) (y_var (R := tTab K n es) rfl) y_c rfl (by rw [hs.hn]; rfl)) ?_
  refine hr_fldI (RA := tN m) hx T.c_Audience T.n_A_own_mark rfl (by kernel_rfl) (by show 2 < 1000; decide) (y_var rfl) ?_
  refine hr_fldI (RA := Lst ((List.range s.L).map fun _ => tI (-1))) hx T.c_Audience T.n_A_own_newest rfl (by kernel_rfl) (by show 3 < 1000; decide) (y_self (offI_const _ _) rfl (y_lcA (xs := List.range s.L) (r := tN) (yi_list (y_meth (y_var rfl) rfl ya_nil ⟨_, s, hes, rfl, rfl, rfl⟩)) (by decide) (by rw [List.length_range]; omega) (fun y hy => yg_name) (fun y hy => y_meth (y_fld (R := Bnd K s) (y_var rfl) T.c_Audience T.n_A_own_bonds rfl) rfl (ya_cons (y_var rfl) ya_nil) ⟨s, y, hes, rfl, rfl⟩))) ?_
  exact hr_fldI1 (RA := Lst ((List.range s.L).map fun _ => tN 0)) hx T.c_Audience T.n_A_own_before rfl (by kernel_rfl) (by show 4 < 1000; decide) (y_self (offI_const _ _) rfl (y_lcA (xs := List.range s.L) (r := tN) (yi_list (y_meth (y_var rfl) rfl ya_nil ⟨_, s, hes, rfl, rfl, rfl⟩)) (by decide) (by rw [List.length_range]; omega) (fun y hy => yg_name) (fun y hy => y_meth (y_fld (R := Bnd K s) (y_var rfl) T.c_Audience T.n_A_own_bonds rfl) rfl (ya_cons (y_var rfl) ya_nil) ⟨s, y, rfl, rfl⟩))) ⟨s, hs, rfl⟩
/-- Peeling.__init__, within Keeping's -/
abbrev pFs (K : PySem.W.Frag) (s : Bst) : List (Str × Ty) := [("own_looks", Lst ((looksL s.es).map (tPr K))), ("own_adds", Lst []), ("own_bonds", Bnd K s), ("own_unlike", DT [])]
def sp_P_init (K : PySem.W.Frag) : Sp := fun vs H Q _ => ∃ H0 Hc x n es kd tt pairs al ps MT, Gr H0 Hc H0 H ∧ (Mi K (He.ga K "Keeping") x []).p H0 H ∧ Hc x = none ∧ TabOk n es ∧ (tTab K n es).r tt H0 ∧ (Tup K []).r pairs H0 ∧ MoreT K ps MT ∧ MT.r al H0 ∧ (∀ p ∈ ps, p.1 < (looksL es).length ∧ p.2 < (looksL es).length) ∧
  vs = [.ref x, tt, .str kd, pairs, al] ∧ ∀ s H0' H', BSpec n es kd s → Gr H0 Hc H0' H' → (Mi K (He.ga K "Keeping") x (pFs K s)).p H0' H' → Q .non H'
theorem sc_P_init : FnScope ["self", "timetable", "kind", "pairs", "alike", "one", "other"] ["self", "timetable", "kind", "pairs", "alike"] (defScope s_P_init) := ⟨rfl, rfl, rfl, by decide +kernel, rfl, by decide +kernel, by decide +kernel⟩
theorem ok_P_init (T : Tx K mg) : FnOk PP w K mg base CX0 7 (He.fAd K d_P_init.at_) (fdOf K d_P_init.at_) ["self", "timetable", "kind", "pairs", "alike"] (sp_P_init K) := by
  have G_looks := ok_looks T (w := w) (base := base)
  have G_adds := ok_adds T (w := w) (base := base)
  have G_B_init := ok_B_init T (w := w) (base := base)
  refine T.F_P_init.ok sc_P_init (by rintro vs H Q E ⟨H0, Hc, x, n, es, kd, tt, pairs, al, ps, MT, _, _, _, _, _, _, _, _, _, rfl, _⟩; rfl) fun cdv A outer s_ H vs Q E hr ⟨H0, Hc, x, n, es, kd, tt, pairs, al, ps, MT, g0, m0, nx, htab, htt, hpa, hmt, hal, hps, evs, q⟩ => ?_
  subst evs
  refine ⟨_, PSs.nox (pss_cons (ps_fld (pv 0) (pe_call G_looks (hr.mono (by decide)) rfl T.g_looks T.F_looks.kp T.b_looks .nil pass0 (pa_cons (pv 1) pa_nil)) rfl)
      (pss_cons (ps_fld (pv 0) (pe_call G_adds (hr.mono (by decide)) rfl T.g_adds T.F_adds.kp T.b_adds .nil pass0 (pa_cons (pv 1) pa_nil)) rfl)
      (pss_cons (ps_fld (pv 0) (pe_make T.k_Bonds G_B_init (hr.mono (by decide)) rfl T.g_Bonds (b_B_init4 T) .nil pass0 (pa_cons (pv 1) (pa_cons (pv 2) (pa_cons (pe_tup pa_nil) (pa_cons (pv 4) pa_nil))))) rfl)
      (pss_cons (ps_fld (pv 0) pe_dnewT rfl)
      (pss_one (ps_for PassesOwn.never rfl (pi_tupK K (pv 3)) (pg_tupK K 2 rfl (pgs_cons (pg_name (i := 5) sc_P_init.nd rfl (Or.inl rfl)) (pgs_cons (pg_name (i := 6) sc_P_init.nd rfl (Or.inl rfl)) pgs_nil))) (pss_cons (ps_dput (hu_of hr) (pe_fldK K (pv 0) rfl) (pe_tup (pa_cons (pv 5) (pa_cons (pv 6) pa_nil))) pe_bl rfl)
      (pss_one (ps_dput (hu_of hr) (pe_fldK K (pv 0) rfl) (pe_tup (pa_cons (pv 6) (pa_cons (pv 5) pa_nil))) pe_bl rfl))))))))), ?_⟩
  have hx : ((H0, Hc) : Hp × Hp).2 x = none := nx
  have h64 := htab.len
  have S0 : Sl (L2.start ["self", "timetable", "kind", "pairs", "alike", "one", "other"] [.ref x, tt, .str kd, pairs, al]) H0 [some (Is (.ref x)), some (tTab K n es), some (tSt kd), some (Tup K []), some MT, none, none] := start_sl (Rs := [Is (.ref x), tTab K n es, tSt kd, Tup K [], MT]) ⟨rfl, htt, rfl, hpa, hal, trivial⟩
  refine run_mi (fun _ μ' => ∃ s, BSpec n es kd s ∧ μ' = Mi K (He.ga K "Keeping") x (pFs K s)) g0 m0 S0 ?_ (fun σ' H0' H' Γ' μ' ⟨s, hs, e⟩ g' ex _ m' => q s H0' H' hs g' (by subst e; exact m'))
  refine hr_fldI (RA := Lst ((looksL es).map (tPr K))) hx T.c_Keeping T.n_K_own_looks rfl (by kernel_rfl) (by show 0 < 1000; decide) (y_call (ya_cons (y_var rfl) ya_nil) ⟨n, es, by omega, rfl, rfl⟩) ?_
  refine hr_fldI (RA := Lst []) hx T.c_Keeping T.n_K_own_adds rfl (by kernel_rfl) (by show 1 < 1000; decide) (y_call (ya_cons (y_var rfl) ya_nil) ⟨n, es, by omega, rfl, rfl⟩) ?_
  refine hr_fldI (RA := ExT (BSpec n es kd) (Bnd K)) hx T.c_Keeping T.n_K_own_bonds rfl (by kernel_rfl) (by show 2 < 1000; decide) (y_bonds4 htab hmt hps (ya_cons (y_var rfl) (ya_cons (y_var rfl) (ya_cons (y_tup ya_nil (by show 0 ≤ 100000; decide)) (ya_cons (y_var rfl) ya_nil))))) ?_
  refine hr_exF (Fs := [("own_looks", Lst ((looksL es).map (tPr K))), ("own_adds", Lst [])]) (f := "own_bonds") fun s hs => ?_
  refine hr_fldI (RA := DT []) hx T.c_Keeping T.n_K_own_unlike rfl (by kernel_rfl) (by show 3 < 1000; decide) y_dnewT ?_
  refine hr_for (fun i _ μ' => i = 0 ∧ μ' = Mi K (He.ga K "Keeping") x (pFs K s)) (yi_tup (Rs := []) (y_var rfl)) ⟨rfl, by show Mi _ _ _ _ = Mi _ _ _ (pFs K s); unfold pFs; rw [hs.hes]; rfl⟩ (fun i R1 Γi μi _ hR => by simp at hR) (fun Γn μn h => ⟨s, hs, h.2⟩)
end
end HF
set_option maxHeartbeats 1000000
namespace HF
open PySem PyProof.Rows L2 Evl
section
variable {w : World} {K : PySem.W.Frag} {mg : Str → Option Value} {base : Heap}
theorem b_P_init4 (T : Tx K mg) : Binds K (fdOf K d_P_init.at_) ["self", "timetable", "kind", "pairs", "alike"] [] := by
  obtain ⟨ds, h1, h2⟩ := FunD.binds1 (ps := ["self", "timetable", "kind", "pairs", "alike"]) T.F_P_init 5 2 (by intro h; cases h) rfl fun _ _ _ _ _ _ _ us its h1 h2 => match us, its, h1, h2 with | [_, _, _, _, _], [_, _], _, _ => ⟨_, rfl, rfl⟩
  cases h1
  exact h2
def barOf (hs : Nat → List Nat) (i : Nat) (ps : List Nat) : List (Nat × List Nat) := if ps.isEmpty then [] else [(i, List.range i ++ ps.flatMap hs)]
abbrev tWi (K : PySem.W.Frag) (i : Nat) (ps : List Nat) : Ty := Lst (ps.map fun p => Tup K [tN i, tN p])
def pairsL (L : Nat) : List (Nat × Nat) := (List.range L).flatMap fun i => ((List.range L).filter fun j => decide (i < j)).map fun j => (i, j)
theorem pairsL_ok {L : Nat} : ∀ p ∈ pairsL L, p.1 < L ∧ p.2 < L := fun p hp => by
  obtain ⟨i, hi, h⟩ := List.mem_flatMap.mp hp
  obtain ⟨j, hj, rfl⟩ := List.mem_map.mp h
  exact ⟨List.mem_range.mp hi, List.mem_range.mp (List.mem_filter.mp hj).1⟩
/-- own_barred while it is filled -/
def Mb (K : PySem.W.Frag) (e : Hp × Hp) (x : Addr) (Fs : List (Str × Ty)) (d : Addr) (bar : List (Nat × List Nat)) : Mt :=
  ⟨fun K0 H => (Mi K (He.ga K "Keeping") x (Fs ++ [(("own_barred" : Str), Is (.ref d))])).p K0 H ∧ e.2 d = none ∧ K0 d = none ∧ ∃ kvs, H d = some (.dK kvs) ∧ kvs.map (·.1) = bar.map (fun p : Nat × List Nat => (Sum.inl (p.1 : Int) : L2.Key)) ∧ AllR (kvs.map (·.2)) (bar.map fun p => tNs p.2) K0, by
    rintro H0 H H0' H' g ⟨h1, h2, h3, kvs, h4, h5, h6⟩
    exact ⟨(Mi K (He.ga K "Keeping") x (Fs ++ [(("own_barred" : Str), Is (.ref d))])).m _ _ _ _ g h1, h2, g.f _ h3 (ne_none h4), kvs, g.e _ _ h4, h5, AllR.m g.e0 h6⟩⟩
theorem kb_one {i : Nat} {v : V} {bar : List (Nat × List Nat)} {kvs : List (L2.Key × V)} {l l' : List Nat} {K0 : Hp} (hb : bar = [] ∨ bar = [(i, l)]) (hk : kvs.map (·.1) = bar.map (fun p : Nat × List Nat => (Sum.inl (p.1 : Int) : L2.Key))) (r : (tNs l').r v K0) :
    (putK kvs (Sum.inl (i : Int)) v).map (·.1) = [(i, l')].map (fun p : Nat × List Nat => (Sum.inl (p.1 : Int) : L2.Key)) ∧ AllR ((putK kvs (Sum.inl (i : Int)) v).map (·.2)) ([(i, l')].map fun p => tNs p.2) K0 ∧ kvs.length ≤ 1 := by
  rcases hb with rfl | rfl
  · cases kvs with
    | nil => exact ⟨rfl, ⟨r, trivial⟩, Nat.zero_le _⟩
    | cons a b => simp at hk
  · cases kvs with
    | nil => simp at hk
    | cons a b =>
      cases b with
      | cons c d => simp at hk
      | nil =>
        have h1 : a.1 = (Sum.inl (i : Int) : L2.Key) := by simpa using hk
        have e : putK [a] (Sum.inl (i : Int) : L2.Key) v = [(a.1, v)] := by
          unfold putK
          simp [h1]
        rw [e]
        exact ⟨by simp [h1], ⟨r, trivial⟩, Nat.le_refl _⟩
/-- {look: list(range(look)) for look, person in wishes} -/
theorem dc_bar {Γ : Ctx} {μ : Mt} {i : Nat} {ps : List Nat} (hw : Γ[3]? = some (some (tWi K i ps))) (hi : i ≤ 1000) (hz : Γ.length = 12) {σ : L2.St} {H0 H : Hp} (S : Sx σ H0 H Γ μ) {Q : VK}
    (q : ∀ D kH K1 H1, Gr H0 H K1 H1 → H D = none → K1 D = none → H1 D = some (.dK kH) → kH.map (·.1) = (barOf (fun _ => []) i ps).map (fun p : Nat × List Nat => (Sum.inl (p.1 : Int) : L2.Key)) → AllR (kH.map (·.2)) ((barOf (fun _ => []) i ps).map fun p => tNs p.2) K1 → Q (.ref D) H1) :
    tDc (iList K (tVar 3)) (gTup K 2 (gCons (gName 8) (gCons (gName 9) gNil))) tYes (tVar 8) (tLstRg (tRg1 (tVar 8))) [8, 9] σ H Q := by
  have hbe : ∀ k : Nat, barOf (fun _ => []) i (ps.take k) = [] ∨ barOf (fun _ => []) i (ps.take k) = [(i, List.range i)] := fun k => by
    unfold barOf
    split
    · exact .inl rfl
    · refine .inr ?_
      have : (ps.take k).flatMap (fun _ => ([] : List Nat)) = [] := by simp
      rw [this, List.append_nil]
  refine yi_list (Rs := ps.map fun p => Tup K [tN i, tN p]) (y_var hw) σ H0 H S _ fun J K1 H1 g1 ix => fun D hD => ?_
  have hD0 : H D = none := fresh_back g1.e hD
  refine ⟨fun j m G => j ≤ ps.length ∧ m = ps.length - j ∧ ∃ K2 kH, Gr H0 H K2 G ∧ Ex K1 K2 ∧ K2 D = none ∧ G D = some (.dK kH) ∧ kH.map (·.1) = (barOf (fun _ => []) i (ps.take j)).map (fun p : Nat × List Nat => (Sum.inl (p.1 : Int) : L2.Key)) ∧ AllR (kH.map (·.2)) ((barOf (fun _ => []) i (ps.take j)).map fun p => tNs p.2) K2, ⟨ps.length, Nat.zero_le _, by omega, K1, [], g1.trans (Gr.own g1.p hD), Ex.refl _, fresh_back g1.p hD, upd_same, rfl, by simp [AllR, barOf]⟩, ?_⟩
  rintro j m G ⟨hle, rfl, K2, kH, gG, eK, nD, dD, hk, hA⟩
  by_cases hlt : j < ps.length
  · have hget : ps[j]? = some ps[j] := List.getElem?_eq_getElem hlt
    generalize ps[j] = p at hget
    refine .inr ⟨ix.go j G (eK.trans gG.p) (by rw [List.length_map]; exact hlt), fun G' => j + 1 ≤ ps.length ∧ ∃ K2 kH, Gr H0 H K2 G' ∧ Ex K1 K2 ∧ K2 D = none ∧ G' D = some (.dK kH) ∧ kH.map (·.1) = (barOf (fun _ => []) i (ps.take (j + 1))).map (fun p : Nat × List Nat => (Sum.inl (p.1 : Int) : L2.Key)) ∧ AllR (kH.map (·.2)) ((barOf (fun _ => []) i (ps.take (j + 1))).map fun p => tNs p.2) K2, fun G' h => ⟨ps.length - (j + 1), by omega, h.1, rfl, h.2⟩, fun v G' hy => ?_⟩
    obtain ⟨K3, gy, rx⟩ := ix.yl j K2 G v G' eK gG.p hy (Tup K [tN i, tN p]) (by rw [List.getElem?_map, hget]; rfl)
    have nD3 : K3 D = none := gy.f D nD (ne_none dD)
    have d3 : G' D = some (.dK kH) := gy.e D _ dD
    have s1 := (S.gr gG).gr gy
    refine yg_tup2 (yg_name (k := 8)) (yg_name (k := 9)) v (L2.wipe σ [8, 9]) K3 G' (s1.sl.wipe [8, 9]) rx gy.p _ fun σ2 s2 df2 => ⟨wipe_wipe df2 (by decide), ?_⟩
    refine yes_go ?_
    have h8 : ((List.set (List.set (wipeG Γ [8, 9]) 8 (some (tN i))) 9 (some (tN p))))[8]? = some (some (tN i)) := by
      rw [List.getElem?_set_ne (by decide), List.getElem?_set_self]
      show 8 < (((wipeG Γ []).set 9 none).set 8 none).length
      rw [List.length_set, List.length_set]
      show 8 < Γ.length
      rw [hz]
      decide
    obtain ⟨w8, hw8, rw8⟩ := s2.2 8 (tN i) h8
    obtain rfl : w8 = V.int (i : Int) := rw8
    refine ⟨_, hw8, ?_⟩
    refine (yl_listRg (n := i) (y_var h8) (by omega)) σ2 K3 G' ⟨s2, gy.p, s1.mu⟩ _ fun pl vs K4 G4 g4 n4 n4' hp4 hA4 => ?_
    have d4 := g4.e D _ d3
    have nD4 := g4.f D nD3 (ne_none d3)
    have hplD : pl ≠ D := fun z => by rw [z, d3] at n4; cases n4
    have rl : (tNs (List.range i)).r (.ref pl) (upd K4 pl (.lst vs)) := ⟨pl, vs, rfl, upd_same, hA4.m (Ex.new n4')⟩
    have nD5 : (upd K4 pl (.lst vs)) D = none := by rw [upd_ne hplD.symm]; exact nD4
    obtain ⟨q1, q2, q3⟩ := kb_one (hbe j) hk rl
    have hb1 : barOf (fun _ => []) i (ps.take (j + 1)) = [(i, List.range i)] := by
      rcases hbe (j + 1) with h | h
      · exfalso
        unfold barOf at h
        have : (ps.take (j + 1)).isEmpty = false := by
          have h3 : (ps.take (j + 1)).length = j + 1 := by rw [List.length_take]; omega
          cases e : ps.take (j + 1) with
          | nil => rw [e] at h3; simp at h3
          | cons _ _ => rfl
        rw [this] at h
        cases h
      · exact h
    have gg : Gr K3 G' (upd K4 pl (.lst vs)) G4 := ⟨g4.e0.trans (Ex.new n4'), g4.e, fun a o ha => by
      by_cases z : a = pl
      · subst z; rw [upd_same] at ha; cases ha; exact hp4
      · rw [upd_ne z] at ha; exact g4.p a o ha, fun a ha hb => by
      rw [upd_ne (fun z => hb (by rw [z]; exact n4))]; exact g4.f a ha hb⟩
    refine ⟨kH, Sum.inl (i : Int), rfl, d4, sz_lt (by omega), hlt, upd K4 pl (.lst vs), _, (((gG.trans gy).trans gg).put hD0 nD5), (eK.trans gy.e0).trans gg.e0, nD5, upd_same, ?_, ?_⟩
    · rw [hb1]; exact q1
    · rw [hb1]; exact q2
  · have e : j = ps.length := by omega
    subst e
    rw [List.take_length] at hk hA
    exact .inl ⟨ix.st _ _ (eK.trans gG.p) (by rw [List.length_map]; exact Nat.le_refl _), q D kH K2 G gG hD0 nD dD hk hA⟩
theorem run_at {Γ : Ctx} {μ : Mt} {t : TS} {D : Ends} {σ : L2.St} {H0 H : Hp} {e : Hp × Hp} (N : Ctx → Mt → Prop) (h : Hr e t Γ μ N tNever) (g : Gr e.1 e.2 H0 H) (S : Sx σ H0 H Γ μ)
    (k : ∀ σ' H0' H' Γ' μ', N Γ' μ' → Gr e.1 e.2 H0' H' → Ex H0 H0' → Sx σ' H0' H' Γ' μ' → D.nx σ' H') : t D σ H := h σ H0 H D g S (fun σ' H0' H' Γ' μ' n g' x' s' => k σ' H0' H' Γ' μ' n g' x' s') (fun _ _ _ _ r => r.elim)
theorem y_barM {Γ : Ctx} {e : Hp × Hp} {x d : Addr} {Fs : List (Str × Ty)} {i : Nat} {l : List Nat} {ta : TE} (T : Tx K mg) (h0 : Γ[0]? = some (some (Is (.ref x)))) (hl : (Fs ++ [(("own_barred" : Str), Is (.ref d))]).lookup ("own_barred" : Str) = some (Is (.ref d))) (ha : Y ta Γ (Mb K e x Fs d [(i, l)]) (tN i)) : Y (tDGet (tFld K (tVar 0) "own_barred") ta) Γ (Mb K e x Fs d [(i, l)]) (tNs l) := fun σ H0 H S Q q => by
  obtain ⟨v, hv, rv⟩ := S.sl.2 0 _ h0
  obtain rfl : v = V.ref x := rv
  obtain ⟨⟨m1, dx, fs, m2, m3, m4⟩, _⟩ := S.mu
  obtain ⟨u, hu, ru⟩ := lookup_ins m3 m4 hl
  obtain rfl : u = V.ref d := ru
  refine ⟨_, hv, x, _, dx, fs, _, rfl, m2, T.c_Keeping, T.n_K_own_barred, hu, ?_⟩
  refine ha σ H0 H S _ fun y H1 G1 g1 r1 => ?_
  obtain rfl : y = V.int (i : Int) := r1
  obtain ⟨_, _, _, kvs, k1, k2, k3⟩ := (S.gr g1).mu
  obtain ⟨z, hz, rz⟩ := valV_nat (es := [(i, tNs l)]) (n := i) (R := tNs l) k2 k3 (by simp [List.lookup])
  exact ⟨d, z, rfl, .inl ⟨kvs, Sum.inl (i : Int), .inl k1, rfl, hz.symm⟩, q z H1 G1 g1 rz⟩
theorem hr_putB {Γ : Ctx} {e : Hp × Hp} {x d : Addr} {Fs : List (Str × Ty)} {i k : Nat} {l l' : List Nat} {te : TE} {N : Ctx → Mt → Prop} {R : Ty} (T : Tx K mg) (h0 : Γ[0]? = some (some (Is (.ref x)))) (hk : Γ[k]? = some (some (tN i))) (hl : (Fs ++ [(("own_barred" : Str), Is (.ref d))]).lookup ("own_barred" : Str) = some (Is (.ref d))) (ha : Y te Γ (Mb K e x Fs d [(i, l)]) (tNs l')) (n : N Γ (Mb K e x Fs d [(i, l')])) :
    Hr e (sDPut (tFld K (tVar 0) "own_barred") (tVar k) te) Γ (Mb K e x Fs d [(i, l)]) N R := fun σ H0 H D g S nx rt => by
  refine ha σ H0 H S _ fun y H1 G1 g1 r1 => ?_
  have S1 := S.gr g1
  obtain ⟨v, hv, rv⟩ := S1.sl.2 0 _ h0
  obtain rfl : v = V.ref x := rv
  obtain ⟨z, hz, rz⟩ := S1.sl.2 k _ hk
  obtain rfl : z = V.int (i : Int) := rz
  obtain ⟨⟨m1, dx, fs, m2, m3, m4⟩, m5, m6, kvs, k1, k2, k3⟩ := S1.mu
  obtain ⟨u, hu, ru⟩ := lookup_ins m3 m4 hl
  obtain rfl : u = V.ref d := ru
  obtain ⟨q1, q2, q3⟩ := kb_one (.inr rfl) k2 r1
  refine ⟨_, hv, x, _, dx, fs, _, rfl, m2, T.c_Keeping, T.n_K_own_barred, hu, _, hz, d, _, rfl, DPut.k (k := Sum.inl (i : Int)) k1 (sz_lt (by omega)), ?_⟩
  refine nx σ H1 _ Γ _ n ((g.trans g1).put m5 m6) g1.e0 ⟨S1.sl, ex_upd S1.ex m6, ⟨m1, dx, fs, ?_, m3, m4⟩, m5, m6, _, upd_same, q1, q2⟩
  rw [upd_ne (ne_of m2 k1 (by intro z; cases z))]
  exact m2
theorem mb_done {H0 Hc K0 H : Hp} {x d : Addr} {s : Bst} {bar : List (Nat × List Nat)} (g : Gr H0 Hc K0 H) (ex : Ex K0 H) (hx : Hc x = none) (m : (Mb K (H0, Hc) x (pFs K s) d bar).p K0 H) : ∃ K1, Gr H0 Hc K1 H ∧ (Kee K ⟨s, bar⟩).r (.ref x) K1 := by
  obtain ⟨⟨m1, dx, fs, m2, m3, m4⟩, m5, m6, kvs, k1, k2, k3⟩ := m
  have hne : x ≠ d := ne_of m2 k1 (by intro z; cases z)
  have e1 : Ex K0 (upd (upd K0 d (.dK kvs)) x (.ins (He.ga K "Keeping") dx fs)) := (Ex.new m6).trans (Ex.new (by rw [upd_ne hne]; exact m1))
  refine ⟨upd (upd K0 d (.dK kvs)) x (.ins (He.ga K "Keeping") dx fs), ⟨g.e0.trans e1, g.e, fun a o q => ?_, fun a h h' => ?_⟩, ?_⟩
  · by_cases z : a = x
    · subst z; rw [upd_same] at q; cases q; exact m2
    · rw [upd_ne z] at q
      by_cases z2 : a = d
      · subst z2; rw [upd_same] at q; cases q; exact k1
      · rw [upd_ne z2] at q; exact ex a o q
  · rw [upd_ne (fun z => h' (by rw [z]; exact hx)), upd_ne (fun z => h' (by rw [z]; exact m5))]
    exact g.f a h h'
  · have hlast : ∃ fs0 q, fs = fs0 ++ [q] := by
      have : fs ≠ [] := by rintro rfl; simp at m3
      exact ⟨fs.dropLast, fs.getLast this, (List.dropLast_concat_getLast this).symm⟩
    obtain ⟨fs0, qv, rfl⟩ := hlast
    have hlen : (fs0.map (·.2)).length = ((pFs K s).map (·.2)).length := by
      have := congrArg List.length m3
      simpa using this
    rw [List.map_append, List.map_append] at m4
    have h1 := AllR.take ((pFs K s).map (·.2)).length m4
    have h2 := AllR.drop ((pFs K s).map (·.2)).length m4
    rw [List.take_left' rfl, ← hlen, List.take_left' rfl] at h1
    rw [List.drop_left' rfl, ← hlen, List.drop_left' rfl] at h2
    have h3 : qv.2 = V.ref d := h2.1
    refine ⟨x, dx, _, rfl, upd_same, ?_, ?_⟩
    · rw [m3]; rfl
    · show AllR ((fs0 ++ [qv]).map (·.2)) ((pFs K s).map (·.2) ++ [DK (bar.map fun p => (p.1, tNs p.2))]) _
      rw [List.map_append]
      refine (h1.m e1).app ⟨⟨d, kvs, h3, ?_, ?_, ?_⟩, trivial⟩
      · rw [upd_ne hne.symm, upd_same]
      · rw [k2, List.map_map]; rfl
      · rw [List.map_map]; exact AllR.m e1 k3
def sp_K_init (K : PySem.W.Frag) : Sp := fun vs H Q _ => ∃ H0 Hc x dx n es kd tt wi i ps ch, Ex H0 Hc ∧ Hc x = none ∧ Hc dx = none ∧ dx ≠ x ∧ H = upd (upd Hc dx (.own x)) x (.ins (He.ga K "Keeping") dx []) ∧ TabOk n es ∧ (tTab K n es).r tt H0 ∧ (tWi K i ps).r wi H0 ∧ i ≤ 1000 ∧ (∀ p ∈ ps, p < n) ∧ ps.length ≤ 64 ∧
  vs = [.ref x, tt, .str kd, wi, .bl ch] ∧ ∀ s H0' H', BSpec n es kd s → Gr H0 Hc H0' H' → (Kee K ⟨s, barOf s.hs i ps⟩).r (.ref x) H0' → Q .non H'
theorem sc_K_init : SScope ["self", "timetable", "kind", "wishes", "is_chain", "numbers", "pairs", "bonds", "look", "person", "one", "other"] ["self", "timetable", "kind", "wishes", "is_chain"] (defScope s_K_init) := ⟨rfl, rfl, rfl, by decide +kernel, rfl, by decide +kernel, by decide +kernel, by decide +kernel, rfl⟩
theorem ok_K_init (T : Tx K mg) : FnOk PP w K mg base CX0 8 (He.fAd K d_K_init.at_) (fdOf K d_K_init.at_) ["self", "timetable", "kind", "wishes", "is_chain"] (sp_K_init K) := by
  have G_P_init := ok_P_init T (w := w) (base := base)
  have G_B_init := ok_B_init T (w := w) (base := base)
  have G_B_has := ok_B_has T (w := w) (base := base)
  have G_looks := ok_looks T (w := w) (base := base)
  obtain ⟨dsI, hI, bI⟩ := b_B_init0 T
  have FF := T.F_K_init
  generalize hfd : fdOf K d_K_init.at_ = fd at FF ⊢
  obtain ⟨oc, od, dV, kV, doc, pm, an, cda, ct, osl, cc, rfl, lk, hcd, _, O⟩ := FF.ex
  have O := O ⟨_, rfl, rfl⟩
  obtain ⟨cl, cld, csl, hcell⟩ := O.cell
  refine fn_ofS lk hcd hcell rfl sc_K_init (by rintro vs H Q E ⟨H0, Hc, x, dx, n, es, kd, tt, wi, i, ps, ch, _, _, _, _, _, _, _, _, _, _, _, rfl, _⟩; rfl) fun A outer s_ H vs Q E hr ⟨H0, Hc, x, dx, n, es, kd, tt, wi, i, ps, ch, hex, nx, nd, ndx, eH, htab, htt, hwi, hi, hps, hpl, evs, q⟩ => ?_
  subst evs
  subst eH
  refine ⟨_, (psst_cons (pst_of (ps_set (i := 5) sc_K_init.nd rfl (Or.inr rfl) (pe_listRg rfl (by rfl) T.f_list (prg_1 (by rfl) T.f_range (pe_callB (r := rLenA K) call_len_seq (by rfl) T.f_len (by decide +kernel) (pa_cons (pe_call G_looks (hr.mono (by decide)) rfl T.g_looks T.F_looks.kp T.b_looks .nil pass0 (pa_cons (pv 1) pa_nil)) pa_nil)))))) (psst_cons (pst_of (ps_setLc2 (i := 6) (own := [("one", 10), ("other", 11)]) (vs1 := [11]) rfl sc_K_init.nd rfl rfl (sw_true rfl rfl rfl (by decide +kernel)) (pi_listK K (pv 5)) (blkOk_by (N := ["self", "timetable", "kind", "wishes", "is_chain", "numbers", "pairs", "bonds", "look", "person", "one", "other"]) (sc := _) (by kernel_rfl)) (by decide) (fun _ _ _ _ _ => (pg_name (i := 10) sc_K_init.nd rfl (Or.inl rfl))) (fun _ _ _ _ _ => pts_nil) (fun _ _ _ _ _ => (pi_listK K (pv 5))) (fun _ _ _ _ _ => (pg_name (i := 11) sc_K_init.nd rfl (Or.inl rfl))) (fun _ _ _ _ _ => pts_one (pt_cmpR op_lt (pv 10) (pv 11) (nomark _))) (fun _ _ _ _ _ => (pe_tup (pa_cons (pv 10) (pa_cons (pv 11) pa_nil)))))) (psst_cons (pst_expr (pet_super rfl rfl lk rfl O (fun c e => own_cls sc_K_init (h := s_.heap) rfl e) rfl rfl rfl rfl T.f_super G_P_init (hr.mono (by decide)) (b_P_init4 T) (pa_cons (pv 1) (pa_cons (pv 2) (pa_cons (pe_tup pa_nil) (pa_cons (pe_ifExp (pt_val (pv 4)) (pv 6) (pe_tup pa_nil)) pa_nil)))))) (psst_of (pss_cons (ps_set (i := 7) sc_K_init.nd rfl (Or.inl rfl) (pe_make T.k_Bonds G_B_init (hr.mono (by decide)) rfl T.g_Bonds bI hI pass0 (pa_cons (pv 1) (pa_cons (pv 2) pa_nil)))) (pss_cons (ps_fld (pv 0) (pe_dc (own := [("look", 8), ("person", 9)]) (g := gTup K 2 (gCons (gName 8) (gCons (gName 9) gNil))) rfl sc_K_init.nd (pi_listK K (pv 3)) (blkOk_by (N := ["self", "timetable", "kind", "wishes", "is_chain", "numbers", "pairs", "bonds", "look", "person", "one", "other"]) (sc := _) (by kernel_rfl)) (fun _ _ _ _ _ => (pg_tupK K 2 rfl (pgs_cons (pg_name (i := 8) sc_K_init.nd rfl (Or.inl rfl)) (pgs_cons (pg_name (i := 9) sc_K_init.nd rfl (Or.inl rfl)) pgs_nil)))) (fun _ _ _ _ _ => pts_nil) (fun _ _ _ _ _ => (pv 8)) (fun _ _ _ _ _ => (pe_listRg rfl (by rfl) T.f_list (prg_1 (by rfl) T.f_range (pv 8))))) rfl) (pss_one (ps_for PassesOwn.never rfl (pi_listK K (pv 3)) (pg_tupK K 2 rfl (pgs_cons (pg_name (i := 8) sc_K_init.nd rfl (Or.inl rfl)) (pgs_cons (pg_name (i := 9) sc_K_init.nd rfl (Or.inl rfl)) pgs_nil))) (pss_one (ps_dput (hu_of hr) (pe_fldK K (pv 0) rfl) (pv 8) (pe_op op_cat (pe_dget (hu_of hr) (pe_fldK K (pv 0) rfl) (pv 8) (fun _ _ => rfl)) (pe_meth (pv 7) T.c_Bonds T.m_B_has G_B_has (hr.mono (by decide)) T.b_B_has .nil pass0 (pa_cons (pv 9) pa_nil))) rfl)))))))))), ?_⟩
  have hx : ((H0, Hc) : Hp × Hp).2 x = none := nx
  obtain ⟨g0, m0⟩ := mi_start (K := K) (C := He.ga K "Keeping") hex nx nd
  have hL8 := htab.L
  have h64 := htab.len
  have S0 : Sx (L2.start ["self", "timetable", "kind", "wishes", "is_chain", "numbers", "pairs", "bonds", "look", "person", "one", "other"] [.ref x, tt, .str kd, wi, .bl ch]) H0 (upd (upd Hc dx (.own x)) x (.ins (He.ga K "Keeping") dx [])) [some (Is (.ref x)), some (tTab K n es), some (tSt kd), some (tWi K i ps), some (tBo ch), none, none, none, none, none, none, none] (Mi K (He.ga K "Keeping") x []) := ⟨start_sl (Rs := [Is (.ref x), tTab K n es, tSt kd, tWi K i ps, tBo ch]) ⟨rfl, htt, rfl, hwi, rfl, trivial⟩, g0.p, m0⟩
  refine run_set (RA := tNs (List.range (looksL es).length)) (y_listRg (Y.to (y_lenL (Rs := (looksL es).map (tPr K)) (y_call (ya_cons (y_var rfl) ya_nil) ⟨n, es, by omega, rfl, rfl⟩)) (by rw [List.length_map])) (by omega)) S0 fun v1 K1 H1 g1 S1 => ?_
  refine run_set (RA := Lst ((pairsL (looksL es).length).map (tPr K))) (Y.to (YL.yy (yl_lc2 (xs := List.range (looksL es).length) (ys := fun _ => List.range (looksL es).length) (r := tN) (r2 := fun _ => tN) (f := fun a b => decide (a < b)) (o := fun a b => tPr K (a, b)) (yi_list (y_var rfl)) (by decide) (by decide) (by rw [List.length_range]; omega) (fun _ _ => by rw [List.length_range]; omega) (fun _ _ => yg_name) (fun _ _ => yi_list (y_var rfl)) (fun _ _ _ _ => yg_name) (fun _ _ _ _ => yt_t (y_ltN (y_var rfl) (y_var rfl))) (fun _ _ _ _ _ => y_tup (ya_cons (y_var rfl) (ya_cons (y_var rfl) ya_nil)) (by show 2 ≤ 100000; decide)))) (by
    unfold pairsL
    rw [List.map_flatMap]
    refine congrArg Lst (congrArg (fun F => List.flatMap F _) (funext fun x => ?_))
    rw [List.map_map]
    rfl)) S1 fun v2 K2 H2 g2 S2 => ?_
  refine seq_go ?_
  obtain ⟨w0, hw0, rw0⟩ := S2.sl.2 0 _ rfl
  obtain rfl : w0 = V.ref x := rw0
  obtain ⟨m1, dx2, fs2, m2, m3, m4⟩ := id S2.mu
  let G2 : Ctx := [some (Is (.ref x)), some (tTab K n es), some (tSt kd), some (tWi K i ps), some (tBo ch), some (tNs (List.range (looksL es).length)), some (Lst ((pairsL (looksL es).length).map (tPr K))), none, none, none, none, none]
  have hargs : ∃ MT ps', MoreT K ps' MT ∧ (∀ p ∈ ps', p.1 < (looksL es).length ∧ p.2 < (looksL es).length) ∧ YA (tCons (tVar 1) (tCons (tVar 2) (tCons (tTup tNil) (tCons (tIf (L2.tB (tVar 4)) (tVar 6) (tTup tNil)) tNil)))) G2 (Mi K (He.ga K "Keeping") x []) [tTab K n es, tSt kd, Tup K [], MT] := by
    cases ch with
    | true => exact ⟨_, pairsL (looksL es).length, .inl rfl, pairsL_ok, ya_cons (y_var rfl) (ya_cons (y_var rfl) (ya_cons (y_tup ya_nil (by show 0 ≤ 100000; decide)) (ya_cons (y_if (yt_B (y_var rfl)) (fun _ => y_var rfl) (fun h => nomatch h)) ya_nil)))⟩
    | false => exact ⟨_, [], .inr ⟨rfl, rfl⟩, fun _ h => (nomatch h), ya_cons (y_var rfl) (ya_cons (y_var rfl) (ya_cons (y_tup ya_nil (by show 0 ≤ 100000; decide)) (ya_cons (y_if (yt_B (y_var rfl)) (fun h => nomatch h) (fun _ => y_tup ya_nil (by show 0 ≤ 100000; decide))) ya_nil)))⟩
  obtain ⟨MT, ps', hmt, hps', hY⟩ := hargs
  have g02 : Gr H0 Hc K2 H2 := (g0.trans g1).trans g2
  refine ⟨x, dx2, fs2, hw0, m2, ?_⟩
  refine hY _ K2 H2 S2 _ fun vs K3 H3 g3 r3 => ?_
  have S3 := S2.gr g3
  have g03 := g02.trans g3
  obtain ⟨a1, vs1, rfl⟩ : ∃ a vs1, vs = a :: vs1 := by
    cases vs with
    | nil => exact r3.elim
    | cons a b => exact ⟨a, b, rfl⟩
  obtain ⟨ra1, r3⟩ := r3
  obtain ⟨a2, a3, a4, rfl, ra2, ra3, ra4⟩ := AllR.three r3
  obtain rfl : a2 = V.str kd := ra2
  refine ⟨K3, Hc, x, n, es, kd, a1, a3, a4, ps', MT, ⟨Ex.refl _, g03.e, g03.p, fun _ h _ => h⟩, S3.mu, nx, htab, ra1, ra3, hmt, ra4, hps', rfl, fun s K4 H4 hs g4 m4 => ?_⟩
  refine nx_go ?_
  have S4 : Sx _ K4 H4 G2 (Mi K (He.ga K "Keeping") x (pFs K s)) := ⟨S3.sl.mono g4.e0, g4.p, m4⟩
  have g04 : Gr H0 Hc K4 H4 := ⟨g03.e0.trans g4.e0, g4.e, g4.p, fun a h h' => g4.f a (g03.f a h h') h'⟩
  refine run_set (RA := ExT (BSpec n es kd) (Bnd K)) (y_bonds0 T htab (ya_cons (y_var rfl) (ya_cons (y_var rfl) ya_nil))) S4 fun v5 K5 H5 g5 S5 => ?_
  have g05 := g04.trans g5
  obtain ⟨w5, hw5, s5, hs5, r5⟩ := S5.sl.2 7 _ rfl
  have S5' : Sx _ K5 H5 (G2.set 7 (some (Bnd K s5))) (Mi K (He.ga K "Keeping") x (pFs K s)) := ⟨S5.sl.reset (k := 7) hw5 r5, S5.ex, S5.mu⟩
  refine fld_go (dc_bar (i := i) (ps := ps) rfl hi rfl S5' fun d kH K6 H6 g6 n1 n2 hd hk hA => ?_)
  have S6 := S5'.gr g6
  have g06 := g05.trans g6
  obtain ⟨w0, hw0, rw0⟩ := S6.sl.2 0 _ rfl
  obtain rfl : w0 = V.ref x := rw0
  obtain ⟨m1, dx6, fs6, m2, m3, m4⟩ := id S6.mu
  have hlen6 : fs6.length = 4 := by simpa using congrArg List.length m3
  refine ⟨_, hw0, x, _, dx6, fs6, rfl, m2, T.c_Keeping, T.n_K_own_barred, by omega, ?_⟩
  have hput : putF "own_barred" (V.ref d) fs6 = fs6 ++ [(("own_barred" : Str), V.ref d)] := putF_new (by
    rw [m3]
    intro z
    have : ((pFs K s).map (·.1)).contains ("own_barred" : Str) = false := by kernel_rfl
    rw [List.contains_iff_mem.mpr z] at this
    cases this)
  rw [hput]
  have hdx : x ≠ d := ne_of m2 hd (by intro z; cases z)
  have hcd : Hc d = none := fresh_back g05.e n1
  have S7 : Sx _ K6 (upd H6 x (.ins (He.ga K "Keeping") dx6 (fs6 ++ [(("own_barred" : Str), V.ref d)]))) (G2.set 7 (some (Bnd K s5))) (Mb K (H0, Hc) x (pFs K s) d (barOf (fun _ => []) i ps)) := ⟨S6.sl, ex_upd S6.ex m1, ⟨m1, dx6, _, upd_same, by rw [List.map_append, List.map_append, m3]; rfl, by rw [List.map_append, List.map_append]; exact m4.app ⟨rfl, trivial⟩⟩, hcd, n2, kH, by rw [upd_ne hdx.symm]; exact hd, hk, hA⟩
  have hlook : (pFs K s ++ [(("own_barred" : Str), Is (.ref d))]).lookup ("own_barred" : Str) = some (Is (.ref d)) := by kernel_rfl
  have hbar0 : barOf (fun _ => []) i ps = (if ps.isEmpty then [] else [(i, List.range i ++ (ps.take 0).flatMap s5.hs)]) := by
    unfold barOf
    have h1 : ps.flatMap (fun _ => ([] : List Nat)) = [] := by simp
    rw [h1, List.take_zero]
    rfl
  have hh5 : s5.hs = s.hs := hs5.hs.trans hs.hs.symm
  have hhl : ∀ p, (s5.hs p).length ≤ 1000 := fun p => by
    rw [hs5.hs]
    have h1 := (sim_ok (decide (kd = "long")) (looksL es).length es sim0 (sim0_ok _)).len p
    have h2 := sim_k (decide (kd = "long")) (looksL es).length es sim0
    have h3 := cnt_looks es
    have h4 : sim0.k = 0 := rfl
    show ((es.foldl (Sim.step _ _) sim0).hs p).length ≤ 1000
    omega
  refine run_at (e := (H0, Hc)) (fun _ μ' => μ' = Mb K (H0, Hc) x (pFs K s) d (barOf s5.hs i ps)) (hr_for (fun j Γ' μ' => Wk Γ' [some (Is (.ref x)), none, none, none, none, none, none, some (Bnd K s5), none, none, none, none] ∧ μ' = Mb K (H0, Hc) x (pFs K s) d (if ps.isEmpty then [] else [(i, List.range i ++ (ps.take j).flatMap s5.hs)])) (yi_list (Rs := ps.map fun p => Tup K [tN i, tN p]) (y_var rfl)) ⟨.keep (.skip (.skip (.skip (.skip (.skip (.skip (.keep (.skip (.skip (.skip (.skip .nil))))))))))), by rw [hbar0]⟩ (fun j R1 Γi μi ⟨wk, e⟩ hR => ?_) (fun Γn μn ⟨wk, e⟩ => by
    rw [List.length_map, List.take_length] at e
    exact e)) (g06.put nx m1) S7 (fun σ' K8 H8 Γ8 μ8 e8 g8 x8 S8 => ?_)
  · obtain ⟨p, hp, rfl⟩ := map_get hR
    have hpn := hps p (List.mem_of_getElem? hp)
    have hne : ps.isEmpty = false := by
      cases ps with
      | nil => simp at hp
      | cons _ _ => rfl
    have htake : ps.take (j + 1) = ps.take j ++ [p] := by rw [List.take_succ, hp]; rfl
    rw [hne] at e
    subst e
    have hjl : (ps.take j).length ≤ 64 := by rw [List.length_take]; omega
    have hfl : ((ps.take j).flatMap s5.hs).length ≤ 64 * 1000 := by
      have : ∀ l : List Nat, (l.flatMap s5.hs).length ≤ l.length * 1000 := fun l => by
        induction l with
        | nil => simp
        | cons a l ih =>
          rw [List.flatMap_cons, List.length_append, List.length_cons]
          have := hhl a
          omega
      have := this (ps.take j)
      omega
    have hpl2 := hhl p
    refine ⟨_, _, YG.weak wk (yg_tup2 yg_name yg_name), hr_putB (i := i) (k := 8) (l := List.range i ++ (ps.take j).flatMap s5.hs) (l' := (List.range i ++ (ps.take j).flatMap s5.hs) ++ s5.hs p) T rfl rfl hlook (Y.to (y_cat (Rs := (List.range i ++ (ps.take j).flatMap s5.hs).map tN) (Ss := (s5.hs p).map tN) (y_barM T rfl hlook (y_var rfl)) (y_meth (C := C_B_has K) (y_var (k := 7) (R := Bnd K s5) rfl) rfl (ya_cons (y_var (R := tN p) rfl) ya_nil) ⟨s5, p, by rw [hs5.hn]; exact hpn, rfl, rfl⟩) (by rw [List.length_map, List.length_map, List.length_append, List.length_range]; omega)) (congrArg Lst List.map_append.symm)) ⟨.keep (.skip (.skip (.skip (.skip (.skip (.skip (.keep (.skip (.skip (.skip (.skip .nil))))))))))), ?_⟩⟩
    have e1 : (ps.take (j + 1)).flatMap s5.hs = (ps.take j).flatMap s5.hs ++ s5.hs p := by
      rw [htake, List.flatMap_append]
      simp
    rw [hne, if_neg (by decide), e1, ← List.append_assoc]
  · subst e8
    obtain ⟨K9, g9, r9⟩ := mb_done g8 S8.ex nx S8.mu
    exact q s K9 H8 hs g9 (by rw [← hh5]; exact r9)
end
end HF
set_option maxHeartbeats 400000
namespace HF
open PySem PyProof.Rows L2 Evl
section
variable {w : World} {K : PySem.W.Frag} {mg : Str → Option Value} {base : Heap}
/-! ### as_tuples -/
def C_as (K : PySem.W.Frag) : Nat → List Ty → Ty → Prop
  | 0, Rs, R => (∃ i : Int, Rs = [tI i] ∧ R = tI i) ∨ (∃ z, Rs = [tSt z] ∧ R = tSt z)
  | d + 1, Rs, R => C_as K d Rs R ∨ ∃ Ts : List Ty, (∀ T ∈ Ts, C_as K d [T] T) ∧ Ts.length ≤ 1000 ∧ Rs = [Tup K Ts] ∧ R = Tup K Ts
theorem tyx_tup {H : Hp} {a : Addr} {vs : List V} (h : SqT K H a vs) : TyX K H (.ref a) (.type "tuple") := by
  rcases h with (h | ⟨o, h⟩) | ⟨o, its, n, h1, h2, _⟩
  · exact .base (.tup h)
  · exact .fTuple h
  · exact .kTuple h1 h2
section
variable {Γ : Ctx} {μ : Mt} {ta : TE} {R : Ty} {Rs : List Ty} {n : String}
/-- isinstance(x, (list, tuple)) -/
theorem y_isiT (ha : Y ta Γ μ R) (hty : ∀ v H, R.r v H → TyX K H v (.type n)) {b : Bool} (hk : PySem.W.kitAny K (.type n) [.type "list", .type "tuple"] = some b) :
    Y (tCB (rIsiT K) (tCons ta (tCons (tTup (tCons (tC (.ty "list")) (tCons (tC (.ty "tuple")) tNil))) tNil))) Γ μ (tBo b) := fun σ H0 H S Q q =>
  ha σ H0 H S _ fun x H1 G1 g1 r1 => ⟨sz_of (by show 2 ≤ 100000; decide), fun p hp => by
    have g2 := g1.trans (Gr.new (o := .tup [V.ty "list", V.ty "tuple"]) g1.p hp)
    refine ⟨x, p, [V.ty "list", V.ty "tuple"], .type n, [.type "list", .type "tuple"], b, rfl, upd_same, .cons (.ty _) (.cons (.ty _) .nil), ?_, hk, q _ _ _ g2 rfl⟩
    exact hty _ _ (R.m _ _ _ (g1.p.trans (Ex.new hp)) r1)⟩
end
theorem C_as.one : ∀ {d : Nat} {Rs : List Ty} {R : Ty}, C_as K d Rs R → Rs.length = 1 ∧ Rs = [R]
  | 0, Rs, R, h => by
    rcases h with ⟨i, rfl, rfl⟩ | ⟨z, rfl, rfl⟩ <;> exact ⟨rfl, rfl⟩
  | d + 1, Rs, R, h => by
    rcases h with h | ⟨Ts, _, _, rfl, rfl⟩
    · exact C_as.one h
    · exact ⟨rfl, rfl⟩
theorem sc_as_tuples : FnScope ["thing", "part"] ["thing"] (defScope s_as_tuples) := ⟨rfl, rfl, rfl, by decide +kernel, rfl, by decide +kernel, by decide +kernel⟩
theorem as_step (T : Tx K mg) (lv : Nat) (C' : List Ty → Ty → Prop) (G_as_tuples : FnOk PP w K mg base CX0 lv (He.fAd K d_as_tuples.at_) (fdOf K d_as_tuples.at_) ["thing"] (spR C')) (C : List Ty → Ty → Prop)
    (hC' : ∀ Rs R, C Rs R → ((∃ i : Int, Rs = [tI i] ∧ R = tI i) ∨ (∃ z, Rs = [tSt z] ∧ R = tSt z)) ∨ ∃ Ts : List Ty, (∀ T ∈ Ts, C' [T] T) ∧ Ts.length ≤ 1000 ∧ Rs = [Tup K Ts] ∧ R = Tup K Ts) :
    FnOk PP w K mg base CX0 (lv + 1) (He.fAd K d_as_tuples.at_) (fdOf K d_as_tuples.at_) ["thing"] (spR C) := by
  refine fn_ok T.F_as_tuples sc_as_tuples (fun Rs R hC => by rcases hC' Rs R hC with (⟨i, rfl, _⟩ | ⟨z, rfl, _⟩) | ⟨Ts, _, _, rfl, _⟩ <;> rfl) fun Rs R hC cdv A outer s H E hr => ?_
  refine ⟨_, (pss_one (ps_ret (pe_ifExp (pt_val (pe_callB (r := rIsiT K) call_isiT (by rfl) T.f_isinstance (by decide +kernel) (pa_cons (pv 0) (pa_cons (pe_tup (pa_cons (pe_bltn (v := V.ty "list") (u := Value.type "list") (by rfl) T.f_list (by decide +kernel) rfl) (pa_cons (pe_bltn (v := V.ty "tuple") (u := Value.type "tuple") (by rfl) T.f_tuple (by decide +kernel) rfl) pa_nil))) pa_nil)))) (pe_callTy (r := rTupA K) call_tuple_of (by rfl) T.f_tuple (by decide +kernel) (pa_cons (pe_lc (own := [("part", 1)]) rfl sc_as_tuples.nd (pi_tupK K (pv 0)) (blkOk_by (N := ["thing", "part"]) (sc := _) (by kernel_rfl)) (fun _ _ _ _ _ => (pg_name (i := 1) sc_as_tuples.nd rfl (Or.inl rfl))) (fun _ _ _ _ _ => pts_nil) (fun _ _ _ _ _ => (pe_call G_as_tuples hr rfl T.g_as_tuples T.F_as_tuples.kp T.b_as_tuples .nil pass0 (pa_cons (pv 1) pa_nil)))) pa_nil)) (pv 0)))), fun e => ?_⟩
  rcases hC' Rs R hC with (⟨i, rfl, rfl⟩ | ⟨z, rfl, rfl⟩) | ⟨Ts, hTs, hl, rfl, rfl⟩
  · exact hr_ret (y_if (b := false) (yt_B (y_isiT (n := "int") (y_var rfl) (fun v H h => by rw [show v = V.int i from h]; exact .base (.int _)) (kitAny_cons (b := false) (kit_ty (by decide +kernel)) (fun _ => kitAny_cons (b := false) (kit_ty (by decide +kernel)) (fun _ => kitAny_nil) (fun h => nomatch h)) (fun h => nomatch h)))) (fun h => nomatch h) (fun _ => y_var rfl))
  · exact hr_ret (y_if (b := false) (yt_B (y_isiT (n := "str") (y_var rfl) (fun v H h => by rw [show v = V.str z from h]; exact .base (.str _)) (kitAny_cons (b := false) (kit_ty (by decide +kernel)) (fun _ => kitAny_cons (b := false) (kit_ty (by decide +kernel)) (fun _ => kitAny_nil) (fun h => nomatch h)) (fun h => nomatch h)))) (fun h => nomatch h) (fun _ => y_var rfl))
  · have hc : ∀ T ∈ Ts, C' [T] T := hTs
    refine hr_ret (y_if (b := true) (yt_B (y_isiT (n := "tuple") (y_var rfl) (fun v H h => by obtain ⟨a, vs, rfl, h1, _⟩ := h; exact tyx_tup h1) (kitAny_cons (b := false) (kit_ty (by decide +kernel)) (fun _ => kitAny_cons (b := true) (kit_ty (by decide +kernel)) (fun h => nomatch h) (fun _ => rfl)) (fun h => nomatch h)))) (fun _ => ?_) (fun h => nomatch h))
    refine Y.to (y_tupL (y_lcA (xs := Ts) (r := fun T => T) (o := fun T => T) (yi_tup (y_var (R := Tup K (Ts.map fun T => T)) (by rw [List.map_id']; rfl))) (by decide) (by omega) (fun x hx => yg_name) (fun x hx => y_call (ya_cons (y_var rfl) ya_nil) (hc x hx)))) (by rw [List.map_id'])
theorem ok_as_tuples (T : Tx K mg) : ∀ d, FnOk PP w K mg base CX0 (d + 1) (He.fAd K d_as_tuples.at_) (fdOf K d_as_tuples.at_) ["thing"] (spR (C_as K d))
  | 0 => as_step T 0 _ FnOk.never _ fun Rs R h => .inl h
  | d + 1 => by
    have h1 := as_step T (d + 1) _ (ok_as_tuples T d) (fun Rs R => ∃ Ts : List Ty, (∀ T ∈ Ts, C_as K d [T] T) ∧ Ts.length ≤ 1000 ∧ Rs = [Tup K Ts] ∧ R = Tup K Ts) fun Rs R h => .inr h
    have h0 := (ok_as_tuples T d).mono (Nat.le_succ (d + 1))
    refine ⟨fun vs H Q E ⟨H0, Rs, R, hc, _, ha, _⟩ => by rw [ha.len, (C_as.one (d := d + 1) hc).1]; rfl, fun A outer s H args us vs Q E hr he hb hv ⟨H0, Rs, R, hc, hx, ha, q⟩ => ?_⟩
    rcases hc with hc | hc
    · exact h0.run A outer s H args us vs Q E hr he hb hv ⟨H0, Rs, R, hc, hx, ha, q⟩
    · exact h1.run A outer s H args us vs Q E hr he hb hv ⟨H0, Rs, R, hc, hx, ha, q⟩
theorem C_as_up {Rs : List Ty} {R : Ty} {d : Nat} (h : C_as K d Rs R) : C_as K (d + 1) Rs R := .inl h
theorem tab_as {n : Nat} {es : List Evt} (hl : es.length ≤ 1000) : C_as K 3 [tTab K n es] (tTab K n es) := by
  have hI : ∀ i : Int, C_as K 0 [tI i] (tI i) := fun i => .inl ⟨i, rfl, rfl⟩
  have hS : ∀ z, C_as K 0 [tSt z] (tSt z) := fun z => .inr ⟨z, rfl, rfl⟩
  have hE : ∀ e, C_as K 1 [tEv K e] (tEv K e) := fun e => .inr ⟨tSt e.word :: e.ns.map tN, fun T hT => by
    rcases List.mem_cons.mp hT with rfl | hT
    · exact hS _
    · obtain ⟨n, _, rfl⟩ := List.mem_map.mp hT
      exact hI _, by cases e <;> simp [Evt.ns], rfl, rfl⟩
  have hEs : C_as K 2 [tEvs K es] (tEvs K es) := .inr ⟨es.map (tEv K), fun T hT => by
    obtain ⟨e, _, rfl⟩ := List.mem_map.mp hT
    exact hE e, by rw [List.length_map]; exact hl, rfl, rfl⟩
  refine .inr ⟨[tN n, tEvs K es], fun T hT => ?_, by simp, rfl, rfl⟩
  rcases List.mem_cons.mp hT with rfl | hT
  · exact C_as_up (C_as_up (hI _))
  · rw [List.mem_singleton.mp hT]; exact hEs
/-! ### what a look tells of: plainly -/
inductive Tc (bs : List (Nat × Nat)) : Nat → Nat → Prop where
  | base {a b : Nat} (h : (a, b) ∈ bs) : Tc bs a b
  | step {a b c : Nat} (h : Tc bs a b) (k : Tc bs b c) : Tc bs a c
abbrev simOf (kd : Str) (es : List Evt) : Sim := sim (decide (kd = "long")) (looksL es).length es
noncomputable def kn (c : Sim) (i l : Nat) : Bool := @decide (l = i ∨ Tc c.bs i l) (Classical.propDecidable _)
theorem kn_iff {c : Sim} {i l : Nat} : kn c i l = true ↔ l = i ∨ Tc c.bs i l := by
  unfold kn
  exact @decide_eq_true_iff _ (Classical.propDecidable _)
theorem BSpec.iff {n : Nat} {es : List Evt} {kd : Str} {s : Bst} (h : BSpec n es kd s) {a b : Nat} : (a, b) ∈ s.B ↔ Tc (simOf kd es).bs a b :=
  ⟨fun q => h.snd (Tc (simOf kd es).bs) (fun _ _ _ => .step) (fun p hp => .base hp) (a, b) q, fun q => by
    induction q with
    | base q => exact h.base _ q
    | step _ _ h1 h2 => exact h.tr _ _ _ h1 h2⟩
theorem BSpec.Ls {n : Nat} {es : List Evt} {kd : Str} {s : Bst} (h : BSpec n es kd s) : s.L = (looksL es).length := Lof' h.hes
theorem sim_lt (kd : Str) (es : List Evt) (p : Nat) : ∀ o ∈ (simOf kd es).hs p, o < (looksL es).length := fun o ho => by
  have h1 := (sim_ok (decide (kd = "long")) (looksL es).length es sim0 (sim0_ok _)).lt p o ho
  have h2 := sim_k (decide (kd = "long")) (looksL es).length es sim0
  have h3 := cnt_looks es
  have h4 : sim0.k = 0 := rfl
  omega
theorem sim_len (kd : Str) (es : List Evt) (p : Nat) : ((simOf kd es).hs p).length ≤ (looksL es).length := by
  have h1 := (sim_ok (decide (kd = "long")) (looksL es).length es sim0 (sim0_ok _)).len p
  have h2 := sim_k (decide (kd = "long")) (looksL es).length es sim0
  have h3 := cnt_looks es
  have h4 : sim0.k = 0 := rfl
  show ((es.foldl (Sim.step _ _) sim0).hs p).length ≤ _
  omega
theorem brn_iff {n : Nat} {es : List Evt} {kd : Str} {s : Bst} (h : BSpec n es kd s) {i l : Nat} (hl : l < (looksL es).length) : decide (l ∈ brn s i) = kn (simOf kd es) i l := by
  have : (l ∈ brn s i) ↔ kn (simOf kd es) i l = true := by
    unfold brn
    rw [List.mem_filter, List.mem_range, h.Ls, kn_iff, Bool.or_eq_true, decide_eq_true_iff, decide_eq_true_iff, h.iff]
    exact ⟨fun z => z.2, fun z => ⟨hl, z⟩⟩
  cases e : kn (simOf kd es) i l with
  | true => exact decide_eq_true (this.mpr e)
  | false => exact decide_eq_false fun z => by rw [this.mp z] at e; cases e
noncomputable def heardB (kd : Str) (es : List Evt) (i p : Nat) : Bool := ((simOf kd es).hs p).any (kn (simOf kd es) i)
noncomputable def keptL (kd : Str) (n : Nat) (es : List Evt) (i : Nat) : List Nat := (List.range n).filter fun p => !heardB kd es i p
def C_kept (K : PySem.W.Frag) : List Ty → Ty → Prop := fun Rs R => ∃ n es kd i, TabOk n es ∧ i < (looksL es).length ∧ Rs = [tTab K n es, tSt kd, tN i] ∧ R = tNs (keptL kd n es i)
theorem sc_kept_people : FnScope ["timetable", "kind", "number", "bonds", "known", "person", "look"] ["timetable", "kind", "number"] (defScope s_kept_people) := ⟨rfl, rfl, rfl, by decide +kernel, rfl, by decide +kernel, by decide +kernel⟩
theorem ok_kept_people (T : Tx K mg) : FnOk PP w K mg base CX0 7 (He.fAd K d_kept_people.at_) (fdOf K d_kept_people.at_) ["timetable", "kind", "number"] (spR (C_kept K)) := by
  have G_B_init := ok_B_init T (w := w) (base := base)
  have G_branch := ok_branch T (w := w) (base := base)
  have G_B_has := ok_B_has T (w := w) (base := base)
  obtain ⟨ds, hI, bI⟩ := b_B_init0 T
  refine fn_ok T.F_kept_people sc_kept_people (by rintro _ _ ⟨n, es, kd, i, _, _, rfl, rfl⟩; rfl) fun Rs R hC cdv A outer s H E hr => ?_
  obtain ⟨n, es, kd, i, htab, hi, rfl, rfl⟩ := hC
  refine ⟨_, (pss_cons (ps_set (i := 3) sc_kept_people.nd rfl (Or.inr rfl) (pe_make T.k_Bonds G_B_init (hr.mono (by decide)) rfl T.g_Bonds bI hI pass0 (pa_cons (pv 0) (pa_cons (pv 1) pa_nil))))
      (pss_cons (ps_set (i := 4) sc_kept_people.nd rfl (Or.inr rfl) (pe_call G_branch (hr.mono (by decide)) rfl T.g_branch T.F_branch.kp T.b_branch .nil pass0 (pa_cons (pv 3) (pa_cons (pv 2) pa_nil))))
      (pss_one (ps_ret (pe_lc (own := [("person", 5)]) rfl sc_kept_people.nd (pi_range1 rfl T.f_range (pa_cons (pe_ix (r := rIxT K) ix_tup (pv 0) pe_int (fun _ _ => rfl)) pa_nil)) (blkOk_by (N := ["timetable", "kind", "number", "bonds", "known", "person", "look"]) (sc := _) (by kernel_rfl)) (fun _ _ _ _ _ => (pg_name (i := 5) sc_kept_people.nd rfl (Or.inl rfl))) (fun _ _ _ _ _ => pts_one (pt_not (pt_val (pe_callB (r := rAny K) (cr_any rfl) (by rfl) T.f_any (by decide +kernel) (pa_cons (pe_lc (own := [("look", 6)]) rfl sc_kept_people.nd (pi_listK K (pe_meth (pv 3) T.c_Bonds T.m_B_has G_B_has (hr.mono (by decide)) T.b_B_has .nil pass0 (pa_cons (pv 5) pa_nil))) (blkOk_by (N := ["timetable", "kind", "number", "bonds", "known", "person", "look"]) (sc := _) (by kernel_rfl)) (fun _ _ _ _ _ => (pg_name (i := 6) sc_kept_people.nd rfl (Or.inl rfl))) (fun _ _ _ _ _ => pts_nil) (fun _ _ _ _ _ => (pe_cmpR (r := rIn K false) op_in_seq (pv 6) (pv 4) (by with_unfolding_all rfl)))) pa_nil))))) (fun _ _ _ _ _ => (pv 5))))))), fun e => ?_⟩
  refine hr_set (RA := ExT (BSpec n es kd) (Bnd K)) (y_bonds0 T htab (ya_cons (y_var rfl) (ya_cons (y_var rfl) ya_nil))) (hr_exi (k := 3) rfl fun s hs => ?_)
  have h64 := htab.len
  have hn := htab.hn
  refine hr_set (RA := tNs (brn s i)) (y_call (ya_cons (y_var rfl) (ya_cons (y_var rfl) ya_nil)) ⟨s, i, by rw [hs.hes]; omega, rfl, rfl⟩) (hr_ret (Y.to (y_lc (xs := List.range n) (r := tN) (f := fun p => !(s.hs p).any fun l => decide (l ∈ brn s i)) (yi_range1 (ya_cons (y_ixT (n := 0) (R := tN n) (y_var rfl) y_c rfl rfl) ya_nil) (by omega)) (by decide) (by rw [List.length_range]; omega) (fun x hx => yg_name) (fun x hx => (yt_not (yt_B (y_any (xs := s.hs x) (y_lcA (xs := s.hs x) (r := tN) (yi_list (y_meth (C := C_B_has K) (y_var rfl) rfl (ya_cons (y_var rfl) ya_nil) ⟨s, x, by rw [hs.hn]; exact List.mem_range.mp hx, rfl, rfl⟩)) (by decide) (by rw [hs.hs]; show ((simOf kd es).hs x).length ≤ 50000; have := sim_len kd es x; have := htab.L; omega) (fun x hx => yg_name) (fun x hx => (y_inL (y_var rfl) (y_var rfl)))))))) (fun x hx hf => (y_var rfl))) ?_))
  refine congrArg tNs ?_
  unfold keptL
  refine List.filter_congr fun p _ => ?_
  unfold heardB
  rw [hs.hs]
  refine congrArg Bool.not ?_
  rw [Bool.eq_iff_iff, List.any_eq_true, List.any_eq_true]
  exact ⟨fun ⟨l, h1, h2⟩ => ⟨l, h1, by rw [← brn_iff hs (sim_lt kd es p l h1)]; exact h2⟩, fun ⟨l, h1, h2⟩ => ⟨l, h1, by rw [brn_iff hs (sim_lt kd es p l h1)]; exact h2⟩⟩
theorem sc_kept_from : FnScope ["timetable", "kind", "i", "own"] ["timetable", "kind", "i"] (defScope s_kept_from) := ⟨rfl, rfl, rfl, by decide +kernel, rfl, by decide +kernel, by decide +kernel⟩
theorem ok_kept_from (T : Tx K mg) : FnOk PP w K mg base CX0 8 (He.fAd K d_kept_from.at_) (fdOf K d_kept_from.at_) ["timetable", "kind", "i"] (spR (C_kept K)) := by
  have G_as_tuples := ok_as_tuples T 3 (w := w) (base := base)
  have G_check_look := ok_check_look T (w := w) (base := base)
  have G_kept_people := ok_kept_people T (w := w) (base := base)
  refine fn_ok T.F_kept_from sc_kept_from (by rintro _ _ ⟨n, es, kd, i, _, _, rfl, rfl⟩; rfl) fun Rs R hC cdv A outer s H E hr => ?_
  obtain ⟨n, es, kd, i, htab, hi, rfl, rfl⟩ := hC
  refine ⟨_, (pss_cons (ps_set (i := 3) sc_kept_from.nd rfl (Or.inl rfl) (pe_call G_as_tuples (hr.mono (by decide)) rfl T.g_as_tuples T.F_as_tuples.kp T.b_as_tuples .nil pass0 (pa_cons (pv 0) pa_nil)))
      (pss_cons (ps_expr (pe_call G_check_look (hr.mono (by decide)) rfl T.g_check_look T.F_check_look.kp T.b_check_look .nil pass0 (pa_cons (pv 3) (pa_cons (pv 2) pa_nil))))
      (pss_one (ps_ret (pe_call G_kept_people (hr.mono (by decide)) rfl T.g_kept_people T.F_kept_people.kp T.b_kept_people .nil pass0 (pa_cons (pv 3) (pa_cons (pv 1) (pa_cons (pv 2) pa_nil)))))))), fun e => ?_⟩
  have h64 := htab.len
  exact hr_set (RA := tTab K n es) (y_call (ya_cons (y_var rfl) ya_nil) (tab_as (by omega))) (hr_drop (RA := Is .non) (y_call (ya_cons (y_var rfl) (ya_cons (y_var rfl) ya_nil)) ⟨n, es, i, by omega, hi, rfl, rfl⟩) (hr_ret (y_call (ya_cons (y_var rfl) (ya_cons (y_var rfl) (ya_cons (y_var rfl) ya_nil))) ⟨n, es, kd, i, htab, hi, rfl, rfl⟩)))
end
end HF
set_option maxHeartbeats 400000
namespace HF
open PySem PyProof.Rows L2 Evl
section
variable {w : World} {K : PySem.W.Frag} {mg : Str → Option Value} {base : Heap}
theorem FunS.binds1 {d : He.DefD} {f f2 : Addr} {m : Str} {fd : FuncData} {ps : List Str} (F : FunS K d f f2 m fd) (n j : Nat) (hd : d.dvs K ≠ []) (hn : n + ((d.dvs K).length - j) = ps.length)
    (h : ∀ (T : Addr) (kV doc pm : Value) (an : Option Addr) (cdv ct : Value) (cc : Addr) (us its : List Value), us.length = n → its.length = (d.dvs K).length →
      ∃ k, bindArgs (PySem.W.fnX d.name d.qual d.params d.body d.scope [(("__class__" : Str), cc)] (.ref T) kV doc pm an cdv ct) ⟨us, []⟩ = seqItems? (.ref T) >>= k ∧ k (some its.toArray) = pure (ps.zip (us ++ its.drop j))) : ∃ ds, Vals ((d.dvs K).drop j) ds ∧ Binds K fd ps ds := by
  obtain ⟨oc, od, dV, kV, doc, pm, an, cda, ct, osl, cc, rfl, lk, hcd, hD, O⟩ := F.ex
  rcases hD with ⟨e, _⟩ | ⟨_, T, o, its, m, rfl, lT, oT, rT⟩
  · exact absurd e hd
  · refine ⟨its.drop j, rT.drop j, fun s us X hlen => ?_⟩
    have l1 : its.length = (d.dvs K).length := rT.length.symm
    have l2 : us.length = n := by
      rw [List.length_append, List.length_drop, l1] at hlen
      omega
    obtain ⟨k, e1, e2⟩ := h T kV doc pm an (.ref cda) ct cc us its l2 l1
    refine BindsTo.of_looks fun M => ?_
    rw [e1]
    exact looks_items X lT oT (.of_pure e2)
theorem b_K_init0 (T : Tx K mg) : ∃ ds, Vals [V.bl false] ds ∧ Binds K (fdOf K d_K_init.at_) ["self", "timetable", "kind", "wishes", "is_chain"] ds :=
  FunS.binds1 (ps := ["self", "timetable", "kind", "wishes", "is_chain"]) T.F_K_init 4 0 (by intro h; cases h) rfl fun _ _ _ _ _ _ _ _ us its h1 h2 => match us, its, h1, h2 with | [_, _, _, _], [_], _, _ => ⟨_, rfl, rfl⟩
theorem b_K_init5 (T : Tx K mg) : Binds K (fdOf K d_K_init.at_) ["self", "timetable", "kind", "wishes", "is_chain"] [] := by
  obtain ⟨ds, h1, h2⟩ := FunS.binds1 (ps := ["self", "timetable", "kind", "wishes", "is_chain"]) T.F_K_init 5 1 (by intro h; cases h) rfl fun _ _ _ _ _ _ _ _ us its h1 h2 => match us, its, h1, h2 with | [_, _, _, _, _], [_], _, _ => ⟨_, rfl, rfl⟩
  cases h1
  exact h2
section
variable {Γ : Ctx} {μ : Mt} {R : Ty} {Rs : List Ty} {ta : TE} {tr : TA} {n i : Nat} {es : List Evt} {kd : Str} {ps : List Nat} {ch : Bool}
theorem y_keep0 (htab : TabOk n es) (hi : i ≤ 1000) (hps : ∀ p ∈ ps, p < n) (hpl : ps.length ≤ 64) (hA : YA tr Γ μ [tTab K n es, tSt kd, tWi K i ps]) : Y (tMake (He.ga K "Keeping") (sp_K_init K) [V.bl false] E0 tr) Γ μ (ExT (BSpec n es kd) fun s => Kee K ⟨s, barOf s.hs i ps⟩) := fun σ H0 H S Q q =>
  hA σ H0 H S _ fun vs K1 H1 g1 r1 => by
    obtain ⟨tt, kdv, wi, rfl, htt, hkd, hwi⟩ := r1.three
    obtain rfl : kdv = V.str kd := hkd
    intro x dx nx nd ndx
    exact ⟨K1, H1, x, dx, n, es, kd, tt, wi, i, ps, false, g1.p, nx, nd, ndx, rfl, htab, htt, hwi, hi, hps, hpl, rfl, fun s K2 H2 hs g2 r2 => ⟨rfl, q _ K2 H2 (g1.trans g2) ⟨s, hs, r2⟩⟩⟩
theorem y_keep1 (htab : TabOk n es) (hi : i ≤ 1000) (hps : ∀ p ∈ ps, p < n) (hpl : ps.length ≤ 64) (hA : YA tr Γ μ [tTab K n es, tSt kd, tWi K i ps, tBo ch]) : Y (tMake (He.ga K "Keeping") (sp_K_init K) [] E0 tr) Γ μ (ExT (BSpec n es kd) fun s => Kee K ⟨s, barOf s.hs i ps⟩) := fun σ H0 H S Q q =>
  hA σ H0 H S _ fun vs K1 H1 g1 r1 => by
    obtain ⟨tt, vs1, rfl⟩ : ∃ tt vs1, vs = tt :: vs1 := by
      cases vs with
      | nil => exact r1.elim
      | cons a b => exact ⟨a, b, rfl⟩
    obtain ⟨htt, r2⟩ := r1
    obtain ⟨kdv, wi, cv, rfl, hkd, hwi, hch⟩ := AllR.three r2
    obtain rfl : kdv = V.str kd := hkd
    obtain rfl : cv = V.bl ch := hch
    intro x dx nx nd ndx
    exact ⟨K1, H1, x, dx, n, es, kd, tt, wi, i, ps, ch, g1.p, nx, nd, ndx, rfl, htab, htt, hwi, hi, hps, hpl, rfl, fun s K2 H2 hs g2 r2 => ⟨rfl, q _ K2 H2 (g1.trans g2) ⟨s, hs, r2⟩⟩⟩
theorem y_methE {α : Type} {P : α → Prop} {C : List Ty → Ty → Prop} {E : XK} {D : Addr} {Fs : α → List (Str × Ty)} {m : Str} (ho : Y ta Γ μ (ExT P fun a => Ins D (Fs a))) (hm : ∀ a, (Fs a).lookup m = none) (hA : YA tr Γ μ Rs) (hC : ∀ a, P a → C (Ins D (Fs a) :: Rs) R) : Y (tMeth D m (spR C) [] E ta tr) Γ μ R := fun σ H0 H s Q q =>
  ho σ H0 H s _ fun x H1 G1 g1 r1 => by
    obtain ⟨a, pa, r1⟩ := r1
    obtain ⟨x, dx, fs, rfl, h1, h2, h3⟩ := id r1
    refine ⟨x, dx, fs, rfl, g1.p x _ h1, lookup_none_of_keys h2 (hm a), ?_⟩
    refine hA σ H1 G1 (s.gr g1) _ fun vs H2 G2 g2 r2 => ?_
    refine ⟨H2, Ins D (Fs a) :: Rs, R, hC a pa, g2.p, ⟨(Ins D (Fs a)).m _ _ _ g2.e0 r1, by rw [List.append_nil]; exact r2⟩, fun v H3 G3 g3 r3 => q _ _ _ ((g1.trans g2).trans g3) r3⟩
end
/-! ### fine or not: plainly -/
theorem exists_least {part : List Nat} {P : Nat → Prop} : ∀ y, y ∈ part → P y → ∃ x ∈ part, P x ∧ ∀ z ∈ part, P z → x ≤ z := by
  intro y
  induction y using Nat.strongRecOn with
  | _ y ih =>
    intro hy hP
    by_cases h : ∃ z ∈ part, P z ∧ z < y
    · obtain ⟨z, hz, hPz, hlt⟩ := h
      exact ih z hlt hz hPz
    · exact ⟨y, hy, hP, fun z hz hPz => Nat.le_of_not_lt fun hlt => h ⟨z, hz, hPz, hlt⟩⟩
theorem first_of {k : Kst} {part : List Nat} {x : Nat} (h : ∀ o ∈ part, o ≠ x → k.stops x o = false) : k.first part x = true := by
  unfold Kst.first
  have : ((part.filter fun o => !decide (o = x)).any fun o => k.stops x o) = false := List.any_eq_false.mpr fun o ho => by
    obtain ⟨h1, h2⟩ := List.mem_filter.mp ho
    rw [h o h1 (by simpa using h2)]
    decide
  rw [this]
  rfl
theorem bars_ne {s : Bst} {i x o : Nat} {ps : List Nat} (h : x ≠ i) : Kst.bars ⟨s, barOf s.hs i ps⟩ x o = false := by
  unfold Kst.bars barOf
  cases ps with
  | nil => rfl
  | cons p ps =>
    have : (x == i) = false := by simpa using h
    simp [List.lookup, this]
theorem bars_i {s : Bst} {i o : Nat} {ps : List Nat} (h : Kst.bars ⟨s, barOf s.hs i ps⟩ i o = true) : o < i ∨ ∃ p ∈ ps, o ∈ s.hs p := by
  unfold Kst.bars barOf at h
  cases ps with
  | nil => simp at h
  | cons p ps =>
    have h2 : o ∈ List.range i ++ (p :: ps).flatMap s.hs := by simpa [List.lookup] using h
    rcases List.mem_append.mp h2 with h2 | h2
    · exact .inl (List.mem_range.mp h2)
    · obtain ⟨q, hq, ho⟩ := List.mem_flatMap.mp h2
      exact .inr ⟨q, hq, ho⟩
theorem good_away {n i : Nat} {es : List Evt} {kd : Str} {s : Bst} {ps : List Nat} (hs : BSpec n es kd s) (ha : ∀ p ∈ ps, heardB kd es i p = false) : (∀ q ∈ barOf s.hs i ps, q.1 ∉ q.2) ∧ Kst.Good ⟨s, barOf s.hs i ps⟩ := by
  have hno : ∀ p ∈ ps, ∀ o ∈ s.hs p, kn (simOf kd es) i o = false := fun p hp o ho => by
    have h1 := ha p hp
    unfold heardB at h1
    rw [hs.hs] at ho
    simpa using List.any_eq_false.mp h1 o ho
  have hi : kn (simOf kd es) i i = true := kn_iff.mpr (.inl rfl)
  constructor
  · intro q hq hqi
    unfold barOf at hq
    cases ps with
    | nil => nomatch hq
    | cons p ps =>
      have e : q = (i, List.range i ++ (p :: ps).flatMap s.hs) := by simpa using hq
      rw [e] at hqi
      rcases List.mem_append.mp hqi with h | h
      · exact absurd (List.mem_range.mp h) (Nat.lt_irrefl _)
      · obtain ⟨r, hr, ho⟩ := List.mem_flatMap.mp h
        have := hno r hr i ho
        rw [hi] at this
        cases this
  · intro part hne hnd hlt
    by_cases hu : ∃ y ∈ part, kn (simOf kd es) i y = false
    · obtain ⟨y, hy, hy2⟩ := hu
      obtain ⟨x, hx, hxu, hmin⟩ := exists_least (P := fun y => kn (simOf kd es) i y = false) y hy hy2
      refine ⟨x, hx, first_of fun o ho hne => ?_⟩
      have hxi : x ≠ i := fun z => by rw [z, hi] at hxu; cases hxu
      unfold Kst.stops
      rw [bars_ne hxi, Bool.false_or]
      refine decide_eq_false fun hB => ?_
      have hlt := hs.lt _ hB
      cases ho2 : kn (simOf kd es) i o with
      | false => have := hmin o ho ho2; simp at hlt; omega
      | true =>
        have hkx : kn (simOf kd es) i x = true := by
          rcases kn_iff.mp ho2 with rfl | h
          · exact kn_iff.mpr (.inr (hs.iff.mp hB))
          · exact kn_iff.mpr (.inr (h.step (hs.iff.mp hB)))
        rw [hkx] at hxu
        cases hxu
    · have hall : ∀ y ∈ part, kn (simOf kd es) i y = true := fun y hy => by
        cases e : kn (simOf kd es) i y with
        | true => rfl
        | false => exact absurd ⟨y, hy, e⟩ hu
      obtain ⟨y, hy⟩ := List.exists_mem_of_ne_nil _ hne
      obtain ⟨x, hx, _, hmin⟩ := exists_least (P := fun _ => True) y hy trivial
      refine ⟨x, hx, first_of fun o ho hne => ?_⟩
      unfold Kst.stops
      have hB : decide ((o, x) ∈ s.B) = false := decide_eq_false fun hB => by
        have := hs.lt _ hB
        have := hmin o ho trivial
        simp at *
        omega
      rw [hB, Bool.or_false]
      by_cases hxi : x = i
      · subst hxi
        cases e : Kst.bars ⟨s, barOf s.hs x ps⟩ x o with
        | false => rfl
        | true =>
          rcases bars_i e with h | ⟨p, hp, h⟩
          · rcases kn_iff.mp (hall o ho) with h2 | h2
            · exact absurd h2 hne
            · have := hs.lt _ (hs.iff.mpr h2)
              simp at this
              omega
          · have := hno p hp o h
            rw [hall o ho] at this
            cases this
      · exact bars_ne hxi
theorem bad_heard {n i p : Nat} {es : List Evt} {kd : Str} {s : Bst} (hs : BSpec n es kd s) (ha : heardB kd es i p = true) : (∃ q ∈ barOf s.hs i [p], q.1 ∈ q.2) ∨ ∃ m, Kst.Bad ⟨s, barOf s.hs i [p]⟩ i m ∧ i < s.L ∧ m < s.L := by
  obtain ⟨l, hl, hk⟩ := List.any_eq_true.mp ha
  rw [← hs.hs] at hl
  have hmem : l ∈ List.range i ++ [p].flatMap s.hs := List.mem_append_right _ (by simpa using hl)
  rcases kn_iff.mp hk with rfl | h
  · exact .inl ⟨(l, List.range l ++ [p].flatMap s.hs), by unfold barOf; simp, hmem⟩
  · have hB := hs.iff.mpr h
    have hlt := hs.lt _ hB
    have hbb := hs.ok.bb _ hB
    refine .inr ⟨l, ⟨fun z => by simp [z] at hlt, ?_, ?_, hs.al _ hB⟩, hbb.1, hbb.2⟩
    · unfold Kst.stops
      have : Kst.bars ⟨s, barOf s.hs i [p]⟩ i l = true := by
        unfold Kst.bars barOf
        simpa [List.lookup] using hmem
      rw [this]
      rfl
    · unfold Kst.stops
      rw [decide_eq_true hB, Bool.or_true]
def WayIs (kd : Str) (es : List Evt) (i : Nat) (ps : List Nat) (R : Ty) : Prop := ((∀ p ∈ ps, heardB kd es i p = false) ∧ R = tSt "delay") ∨ (∃ p, ps = [p] ∧ heardB kd es i p = true ∧ R = tSt "no")
def C_way_of (K : PySem.W.Frag) : List Ty → Ty → Prop := fun Rs R => ∃ n es kd i ps, TabOk n es ∧ i < (looksL es).length ∧ (∀ p ∈ ps, p < n) ∧ ps.length ≤ 64 ∧ Rs = [tTab K n es, tSt kd, tWi K i ps] ∧ WayIs kd es i ps R
theorem fine_C {n i : Nat} {es : List Evt} {kd : Str} {s : Bst} {ps : List Nat} {R : Ty} (hs : BSpec n es kd s) (htab : TabOk n es)
    (h : ((∃ p ∈ barOf s.hs i ps, p.1 ∈ p.2) ∧ R = tBo false) ∨ ((∀ p ∈ barOf s.hs i ps, p.1 ∉ p.2) ∧ Kst.Good ⟨s, barOf s.hs i ps⟩ ∧ R = tBo true) ∨ (∃ a m, Kst.Bad ⟨s, barOf s.hs i ps⟩ a m ∧ a < s.L ∧ m < s.L ∧ R = tBo false)) : C_K_is_fine K [Kee K ⟨s, barOf s.hs i ps⟩] R := by
  have h64 := htab.len
  refine ⟨⟨s, barOf s.hs i ps⟩, hs.ok.sym, by show s.es.length ≤ 1000; rw [hs.hes]; omega, by show s.L ≤ 8; exact hs.ok.L8, ?_, ?_, rfl, h⟩
  · show ((barOf s.hs i ps).map (·.1)).Nodup
    unfold barOf
    cases ps <;> simp
  · show (barOf s.hs i ps).length ≤ 1000
    unfold barOf
    cases ps <;> simp
theorem sc_way_of : FnScope ["timetable", "kind", "wishes"] ["timetable", "kind", "wishes"] (defScope s_way_of) := ⟨rfl, rfl, rfl, by decide +kernel, rfl, by decide +kernel, by decide +kernel⟩
theorem ok_way_of (T : Tx K mg) : FnOk PP w K mg base CX0 16 (He.fAd K d_way_of.at_) (fdOf K d_way_of.at_) ["timetable", "kind", "wishes"] (spR (C_way_of K)) := by
  have G_K_init := ok_K_init T (w := w) (base := base)
  have G_K_is_fine := ok_K_is_fine T (w := w) (base := base)
  obtain ⟨ds, hK, bK⟩ := b_K_init0 T
  refine fn_ok T.F_way_of sc_way_of (by rintro _ _ ⟨n, es, kd, i, ps, _, _, _, _, rfl, _⟩; rfl) fun Rs R hC cdv A outer s H E hr => ?_
  obtain ⟨n, es, kd, i, ps, htab, hi, hps, hpl, rfl, hR⟩ := hC
  refine ⟨_, (pss_cons (ps_if (pt_not (pt_val (pe_meth0 (pe_make T.k_Keeping G_K_init (hr.mono (by decide)) rfl T.g_Keeping bK hK pass0 (pa_cons (pv 0) (pa_cons (pv 1) (pa_cons (pv 2) pa_nil)))) T.c_Keeping T.m_K_is_fine G_K_is_fine (hr.mono (by decide)) T.b_K_is_fine .nil pass0))) (pss_one (ps_ret (pe_S rfl T.s_NO))) pss_nil)
      (pss_one (ps_ret (pe_ifExp (pt_val (pe_meth0 (pe_make T.k_Keeping G_K_init (hr.mono (by decide)) rfl T.g_Keeping (b_K_init5 T) .nil pass0 (pa_cons (pv 0) (pa_cons (pv 1) (pa_cons (pv 2) (pa_cons pe_bl pa_nil))))) T.c_Keeping T.m_K_is_fine G_K_is_fine (hr.mono (by decide)) T.b_K_is_fine .nil pass0)) (pe_S rfl T.s_DELAY) (pe_S rfl T.s_FORK))))), fun e => ?_⟩
  have hL8 := htab.L
  rcases hR with ⟨ha, rfl⟩ | ⟨p, rfl, ha, rfl⟩
  · exact hr_ifr (yt_not (b := true) (yt_B (y_methE (y_keep0 htab (by omega) hps hpl (ya_cons (y_var rfl) (ya_cons (y_var rfl) (ya_cons (y_var rfl) ya_nil)))) (fun _ => rfl) ya_nil fun s hs => fine_C hs htab (.inr (.inl ⟨(good_away hs ha).1, (good_away hs ha).2, rfl⟩))))) (fun h => nomatch h) (fun _ => hr_ret (y_if (b := true) (yt_B (y_methE (y_keep1 (ch := true) htab (by omega) hps hpl (ya_cons (y_var rfl) (ya_cons (y_var rfl) (ya_cons (y_var rfl) (ya_cons y_c ya_nil))))) (fun _ => rfl) ya_nil fun s hs => fine_C hs htab (.inr (.inl ⟨(good_away hs ha).1, (good_away hs ha).2, rfl⟩)))) (fun _ => y_c) (fun h => nomatch h)))
  · exact hr_ifr (yt_not (b := false) (yt_B (y_methE (y_keep0 htab (by omega) hps hpl (ya_cons (y_var rfl) (ya_cons (y_var rfl) (ya_cons (y_var rfl) ya_nil)))) (fun _ => rfl) ya_nil fun s hs => fine_C hs htab ((bad_heard hs ha).elim (fun h => .inl ⟨h, rfl⟩) fun ⟨m, h1, h2, h3⟩ => .inr (.inr ⟨i, m, h1, h2, h3, rfl⟩))))) (fun _ => hr_ret y_c) (fun h => nomatch h)
def C_keep_way (K : PySem.W.Frag) : List Ty → Ty → Prop := fun Rs R => ∃ n es kd i ps, TabOk n es ∧ i < (looksL es).length ∧ (∀ p ∈ ps, p < n) ∧ ps.length ≤ 64 ∧ Rs = [tTab K n es, tSt kd, tN i, tNs ps] ∧ WayIs kd es i ps R
theorem way_ty {kd : Str} {es : List Evt} {i : Nat} {ps : List Nat} {R : Ty} (h : WayIs kd es i ps R) : ∃ z, R = tSt z := by
  rcases h with ⟨_, rfl⟩ | ⟨_, _, _, rfl⟩ <;> exact ⟨_, rfl⟩
theorem sc_keep_way : FnScope ["timetable", "kind", "i", "people", "own", "person"] ["timetable", "kind", "i", "people"] (defScope s_keep_way) := ⟨rfl, rfl, rfl, by decide +kernel, rfl, by decide +kernel, by decide +kernel⟩
theorem ok_keep_way (T : Tx K mg) : FnOk PP w K mg base CX0 17 (He.fAd K d_keep_way.at_) (fdOf K d_keep_way.at_) ["timetable", "kind", "i", "people"] (spR (C_keep_way K)) := by
  have G_as_tuples := ok_as_tuples T 3 (w := w) (base := base)
  have G_check_look := ok_check_look T (w := w) (base := base)
  have G_check_people := ok_check_people T (w := w) (base := base)
  have G_way_of := ok_way_of T (w := w) (base := base)
  refine fn_ok T.F_keep_way sc_keep_way (by rintro _ _ ⟨n, es, kd, i, ps, _, _, _, _, rfl, _⟩; rfl) fun Rs R hC cdv A outer s H E hr => ?_
  obtain ⟨n, es, kd, i, ps, htab, hi, hps, hpl, rfl, hR⟩ := hC
  refine ⟨_, (pss_cons (ps_set (i := 4) sc_keep_way.nd rfl (Or.inl rfl) (pe_call G_as_tuples (hr.mono (by decide)) rfl T.g_as_tuples T.F_as_tuples.kp T.b_as_tuples .nil pass0 (pa_cons (pv 0) pa_nil)))
      (pss_cons (ps_expr (pe_call G_check_look (hr.mono (by decide)) rfl T.g_check_look T.F_check_look.kp T.b_check_look .nil pass0 (pa_cons (pv 4) (pa_cons (pv 2) pa_nil))))
      (pss_cons (ps_expr (pe_call G_check_people (hr.mono (by decide)) rfl T.g_check_people T.F_check_people.kp T.b_check_people .nil pass0 (pa_cons (pv 4) (pa_cons (pv 3) pa_nil))))
      (pss_one (ps_ret (pe_call G_way_of (hr.mono (by decide)) rfl T.g_way_of T.F_way_of.kp T.b_way_of .nil pass0 (pa_cons (pv 4) (pa_cons (pv 1) (pa_cons (pe_lc (own := [("person", 5)]) rfl sc_keep_way.nd (pi_listK K (pv 3)) (blkOk_by (N := ["timetable", "kind", "i", "people", "own", "person"]) (sc := _) (by kernel_rfl)) (fun _ _ _ _ _ => (pg_name (i := 5) sc_keep_way.nd rfl (Or.inl rfl))) (fun _ _ _ _ _ => pts_nil) (fun _ _ _ _ _ => (pe_tup (pa_cons (pv 2) (pa_cons (pv 5) pa_nil))))) pa_nil))))))))), fun e => ?_⟩
  have h64 := htab.len
  exact hr_set (RA := tTab K n es) (y_call (ya_cons (y_var rfl) ya_nil) (tab_as (by omega))) (hr_drop (RA := Is .non) (y_call (ya_cons (y_var rfl) (ya_cons (y_var rfl) ya_nil)) ⟨n, es, i, by omega, hi, rfl, rfl⟩) (hr_drop (RA := Is .non) (y_call (ya_cons (y_var rfl) (ya_cons (y_var rfl) ya_nil)) ⟨n, es, ps, hps, rfl, rfl⟩) (hr_ret (y_call (ya_cons (y_var rfl) (ya_cons (y_var rfl) (ya_cons (y_lcA (xs := ps) (r := tN) (o := fun p => Tup K [tN i, tN p]) (yi_list (y_var rfl)) (by decide) (by omega) (fun x hx => yg_name) (fun x hx => (y_tup (ya_cons (y_var rfl) (ya_cons (y_var rfl) ya_nil)) (by show 2 ≤ 100000; decide)))) ya_nil))) ⟨n, es, kd, i, ps, htab, hi, hps, hpl, rfl, hR⟩))))
end
end HF
set_option maxHeartbeats 400000
namespace HF
open PySem PyProof.Rows L2 Evl
section
variable {w : World} {K : PySem.W.Frag} {mg : Str → Option Value} {base : Heap}
abbrev castL (ns : List Nat) : List Int := ns.map fun n : Nat => (n : Int)
abbrev tLL (K : PySem.W.Frag) (Ls : List (List Nat)) : Ty := Lst (Ls.map fun ns => Tup K (ns.map tN))
/-- sorted, each once -/
structure LexS (Ls : List (List Nat)) : Prop where
  nd : Ls.Nodup
  pw : Ls.Pairwise fun q r => HT.lexLt (castL r) (castL q) = false
theorem castL_inj {a b : List Nat} (h : castL a = castL b) : a = b := by
  have := congrArg (List.map Int.toNat) h
  have e : ∀ l : List Nat, (castL l).map Int.toNat = l := fun l => by
    show (l.map _).map _ = l
    rw [List.map_map]
    conv => rhs; rw [← List.map_id l]
    exact List.map_congr_left fun n _ => by simp
  rwa [e, e] at this
theorem LexS.uniq {Ls Ms : List (List Nat)} (h : LexS Ls) (k : LexS Ms) (e : ∀ ns, ns ∈ Ls ↔ ns ∈ Ms) : Ls = Ms := by
  refine List.Perm.eq_of_pairwise (le := fun q r => HT.lexLt (castL r) (castL q) = false) (fun a b _ _ h1 h2 => ?_) h.pw k.pw ((List.perm_ext_iff_of_nodup h.nd k.nd).mpr e)
  exact castL_inj (lex_tot _ _ h2 h1)
section
variable {Γ : Ctx} {μ : Mt} {ta : TE} {xs : List (List Nat)}
theorem tups_of {H : Hp} : ∀ {vs : List V} {xs : List (List Nat)}, AllR vs (xs.map fun ns => Tup K (ns.map tN)) H → ∃ ks : List (Addr × List Int), vs = ks.map (fun p => V.ref p.1) ∧ ks.map (·.2) = xs.map castL ∧ ∀ p ∈ ks, SqT K H p.1 (p.2.map V.int)
  | [], [], _ => ⟨[], rfl, rfl, fun _ h => (nomatch h)⟩
  | v :: vs, x :: xs, h => by
    obtain ⟨⟨a, ws, rfl, h1, h2⟩, h3⟩ := h
    obtain ⟨ks, rfl, k2, k3⟩ := tups_of h3
    refine ⟨(a, castL x) :: ks, rfl, by simp [k2], fun p hp => ?_⟩
    rcases List.mem_cons.mp hp with rfl | hp
    · show SqT K H a ((castL x).map V.int)
      rw [← nats_int, ← h2.nats]
      exact h1
    · exact k3 p hp
  | [], _ :: _, h => h.elim
  | _ :: _, [], h => h.elim
theorem y_ssetT (ha : Y ta Γ μ (tLL K xs)) (hne : ∀ ns ∈ xs, ns ≠ []) (hl : xs.length < 64) : Y (tCB (rSrtV K PP w) (tCons (tCB (rSetOfT K PP w) (tCons ta tNil)) tNil)) Γ μ (ExT (fun Ls => LexS Ls ∧ ∀ ns, ns ∈ Ls ↔ ns ∈ xs) (tLL K)) := fun σ H0 H s Q q =>
  ha σ H0 H s _ fun x H1 G1 g1 r1 => by
    obtain ⟨a, vs, rfl, h1, h2⟩ := r1
    obtain ⟨ks, rfl, k2, k3⟩ := tups_of h2
    have hkl : ks.length = xs.length := by simpa using congrArg List.length k2
    refine ⟨a, ks, rfl, sq_of (g1.p a _ h1), fun p hp => ex_t g1.p (k3 p hp), by omega, fun b L hb hL1 hL2 => ?_⟩
    have g2 := g1.trans (Gr.new (o := SetTO PP w b L) g1.p hb)
    have hcast : ∀ p ∈ L, ∃ ns ∈ xs, p.2 = castL ns := fun p hp => by
      have : p.2 ∈ ks.map (·.2) := List.mem_map_of_mem (hL1 p hp)
      rw [k2] at this
      obtain ⟨ns, h3, h4⟩ := List.mem_map.mp this
      exact ⟨ns, h3, h4.symm⟩
    refine ⟨b, L, rfl, upd_same, fun p hp => ex_t (Ex.new hb) (ex_t g1.p (k3 p (hL1 p hp))), fun p hp => ?_, fun L' p hperm hnd hlen hpw hp => ?_⟩
    · obtain ⟨ns, h3, h4⟩ := hcast p hp
      rw [h4]
      intro z
      have : ns = [] := by simpa using z
      exact hne ns h3 this
    · have g3 := g2.trans (Gr.new (o := .lst (L'.map fun q => V.ref q.1)) g2.p hp)
      -- the numbers back
      have back : ∀ q ∈ L', ∃ ns ∈ xs, q.2 = castL ns := fun q hq => hcast q (hperm.mem_iff.mp hq)
      have e1 : ∀ l : List Nat, (castL l).map Int.toNat = l := fun l => by
        show (l.map _).map _ = l
        rw [List.map_map]
        conv => rhs; rw [← List.map_id l]
        exact List.map_congr_left fun n _ => by simp
      let Ls := L'.map fun q => q.2.map Int.toNat
      have hLs : Ls.map castL = L'.map (·.2) := by
        show (L'.map _).map _ = _
        rw [List.map_map]
        refine List.map_congr_left fun q hq => ?_
        obtain ⟨ns, _, h4⟩ := back q hq
        show castL (q.2.map Int.toNat) = q.2
        rw [h4, e1]
      refine q _ _ _ g3 ⟨Ls, ⟨⟨?_, ?_⟩, fun ns => ?_⟩, p, _, rfl, upd_same, ?_⟩
      · have h5 : (Ls.map castL).Nodup := by rw [hLs]; exact hnd
        unfold List.Nodup at h5 ⊢
        rw [List.pairwise_map] at h5
        exact h5.imp fun h z => h (congrArg _ z)
      · have h5 : (L'.map (·.2)).Pairwise fun q r => HT.lexLt r q = false := by
          rw [List.pairwise_map]
          exact hpw
        rw [← hLs, List.pairwise_map] at h5
        exact h5
      · constructor
        · intro h
          obtain ⟨q, hq, e⟩ := List.mem_map.mp h
          obtain ⟨ms, h3, h4⟩ := back q hq
          have : ns = ms := by rw [← e]; show q.2.map Int.toNat = ms; rw [h4, e1]
          rw [this]
          exact h3
        · intro h
          have h6 : castL ns ∈ ks.map (·.2) := by rw [k2]; exact List.mem_map_of_mem h
          obtain ⟨q, hq, e⟩ := List.mem_map.mp h6
          have h7 := hL2 q hq
          obtain ⟨r, hr, e2⟩ := List.mem_map.mp h7
          refine List.mem_map.mpr ⟨r, hperm.mem_iff.mpr hr, ?_⟩
          show r.2.map Int.toNat = ns
          have : r.2 = castL ns := by rw [e2]; exact e
          rw [this, e1]
      · have hall : ∀ (M : List (Addr × List Int)) (Hx : Hp), (∀ q ∈ M, SqT K Hx q.1 (q.2.map V.int) ∧ ∃ ns, q.2 = castL ns) → AllR (M.map fun q => V.ref q.1) ((M.map fun q => q.2.map Int.toNat).map fun ns => Tup K (ns.map tN)) Hx := fun M => by
          induction M with
          | nil => intro Hx _; trivial
          | cons m M ih =>
            intro Hx hM
            obtain ⟨h8, ns, h9⟩ := hM m List.mem_cons_self
            refine ⟨⟨m.1, m.2.map V.int, rfl, h8, ?_⟩, ih Hx fun q hq => hM q (List.mem_cons_of_mem _ hq)⟩
            show AllR (m.2.map V.int) ((m.2.map Int.toNat).map tN) Hx
            rw [h9, e1, ← nats_int]
            exact AllR.ofNats
        refine hall L' _ fun q hq => ⟨?_, ?_⟩
        · have h10 := k3 q (hL1 q (hperm.mem_iff.mp hq))
          exact ex_t ((Gr.new (o := SetTO PP w b L) g1.p hb).e0.trans (Gr.new (o := .lst (L'.map fun q => V.ref q.1)) g2.p hp).e0) h10
        · obtain ⟨ns, _, h4⟩ := back q hq
          exact ⟨ns, h4⟩
end
/-! ### everybody who looked has it still -/
structure Held (L n : Nat) (c : Sim) : Prop where
  h : ∀ l, l < c.k → ∃ p, p < n ∧ l ∈ c.hs p
theorem mem_cmp {long meet : Bool} {L : Nat} {hs : Nat → List Nat} {p q x l : Nat} (hl : l < L) (h : l ∈ hs x) : l ∈ cmpHs long L hs meet p q x := by
  unfold cmpHs
  have hu : ∀ y, y = p ∨ y = q → l ∈ hs y → l ∈ up L (hs p ++ hs q) := fun y hy hm => by
    unfold up
    refine List.mem_filter.mpr ⟨List.mem_range.mpr hl, decide_eq_true (List.mem_append.mpr ?_)⟩
    rcases hy with rfl | rfl
    · exact .inl hm
    · exact .inr hm
  cases long with
  | false => exact h
  | true =>
    rw [if_pos rfl]
    cases meet with
    | true =>
      rw [if_pos rfl]
      unfold upd1
      by_cases e1 : x = p
      · rw [if_pos e1]; exact hu x (.inl e1) h
      · rw [if_neg e1]
        by_cases e2 : x = q
        · rw [if_pos e2]; exact hu x (.inr e2) h
        · rw [if_neg e2]; exact h
    | false =>
      rw [if_neg (by decide)]
      unfold upd1
      by_cases e2 : x = q
      · rw [if_pos e2]; exact hu x (.inr e2) h
      · rw [if_neg e2]; exact h
theorem Held.step {long : Bool} {L n : Nat} {c : Sim} (h : Held L n c) (hk : c.k ≤ L) {e : Evt} (he : EvOk n e) : Held L n (c.step long L e) := by
  refine ⟨fun l hl => ?_⟩
  cases e with
  | look p =>
    have hl' : l < c.k + 1 := hl
    by_cases e : l = c.k
    · refine ⟨p, he, ?_⟩
      show l ∈ upd1 c.hs p (c.hs p ++ [c.k]) p
      unfold upd1
      rw [if_pos rfl, e]
      exact List.mem_append_right _ List.mem_cons_self
    · obtain ⟨q, hq, hm⟩ := h.h l (by omega)
      refine ⟨q, hq, ?_⟩
      show l ∈ upd1 c.hs p (c.hs p ++ [c.k]) q
      unfold upd1
      split
      · rename_i e2
        rw [← e2]
        exact List.mem_append_left _ hm
      · exact hm
  | meet p q =>
    obtain ⟨x, hx, hm⟩ := h.h l hl
    have hl2 : l < c.k := hl
    exact ⟨x, hx, mem_cmp (by omega) hm⟩
  | tell p q =>
    obtain ⟨x, hx, hm⟩ := h.h l hl
    have hl2 : l < c.k := hl
    exact ⟨x, hx, mem_cmp (by omega) hm⟩
theorem held_all (long : Bool) (L n : Nat) : ∀ (es : List Evt) (c : Sim), Held L n c → c.k + cnt es ≤ L → (∀ e ∈ es, EvOk n e) → Held L n (es.foldl (Sim.step long L) c)
  | [], c, h, _, _ => h
  | e :: es, c, h, hk, he => by
    have h1 : (c.step long L e).k + cnt es = c.k + cnt (e :: es) := by
      have a := sim_k long L [e] c
      have b := sim_k long L es (c.step long L e)
      have d := sim_k long L (e :: es) c
      have e1 : ((e :: es).foldl (Sim.step long L) c).k = (es.foldl (Sim.step long L) (c.step long L e)).k := rfl
      omega
    exact held_all long L n es _ (h.step (by omega) (he e List.mem_cons_self)) (by omega) fun x hx => he x (List.mem_cons_of_mem _ hx)
theorem looker {n : Nat} {es : List Evt} {kd : Str} (htab : TabOk n es) {i : Nat} (hi : i < (looksL es).length) : ∃ p, p < n ∧ i ∈ (simOf kd es).hs p := by
  have h0 : Held (looksL es).length n sim0 := ⟨fun l hl => absurd hl (Nat.not_lt_zero l)⟩
  have hc := cnt_looks es
  have h := held_all (decide (kd = "long")) (looksL es).length n es sim0 h0 (by show 0 + cnt es ≤ _; omega) htab.ev
  refine h.h i ?_
  have h2 := sim_k (decide (kd = "long")) (looksL es).length es sim0
  have h4 : sim0.k = 0 := rfl
  omega
/-! ### audiences -/
def Clo (kd : Str) (es : List Evt) (S : List Nat) : Prop := ∀ l ∈ S, ∀ m, Tc (simOf kd es).bs l m → m ∈ S
def pplS (kd : Str) (n : Nat) (es : List Evt) (S : List Nat) : List Nat := (List.range n).filter fun p => ((simOf kd es).hs p).any fun l => decide (l ∈ S)
structure AudS (kd : Str) (n : Nat) (es : List Evt) (i : Nat) (Ls : List (List Nat)) : Prop where
  s : LexS Ls
  m : ∀ ns, ns ∈ Ls ↔ ∃ S ∈ subs [[i]] ((List.range (looksL es).length).drop (i + 1)), Clo kd es S ∧ ns = pplS kd n es S
def C_audiences (K : PySem.W.Frag) : List Ty → Ty → Prop := fun Rs R => ∃ n es kd i, TabOk n es ∧ (looksL es).length ≤ 6 ∧ i < (looksL es).length ∧ Rs = [tTab K n es, tSt kd, tN i] ∧ R = ExT (AudS kd n es i) (tLL K)
theorem pos_iff {n : Nat} {es : List Evt} {kd : Str} {s : Bst} (hs : BSpec n es kd s) {i : Nat} {S : List Nat} : Ast.pos ⟨s, i⟩ S = true ↔ Clo kd es S := by
  unfold Ast.pos Clo
  rw [Bool.not_eq_true', List.any_eq_false]
  constructor
  · intro h l hl m hm
    have hB := hs.iff.mpr hm
    have h1 := h l hl
    rw [Bool.not_eq_true, List.any_eq_false] at h1
    by_cases e : m ∈ S
    · exact e
    · have h2 := h1 m (List.mem_filter.mpr ⟨List.mem_range.mpr (hs.ok.bb _ hB).2, by simp [e]⟩)
      exact absurd (decide_eq_true hB) h2
  · intro h l hl
    rw [Bool.not_eq_true, List.any_eq_false]
    intro m hm
    obtain ⟨h1, h2⟩ := List.mem_filter.mp hm
    have h3 : m ∉ S := by simpa using h2
    intro hB
    exact h3 (h l hl m (hs.iff.mp (of_decide_eq_true hB)))
section
variable {Γ : Ctx} {μ : Mt} {R : Ty} {Rs : List Ty} {ta : TE} {tr : TA} {n i : Nat} {es : List Evt} {kd : Str} {m : Nat}
theorem y_aud (htab : TabOk n es) (hA : YA tr Γ μ [tTab K n es, tSt kd, tN m]) : Y (tMake (He.ga K "Audience") (sp_A_init K) [] E0 tr) Γ μ (ExT (BSpec n es kd) fun s => Aud K ⟨s, m⟩) := fun σ H0 H S Q q =>
  hA σ H0 H S _ fun vs K1 H1 g1 r1 => by
    obtain ⟨tt, kdv, mv, rfl, htt, hkd, hm⟩ := r1.three
    obtain rfl : kdv = V.str kd := hkd
    obtain rfl : mv = V.int (m : Int) := hm
    intro x dx nx nd ndx
    exact ⟨K1, H1, x, dx, n, es, kd, tt, m, g1.p, nx, nd, ndx, rfl, htab, htt, rfl, fun s K2 H2 hs g2 r2 => ⟨rfl, q _ K2 H2 (g1.trans g2) ⟨s, hs, r2⟩⟩⟩
end
theorem sc_audiences : FnScope ["timetable", "kind", "i", "own", "audience", "shown"] ["timetable", "kind", "i"] (defScope s_audiences) := ⟨rfl, rfl, rfl, by decide +kernel, rfl, by decide +kernel, by decide +kernel⟩
theorem ok_audiences (T : Tx K mg) : FnOk PP w K mg base CX0 9 (He.fAd K d_audiences.at_) (fdOf K d_audiences.at_) ["timetable", "kind", "i"] (spR (C_audiences K)) := by
  have G_as_tuples := ok_as_tuples T 3 (w := w) (base := base)
  have G_check_look := ok_check_look T (w := w) (base := base)
  have G_A_init := ok_A_init T (w := w) (base := base)
  have G_A_sets := ok_A_sets T (w := w) (base := base)
  have G_A_people := ok_A_people T (w := w) (base := base)
  refine fn_ok T.F_audiences sc_audiences (by rintro _ _ ⟨n, es, kd, i, _, _, _, rfl, rfl⟩; rfl) fun Rs R hC cdv A outer s H E hr => ?_
  obtain ⟨n, es, kd, i, htab, hL6, hi, rfl, rfl⟩ := hC
  refine ⟨_, (pss_cons (ps_set (i := 3) sc_audiences.nd rfl (Or.inl rfl) (pe_call G_as_tuples (hr.mono (by decide)) rfl T.g_as_tuples T.F_as_tuples.kp T.b_as_tuples .nil pass0 (pa_cons (pv 0) pa_nil)))
      (pss_cons (ps_expr (pe_call G_check_look (hr.mono (by decide)) rfl T.g_check_look T.F_check_look.kp T.b_check_look .nil pass0 (pa_cons (pv 3) (pa_cons (pv 2) pa_nil))))
      (pss_cons (ps_set (i := 4) sc_audiences.nd rfl (Or.inr rfl) (pe_make T.k_Audience G_A_init (hr.mono (by decide)) rfl T.g_Audience T.b_A_init .nil pass0 (pa_cons (pv 3) (pa_cons (pv 1) (pa_cons (pv 2) pa_nil)))))
      (pss_one (ps_ret (pe_callB (r := rSrtV K PP w) (cr_srtV rfl) (by rfl) T.f_sorted (by decide +kernel) (pa_cons (pe_callTy (r := rSetOfT K PP w) (cr_setOfT rfl hr.units) (by rfl) T.f_set (by decide +kernel) (pa_cons (pe_lc (own := [("shown", 5)]) rfl sc_audiences.nd (pi_listK K (pe_meth0 (pv 4) T.c_Audience T.m_A_sets G_A_sets (hr.mono (by decide)) T.b_A_sets .nil pass0)) (blkOk_by (N := ["timetable", "kind", "i", "own", "audience", "shown"]) (sc := _) (by kernel_rfl)) (fun _ _ _ _ _ => (pg_name (i := 5) sc_audiences.nd rfl (Or.inl rfl))) (fun _ _ _ _ _ => pts_nil) (fun _ _ _ _ _ => (pe_meth (pv 4) T.c_Audience T.m_A_people G_A_people (hr.mono (by decide)) T.b_A_people .nil pass0 (pa_cons (pv 5) pa_nil)))) pa_nil)) pa_nil))))))), fun e => ?_⟩
  have h64 := htab.len
  have hn := htab.hn
  refine hr_set (RA := tTab K n es) (y_call (ya_cons (y_var rfl) ya_nil) (tab_as (by omega))) (hr_drop (RA := Is .non) (y_call (ya_cons (y_var rfl) (ya_cons (y_var rfl) ya_nil)) ⟨n, es, i, by omega, hi, rfl, rfl⟩) (hr_set (RA := ExT (BSpec n es kd) fun s => Aud K ⟨s, i⟩) (y_aud htab (ya_cons (y_var rfl) (ya_cons (y_var rfl) (ya_cons (y_var rfl) ya_nil)))) (hr_exi (k := 4) rfl fun s hs => ?_)))
  have hsL := hs.Ls
  have hcnt := subs_len (acc := [[i]]) (ns := (List.range s.L).drop (i + 1))
  have hdl : ((List.range s.L).drop (i + 1)).length ≤ 5 := by rw [List.length_drop, List.length_range]; omega
  have hpw : 2 ^ ((List.range s.L).drop (i + 1)).length ≤ 2 ^ 5 := Nat.pow_le_pow_right (by decide) hdl
  rw [List.length_singleton] at hcnt
  let sets := (subs [[i]] ((List.range s.L).drop (i + 1))).filter (Ast.pos ⟨s, i⟩)
  have hsl : sets.length ≤ 32 := Nat.le_trans (List.length_filter_le _ _) (by omega)
  have hin : ∀ {ns : List Nat} {acc : List (List Nat)}, (∀ t ∈ acc, i ∈ t) → ∀ t ∈ subs acc ns, i ∈ t := fun {ns} => by
    induction ns with
    | nil => exact fun h t ht => h t ht
    | cons a ns ih => exact fun {acc} h t ht => ih (acc := acc ++ acc.map fun s => s ++ [a]) (fun t ht => by
        rcases List.mem_append.mp ht with h1 | h1
        · exact h t h1
        · obtain ⟨t', ht', rfl⟩ := List.mem_map.mp h1
          exact List.mem_append_left _ (h t' ht')) t ht
  refine hr_ret (Y.cast (y_ssetT (xs := sets.map (Ast.ppl ⟨s, i⟩)) (Y.to (y_lcA (xs := sets) (r := fun sh => Tup K (sh.map tN)) (o := fun sh => Tup K ((Ast.ppl ⟨s, i⟩ sh).map tN)) (yi_list (y_meth (C := C_A_sets K) (y_var rfl) rfl ya_nil ⟨⟨s, i⟩, by show s.es.length ≤ 1000; rw [hs.hes]; omega, by show s.L ≤ 8; omega, by show i < s.L; omega, rfl, rfl⟩)) (by decide) (by omega) (fun x hx => yg_name) (fun x hx => y_meth (C := C_A_people K) (y_var rfl) rfl (ya_cons (y_var rfl) ya_nil) ⟨⟨s, i⟩, x, by show s.n ≤ 1000; rw [hs.hn]; exact hn, fun p _ => by show (s.hs p).length ≤ 1000; rw [hs.hs]; exact Nat.le_trans (sim_len kd es p) (by omega), rfl, rfl⟩)) (by show Lst _ = Lst _; rw [List.map_map]; rfl)) (fun ns hns => ?_) (by rw [List.length_map]; omega)) (fun v H h => ?_))
  · obtain ⟨S, hS, rfl⟩ := List.mem_map.mp hns
    have hiS : i ∈ S := hin (fun t ht => by rw [List.mem_singleton.mp ht]; exact List.mem_cons_self) S (List.mem_filter.mp hS).1
    obtain ⟨p, hp, hip⟩ := looker (kd := kd) htab hi
    refine List.ne_nil_of_mem (a := p) ?_
    unfold Ast.ppl
    refine List.mem_filter.mpr ⟨List.mem_range.mpr (by show p < s.n; rw [hs.hn]; exact hp), List.any_eq_true.mpr ⟨i, by show i ∈ s.hs p; rw [hs.hs]; exact hip, decide_eq_true hiS⟩⟩
  · obtain ⟨Ls, ⟨h1, h2⟩, h3⟩ := h
    refine ⟨Ls, ⟨h1, fun ns => ?_⟩, h3⟩
    rw [h2 ns, ← hsL]
    have hpp : ∀ S, Ast.ppl ⟨s, i⟩ S = pplS kd n es S := fun S => by
      unfold Ast.ppl pplS
      show ((List.range s.n).filter fun p => (s.hs p).any fun l => decide (l ∈ S)) = _
      rw [hs.hn, hs.hs]
    constructor
    · intro h
      obtain ⟨S, hS, rfl⟩ := List.mem_map.mp h
      obtain ⟨h4, h5⟩ := List.mem_filter.mp hS
      exact ⟨S, h4, (pos_iff hs).mp h5, hpp S⟩
    · rintro ⟨S, h4, h5, rfl⟩
      exact List.mem_map.mpr ⟨S, List.mem_filter.mpr ⟨h4, (pos_iff hs).mpr h5⟩, hpp S⟩
end
end HF
set_option maxHeartbeats 400000
namespace HF
open PySem PyProof.Rows L2 Evl
section
variable {w : World} {K : PySem.W.Frag} {mg : Str → Option Value} {base : Heap}
/-- a deed of the law's table: an add, or an event -/
abbrev LEv := Sum Nat Evt
def tLe (K : PySem.W.Frag) : LEv → Ty
  | .inl p => Tup K [tSt "add", tN p]
  | .inr e => tEv K e
abbrev tLt (K : PySem.W.Frag) (n : Nat) (les : List LEv) : Ty := Tup K [tN n, Tup K (les.map (tLe K))]
def leanE (les : List LEv) : List Evt := les.filterMap Sum.getRight?
theorem leanE_app (a b : List LEv) : leanE (a ++ b) = leanE a ++ leanE b := List.filterMap_append
theorem leanE_le (a : List LEv) : (leanE a).length ≤ a.length := List.length_filterMap_le _ _
def C_law_lean (K : PySem.W.Frag) : List Ty → Ty → Prop := fun Rs R => ∃ n les, les.length ≤ 1000 ∧ Rs = [tLt K n les, tN 0] ∧ R = tTab K n (leanE les)
theorem sc_law_lean : FnScope ["_law_table_here", "_law_most", "_law_deed", "_law_found", "_law_count"] ["_law_table_here", "_law_most"] (defScope s_law_lean) := ⟨rfl, rfl, rfl, by decide +kernel, rfl, by decide +kernel, by decide +kernel⟩
theorem ok_law_lean (T : Tx K mg) : FnOk PP w K mg base CX0 1 (He.fAd K d_law_lean.at_) (fdOf K d_law_lean.at_) ["_law_table_here", "_law_most"] (spR (C_law_lean K)) := by
  refine fn_ok T.F_law_lean sc_law_lean (by rintro _ _ ⟨n, les, h, rfl, rfl⟩; rfl) fun Rs R hC cdv A outer s H E hr => ?_
  obtain ⟨n, les, hl, rfl, rfl⟩ := hC
  refine ⟨_, (pss_cons (ps_par (i := 3) (j := 4) (by rfl) sc_law_lean.nd rfl rfl (by decide) rfl rfl (pa_cons (pe_lst pa_nil) (pa_cons pe_int pa_nil)) (by rfl))
      (pss_cons (ps_for PassesOwn.never rfl (pi_tupK K (pe_ix (r := rIxT K) ix_tup (pv 0) pe_int (fun _ _ => rfl))) (pg_name (i := 2) sc_law_lean.nd rfl (Or.inl rfl)) (pss_cons (ps_set (i := 4) sc_law_lean.nd rfl (Or.inl rfl) (pe_op op_add (pv 4) (pe_callTy call_int1 (by rfl) T.f_int (by decide +kernel) (pa_cons (pe_cmpR op_eq (pe_ix (r := rIxT K) ix_tup (pv 2) pe_int (fun _ _ => rfl)) pe_str (nomark _)) pa_nil))))
      (pss_one (ps_if (PW.pt (pw_or (pt_cmpR op_ne (pe_ix (r := rIxT K) ix_tup (pv 2) pe_int (fun _ _ => rfl)) pe_str (nomark _)) (pw_or1 (pt_cmpR op_le (pv 4) (pv 1) (nomark _))))) (pss_one (ps_expr (pe_bmK K PySem.F.plainAttrs_list PySem.F.slot_list_append PySem.F.type_list_append mt_append (pv 3) (pa_cons (pv 2) pa_nil)))) pss_nil))))
      (pss_one (ps_ret (pe_tup (pa_cons (pe_ix (r := rIxT K) ix_tup (pv 0) pe_int (fun _ _ => rfl)) (pa_cons (pe_callTy (r := rTupA K) call_tuple_of (by rfl) T.f_tuple (by decide +kernel) (pa_cons (pv 3) pa_nil)) pa_nil))))))), fun e => ?_⟩
  refine hr_parL0 (Rs := []) (y := .int 0) (yl_lst ya_nil (by show 0 ≤ 100000; decide)) y_c fun f => ?_
  refine hr_seq (N1 := fun Γ' μ' => Wk Γ' [some (tLt K n les), none, none, some (Is (.ref f)), none] ∧ μ' = M0.and (Cl e f ((leanE les).map (tEv K)))) (hr_for (fun i Γ' μ' => ∃ c : Int, 0 ≤ c ∧ Wk Γ' [some (tLt K n les), some (tN 0), none, some (Is (.ref f)), some (tI c)] ∧ μ' = M0.and (Cl e f ((leanE (les.take i)).map (tEv K)))) (yi_tup (Rs := les.map (tLe K)) (y_ixT (n := 1) (y_var rfl) y_c rfl rfl)) ⟨0, by decide, .keep (.keep (.skip (.keep (.keep .nil)))), rfl⟩ ?_ ?_) ?_
  · rintro i R1 Γ1 μ1 ⟨c, hc, wk, rfl⟩ hR
    obtain ⟨x, hx, rfl⟩ := map_get hR
    have htake : les.take (i + 1) = les.take i ++ [x] := by rw [List.take_succ, hx]; rfl
    refine ⟨_, _, YG.weak wk yg_name, ?_⟩
    cases x with
    | inl p =>
      have hb : decide (("add" : Str) = ("add" : Str)) = true := by decide +kernel
      refine hr_set (R := _) (RA := tI (c + 1)) (Y.to (y_add (y_var rfl) (y_intB (y_eqS (a := ("add" : Str)) (d := ("add" : Str)) (y_ixT (n := 0) (y_var rfl) y_c rfl rfl) y_c))) (by rw [hb]; rfl)) ?_
      refine hr_if (b := false) (YT.to (yt_or (yt_t (y_neS (a := ("add" : Str)) (d := ("add" : Str)) (y_ixT (n := 0) (y_var rfl) y_c rfl rfl) y_c)) fun _ => yt_t (y_le (y_var rfl) (y_var rfl))) (by
        rw [hb]
        have : ¬ (c + 1 ≤ ((0 : Nat) : Int)) := by omega
        rw [decide_eq_false this]; rfl)) (fun h => nomatch h) fun _ => hr_nil ⟨c + 1, by omega, .keep (.keep (.skip (.keep (.keep .nil)))), by rw [htake, leanE_app, show leanE [(Sum.inl p : LEv)] = [] from rfl, List.append_nil]⟩
    | inr ev =>
      refine hr_set (RA := tI c) (Y.to (y_add (y_var rfl) (y_intB (y_eqS (a := ev.word) (d := ("add" : Str)) (y_ixT (n := 0) (y_var rfl) y_c rfl rfl) y_c))) (by rw [word_add, if_neg (by decide), Int.add_zero])) ?_
      refine hr_if (b := true) (YT.to (yt_or (yt_t (y_neS (a := ev.word) (d := ("add" : Str)) (y_ixT (n := 0) (y_var rfl) y_c rfl rfl) y_c)) fun _ => yt_t (y_le (y_var rfl) (y_var rfl))) (by rw [word_add]; rfl)) (fun _ => ?_) (fun h => nomatch h)
      refine hr_app1 (T := tEv K ev) (k := 3) rfl M0.off (y_var rfl) ?_ ?_
      · rw [List.length_map]
        have := leanE_le (les.take i)
        have := List.length_take_le' i les
        omega
      · exact ⟨c, hc, .keep (.keep (.skip (.keep (.keep .nil)))), by rw [htake, leanE_app, show leanE [(Sum.inr ev : LEv)] = [ev] from rfl, List.map_append]; rfl⟩
  · rintro Γn μn ⟨c, hc, wk, rfl⟩
    refine ⟨wk.trans (.keep (.skip (.skip (.keep (.skip .nil))))), ?_⟩
    rw [List.length_map, List.take_length]
  · rintro Γ1 μ1 ⟨wk, rfl⟩
    refine hr_weak ?_ wk
    refine hr_keepC (k := 3) rfl (hr_ret (y_tup (ya_cons (y_ixT (n := 0) (y_var rfl) y_c rfl rfl) (ya_cons (y_tupL (y_var rfl)) ya_nil)) (by show 2 ≤ 100000; decide)))
end
end HF
set_option maxHeartbeats 400000
namespace HF
open PySem PyProof.Rows L2 Evl
section
variable {Γ Γ' Γ1 : Ctx} {μ μ' : Mt} {R RA RB RC S : Ty} {Rs Ss : List Ty} {ta tb tc te : TE} {K : PySem.W.Frag} {y : V} {t u : TS} {N N1 : Ctx → Mt → Prop} {e : Hp × Hp} {k l m : Nat}
theorem tup3_run {ts : List Ty} {k l m : Nat} {v w z : V} {σ : L2.St} {H : Hp} {D : Ends} (q : ∀ p, H p = none → D.nx (((σ.set k (some v)).set l (some w)).set m (some z)) (upd H p (.tup [v, w, z]))) :
    [v, w, z].length ≤ sizeLine ∧ ∀ p, H p = none → gTup K 3 (gCons (gName k) (gCons (gName l) (gCons (gName m) gNil))) (.ref p) σ (upd H p (.tup [v, w, z])) D.nx :=
  ⟨sz_of (by show 3 ≤ 100000; decide), fun p hp => ⟨p, [v, w, z], rfl, st_of upd_same, rfl, v, [w, z], rfl, w, [z], rfl, z, [], rfl, rfl, q p hp⟩⟩
/-- k, l, m = (a, [..], c) -/
theorem hr_trip (h1 : Y ta Γ μ RA) (h2 : YL tb Γ μ Rs) (h3 : Y tc Γ μ RC) (n : ∀ a, Hr e u (((Γ.set k (some RA)).set l (some (Is (.ref a)))).set m (some RC)) (μ.and (Cl e a Rs)) N R) : Hr e (tSeq (tAsg (tTup (tCons ta (tCons tb (tCons tc tNil)))) (gTup K 3 (gCons (gName k) (gCons (gName l) (gCons (gName m) gNil))))) u) Γ μ N R := fun σ H0 H D g s nx rt =>
  h1 σ H0 H s _ fun v H1 G1 g1 r1 => h2 σ H1 G1 (s.gr g1) _ fun p vs H2 G2 g2 n1 n2 hp hA => h3 σ H2 G2 ((s.gr g1).gr g2) _ fun z H3 G3 g3 r3 => tup3_run (ts := []) (D := { D with nx := u D }) fun q hq => by
    have g4 := Gr.own (o := .tup [v, .ref p, z]) g3.p hq
    have g' := ((g1.trans g2).trans g3).trans g4
    refine (n p).go (g.trans g') g'.e0 ?_ nx rt
    have s1 := (((s.gr g').set k (RA.m _ _ _ ((g2.trans g3).trans g4).e0 r1)).set l (R := Is (.ref p)) (v := .ref p) rfl).set m (R := RC) (v := z) (RC.m _ _ _ g4.e0 r3)
    exact ⟨s1.sl, s1.ex, s1.mu, fresh_back (g.trans g1).e n1, (g3.trans g4).f p n2 (ne_none hp), vs, (g3.trans g4).e p _ hp, hA.m (g3.trans g4).e0⟩
end
section
variable {w : World} {K : PySem.W.Frag} {mg : Str → Option Value} {base : Heap}
/-! ### the law's own reading -/
structure Hst where
  folk : List Nat
  shown : List Nat
  k : Nat
def Hst.sh (c : Hst) (p : Nat) : List Nat := if (decide (p ∈ c.folk) && !decide (c.k ∈ c.shown)) = true then c.shown ++ [c.k] else c.shown
def Hst.lk (c : Hst) (p : Nat) : List Nat := if decide (c.k ∈ c.sh p) = true then [p] else []
def Hst.gos (c : Hst) (long meet : Bool) (p q : Nat) : List Nat := if (long && decide (p ∈ c.folk)) = true then c.folk ++ [q] else if (long && (meet && decide (q ∈ c.folk))) = true then c.folk ++ [p] else c.folk
def Evt.two (meet : Bool) (p q : Nat) : Evt := if meet = true then .meet p q else .tell p q
def Hst.step (long : Bool) (c : Hst) : Evt → Hst
  | .look p => ⟨c.folk ++ c.lk p, c.sh p, c.k + 1⟩
  | .meet p q => ⟨c.gos long true p q, c.shown, c.k⟩
  | .tell p q => ⟨c.gos long false p q, c.shown, c.k⟩
def hst (long : Bool) (so : List Nat) (es : List Evt) : Hst := es.foldl (Hst.step long) ⟨[], so, 0⟩
theorem hst_snoc (long : Bool) (so : List Nat) (es : List Evt) (e : Evt) : hst long so (es ++ [e]) = (hst long so es).step long e := by
  unfold hst
  rw [List.foldl_append]
  rfl
structure HstOk (n b i : Nat) (c : Hst) : Prop where
  fl : c.folk.length ≤ i
  fn : ∀ p ∈ c.folk, p < n
  nd : c.shown.Nodup
  sl : c.shown.length ≤ b + i
  sk : ∀ x ∈ c.shown, x < b + i
  kk : c.k ≤ i
theorem gos_cases (c : Hst) (long meet : Bool) (p q : Nat) : c.gos long meet p q = c.folk ∨ c.gos long meet p q = c.folk ++ [q] ∨ c.gos long meet p q = c.folk ++ [p] := by
  unfold Hst.gos
  split
  · exact .inr (.inl rfl)
  · split
    · exact .inr (.inr rfl)
    · exact .inl rfl
theorem HstOk.up {n b i : Nat} {c : Hst} (h : HstOk n b i c) {long : Bool} {e : Evt} (he : EvOk n e) (hb : 0 < b) : HstOk n b (i + 1) (c.step long e) := by
  obtain ⟨h1, h2, h3, h4, h5, h6⟩ := h
  have two : ∀ meet p q, p < n → q < n → HstOk n b (i + 1) ⟨c.gos long meet p q, c.shown, c.k⟩ := fun meet p q hp hq => by
    refine ⟨?_, ?_, h3, by show c.shown.length ≤ _; omega, fun x hx => by have := h5 x hx; omega, by show c.k ≤ _; omega⟩
    · show (c.gos long meet p q).length ≤ _
      rcases gos_cases c long meet p q with e | e | e <;> rw [e]
      · omega
      · rw [List.length_append, List.length_singleton]; omega
      · rw [List.length_append, List.length_singleton]; omega
    · show ∀ x ∈ c.gos long meet p q, _
      rcases gos_cases c long meet p q with e | e | e <;> rw [e]
      · exact h2
      · exact fun x hx => (List.mem_append.mp hx).elim (h2 x) fun hx => by rw [List.mem_singleton.mp hx]; exact hq
      · exact fun x hx => (List.mem_append.mp hx).elim (h2 x) fun hx => by rw [List.mem_singleton.mp hx]; exact hp
  cases e with
  | look p =>
    have hs : c.sh p = c.shown ∨ (c.k ∉ c.shown ∧ c.sh p = c.shown ++ [c.k]) := by
      unfold Hst.sh
      split
      · rename_i hq
        exact .inr ⟨by simpa using (Bool.and_eq_true_iff.mp hq).2, rfl⟩
      · exact .inl rfl
    have hl : c.lk p = [p] ∨ c.lk p = [] := by
      unfold Hst.lk
      split
      · exact .inl rfl
      · exact .inr rfl
    refine ⟨?_, ?_, ?_, ?_, ?_, by show c.k + 1 ≤ i + 1; omega⟩
    · show (c.folk ++ c.lk p).length ≤ i + 1
      rw [List.length_append]
      rcases hl with e | e <;> rw [e]
      · rw [List.length_singleton]; omega
      · rw [List.length_nil]; omega
    · show ∀ x ∈ c.folk ++ c.lk p, _
      refine fun x hx => (List.mem_append.mp hx).elim (h2 x) fun hx => ?_
      rcases hl with e | e <;> rw [e] at hx
      · rw [List.mem_singleton.mp hx]; exact he
      · cases hx
    · show (c.sh p).Nodup
      rcases hs with e | ⟨hq, e⟩ <;> rw [e]
      · exact h3
      · exact List.nodup_append.mpr ⟨h3, by simp, fun a ha b hb => by rw [List.mem_singleton.mp hb]; rintro rfl; exact hq ha⟩
    · show (c.sh p).length ≤ _
      rcases hs with e | ⟨hq, e⟩ <;> rw [e]
      · omega
      · rw [List.length_append, List.length_singleton]; omega
    · show ∀ x ∈ c.sh p, _
      rcases hs with e | ⟨hq, e⟩ <;> rw [e]
      · exact fun x hx => by have := h5 x hx; omega
      · exact fun x hx => (List.mem_append.mp hx).elim (fun hx => by have := h5 x hx; omega) fun hx => by rw [List.mem_singleton.mp hx]; omega
  | meet p q => exact two true p q he.1 he.2
  | tell p q => exact two false p q he.1 he.2
/-- the folk that S is told -/
def heardL (kd : Str) (n : Nat) (es : List Evt) (so : List Nat) : List Nat := up n (hst (decide (kd = "long")) so es).folk
def C_law_heard (K : PySem.W.Frag) : List Ty → Ty → Prop := fun Rs R => ∃ n es kd so, es.length ≤ 40 ∧ (∀ e ∈ es, EvOk n e) ∧ so.Nodup ∧ so.length ≤ 8 ∧ (∀ x ∈ so, x < 8) ∧ Rs = [tTab K n es, tSt kd, tNs so] ∧ R = Tup K [tNs (up 1000 (hst (decide (kd = "long")) so es).shown), tNs (heardL kd n es so)]
theorem sc_law_heard : FnScope ["_law_table_here", "_law_sort_so", "_law_some", "_law_deed", "_law_folk", "_law_shown", "_law_k", "_law_one"] ["_law_table_here", "_law_sort_so", "_law_some"] (defScope s_law_heard) := ⟨rfl, rfl, rfl, by decide +kernel, rfl, by decide +kernel, by decide +kernel⟩
theorem ok_law_heard (T : Tx K mg) : FnOk PP w K mg base CX0 1 (He.fAd K d_law_heard.at_) (fdOf K d_law_heard.at_) ["_law_table_here", "_law_sort_so", "_law_some"] (spR (C_law_heard K)) := by
  refine fn_ok T.F_law_heard sc_law_heard (by rintro _ _ ⟨n, es, kd, so, _, _, _, _, _, rfl, rfl⟩; rfl) fun Rs R hC cdv A outer s H E hr => ?_
  obtain ⟨n, es, kd, so, hle, hev, hnd, hsl, hs8, rfl, rfl⟩ := hC
  refine ⟨_, (pss_cons (ps_asg (pe_tup (pa_cons (pe_lst pa_nil) (pa_cons (pe_callTy (r := rListA K) call_list_of (by rfl) T.f_list (by decide +kernel) (pa_cons (pv 2) pa_nil)) (pa_cons pe_int pa_nil)))) (pg_tupK K 3 rfl (pgs_cons (pg_name (i := 4) sc_law_heard.nd rfl (Or.inl rfl)) (pgs_cons (pg_name (i := 5) sc_law_heard.nd rfl (Or.inr rfl)) (pgs_cons (pg_name (i := 6) sc_law_heard.nd rfl (Or.inl rfl)) pgs_nil)))))
      (pss_cons (ps_for PassesOwn.never rfl (pi_tupK K (pe_ix (r := rIxT K) ix_tup (pv 0) pe_int (fun _ _ => rfl))) (pg_name (i := 3) sc_law_heard.nd rfl (Or.inr rfl)) (pss_one (ps_if (pt_cmpR op_eq (pe_ix (r := rIxT K) ix_tup (pv 3) pe_int (fun _ _ => rfl)) pe_str (nomark _)) (pss_cons (ps_if (PW.pt (pw_and (pt_cmpR (r := rIn K false) op_in_seq (pe_ix (r := rIxT K) ix_tup (pv 3) pe_int (fun _ _ => rfl)) (pv 4) (by with_unfolding_all rfl)) (pw_and1 (pt_cmpR (r := rIn K true) op_notIn_seq (pv 6) (pv 5) (by with_unfolding_all rfl))))) (pss_one (ps_expr (pe_bmK K PySem.F.plainAttrs_list PySem.F.slot_list_append PySem.F.type_list_append mt_append (pv 5) (pa_cons (pv 6) pa_nil)))) pss_nil)
      (pss_one (ps_par (i := 4) (j := 6) (by rfl) sc_law_heard.nd rfl rfl (by decide) rfl rfl (pa_cons (pe_op op_cat (pv 4) (pe_lc (own := [("_law_one", 7)]) rfl sc_law_heard.nd (pi_listK K (pe_lst (pa_cons (pv 6) pa_nil))) (blkOk_by (N := ["_law_table_here", "_law_sort_so", "_law_some", "_law_deed", "_law_folk", "_law_shown", "_law_k", "_law_one"]) (sc := _) (by kernel_rfl)) (fun _ _ _ _ _ => (pg_name (i := 7) sc_law_heard.nd rfl (Or.inl rfl))) (fun _ _ _ _ _ => pts_one (pt_cmpR (r := rIn K false) op_in_seq (pv 7) (pv 5) (by with_unfolding_all rfl))) (fun _ _ _ _ _ => (pe_ix (r := rIxT K) ix_tup (pv 3) pe_int (fun _ _ => rfl))))) (pa_cons (pe_op op_add (pv 6) pe_int) pa_nil)) (by rfl)))) (pss_one (ps_if (PW.pt (pw_and (pt_cmpR op_eq (pv 1) pe_str (nomark _)) (pw_and1 (pt_cmpR (r := rIn K false) op_in_seq (pe_ix (r := rIxT K) ix_tup (pv 3) pe_int (fun _ _ => rfl)) (pv 4) (by with_unfolding_all rfl))))) (pss_one (ps_set (i := 4) sc_law_heard.nd rfl (Or.inl rfl) (pe_op op_cat (pv 4) (pe_lst (pa_cons (pe_ix (r := rIxT K) ix_tup (pv 3) pe_int (fun _ _ => rfl)) pa_nil))))) (pss_one (ps_if (PW.pt (pw_and (pt_cmpR op_eq (pv 1) pe_str (nomark _)) (pw_and (pt_cmpR op_eq (pe_ix (r := rIxT K) ix_tup (pv 3) pe_int (fun _ _ => rfl)) pe_str (nomark _)) (pw_and1 (pt_cmpR (r := rIn K false) op_in_seq (pe_ix (r := rIxT K) ix_tup (pv 3) pe_int (fun _ _ => rfl)) (pv 4) (by with_unfolding_all rfl)))))) (pss_one (ps_set (i := 4) sc_law_heard.nd rfl (Or.inl rfl) (pe_op op_cat (pv 4) (pe_lst (pa_cons (pe_ix (r := rIxT K) ix_tup (pv 3) pe_int (fun _ _ => rfl)) pa_nil))))) pss_nil)))))))
      (pss_one (ps_ret (pe_tup (pa_cons (pe_callB (r := rSorted K) cr_sorted (by rfl) T.f_sorted (by decide +kernel) (pa_cons (pv 5) pa_nil)) (pa_cons (pe_callB (r := rSortedSet w) (cr_sortedSet rfl) (by rfl) T.f_sorted (by decide +kernel) (pa_cons (pe_callTy (r := rSetL K w) (cr_setL rfl) (by rfl) T.f_set (by decide +kernel) (pa_cons (pv 4) pa_nil)) pa_nil)) pa_nil))))))), fun e => ?_⟩
  refine hr_trip (RA := tNs []) (Rs := so.map tN) (RC := tN 0) (y_lst ya_nil (by show 0 ≤ 100000; decide)) (yl_listL (y_var rfl)) y_c fun f => ?_
  refine hr_seq (N1 := fun Γ' μ' => Wk Γ' [some (tTab K n es), some (tSt kd), none, none, some (tNs (hst (decide (kd = "long")) so es).folk), some (Is (.ref f)), some (tN (hst (decide (kd = "long")) so es).k), none] ∧ μ' = M0.and (Cl e f ((hst (decide (kd = "long")) so es).shown.map tN)))
    (hr_for (fun i Γ' μ' => HstOk n 8 i (hst (decide (kd = "long")) so (es.take i)) ∧ Wk Γ' [some (tTab K n es), some (tSt kd), none, none, some (tNs (hst (decide (kd = "long")) so (es.take i)).folk), some (Is (.ref f)), some (tN (hst (decide (kd = "long")) so (es.take i)).k), none] ∧ μ' = M0.and (Cl e f ((hst (decide (kd = "long")) so (es.take i)).shown.map tN))) (yi_tup (Rs := es.map (tEv K)) (y_ixT (n := 1) (y_var rfl) y_c rfl rfl)) ⟨⟨Nat.zero_le _, fun _ h => (nomatch h), hnd, hsl, hs8, Nat.le_refl _⟩, .keep (.keep (.skip (.skip (.keep (.keep (.keep (.skip .nil))))))), rfl⟩ ?_ ?_) ?_
  · rintro i R1 Γ1 μ1 ⟨hok, wk, rfl⟩ hR
    obtain ⟨x, hx, rfl⟩ := map_get hR
    have htake : es.take (i + 1) = es.take i ++ [x] := by rw [List.take_succ, hx]; rfl
    have hxe : EvOk n x := hev x (List.mem_of_getElem? hx)
    have hi : i < es.length := (List.getElem?_eq_some_iff.mp hx).1
    refine ⟨_, _, YG.weak wk yg_name, ?_⟩
    have hup := hok.up (long := decide (kd = "long")) hxe (by decide)
    rw [htake, hst_snoc]
    generalize hst (decide (kd = "long")) so (es.take i) = c at hok hup wk ⊢
    obtain ⟨h1, h2, h3, h4, h5, h6⟩ := hok
    have alt : (∃ p, x = .look p) ∨ ∃ meet p q, x = Evt.two meet p q := by
      cases x with
      | look p => exact .inl ⟨p, rfl⟩
      | meet p q => exact .inr ⟨true, p, q, rfl⟩
      | tell p q => exact .inr ⟨false, p, q, rfl⟩
    rcases alt with ⟨p, rfl⟩ | ⟨meet, p, q, rfl⟩
    · refine hr_if (b := true) (YT.to (yt_t (y_eqS (a := ("look" : Str)) (d := ("look" : Str)) (y_ixT (n := 0) (y_var rfl) y_c rfl rfl) y_c)) (by decide +kernel)) (fun _ => ?_) (fun h => nomatch h)
      refine hr_seq (N1 := fun Γ' μ' => Γ' = [some (tTab K n es), some (tSt kd), none, some (tEv K (.look p)), some (tNs c.folk), some (Is (.ref f)), some (tN c.k), none] ∧ μ' = M0.and (Cl e f ((c.sh p).map tN))) (hr_if (b := decide (p ∈ c.folk) && !decide (c.k ∈ c.shown)) (yt_and (yt_t (y_inL (n := p) (ns := c.folk) (y_ixT (n := 1) (y_var rfl) y_c rfl rfl) (y_var rfl))) fun _ => yt_loc (cell_up (k := 5) rfl) (yt_t (y_ninL (n := c.k) (ns := c.shown) (y_var rfl) (y_var rfl)))) (fun hb => hr_app1 (T := tN c.k) (k := 5) rfl M0.off (y_var rfl) (by rw [List.length_map]; omega) ⟨rfl, by unfold Hst.sh; rw [if_pos hb, List.map_append]; rfl⟩) fun hb => hr_nil ⟨rfl, by unfold Hst.sh; rw [if_neg (by rw [hb]; decide)]⟩) ?_
      rintro _ _ ⟨rfl, rfl⟩
      have e1 : ((([c.k].filter fun o => decide (o ∈ c.sh p)).map fun _ => tN p)) = (c.lk p).map tN := by
        unfold Hst.lk
        rw [List.filter_cons]
        split <;> rfl
      refine hr_par1 (RA := tNs (c.folk ++ c.lk p)) (RB := tN (c.k + 1)) (ya_cons (Y.to (y_cat (Rs := c.folk.map tN) (Ss := (c.lk p).map tN) (y_var rfl) (Y.to (y_lc (xs := [c.k]) (r := tN) (f := fun o => decide (o ∈ c.sh p)) (o := fun _ => tN p) (yi_list (y_lst (ya_cons (y_var rfl) ya_nil) (by show 1 ≤ 100000; decide))) (by decide) (by show 1 ≤ 50000; decide) (fun o ho => yg_name) (fun o ho => yt_loc (cell_up (k := 5) rfl) (yt_t (y_inL (n := o) (ns := c.sh p) (y_var rfl) (y_var rfl)))) (fun o ho hf => (y_ixT (n := 1) (y_var rfl) y_c rfl rfl))) (by rw [e1])) (by
        rw [List.length_map, List.length_map]
        have : (c.lk p).length ≤ 1 := by unfold Hst.lk; split <;> simp
        omega)) (by show Lst _ = Lst _; rw [List.map_append])) (ya_cons (y_addN (m := 1) (y_var rfl) y_c) ya_nil)) ⟨hup, .keep (.keep (.skip (.skip (.keep (.keep (.keep (.skip .nil))))))), rfl⟩
    · have w1 : decide ((if meet = true then ("meet" : Str) else "tell") = "look") = false := by cases meet <;> decide +kernel
      have w2 : decide ((if meet = true then ("meet" : Str) else "tell") = "meet") = meet := by cases meet <;> decide +kernel
      have t1 : tEv K (Evt.two meet p q) = Tup K [tSt (if meet = true then ("meet" : Str) else "tell"), tN p, tN q] := by cases meet <;> rfl
      have t2 : c.step (decide (kd = "long")) (Evt.two meet p q) = ⟨c.gos (decide (kd = "long")) meet p q, c.shown, c.k⟩ := by cases meet <;> rfl
      rw [t2] at hup ⊢
      rw [t1]
      refine hr_if (b := false) (YT.to (yt_t (y_eqS (a := if meet = true then ("meet" : Str) else "tell") (d := ("look" : Str)) (y_ixT (n := 0) (y_var rfl) y_c rfl rfl) y_c)) w1) (fun h => nomatch h) fun _ => ?_
      refine hr_if (b := decide (kd = "long") && decide (p ∈ c.folk)) (yt_and (yt_t (y_eqS (y_var rfl) y_c)) fun _ => yt_t (y_inL (n := p) (ns := c.folk) (y_ixT (n := 1) (y_var rfl) y_c rfl rfl) (y_var rfl))) (fun hb => ?_) fun hb => ?_
      · have e1 : c.gos (decide (kd = "long")) meet p q = c.folk ++ [q] := by unfold Hst.gos; rw [if_pos hb]
        rw [e1] at hup ⊢
        exact hr_set1 (RA := tNs (c.folk ++ [q])) (Y.to (y_cat (Rs := c.folk.map tN) (Ss := [tN q]) (y_var rfl) (y_lst (ya_cons (y_ixT (n := 2) (y_var rfl) y_c rfl rfl) ya_nil) (by show 1 ≤ 100000; decide)) (by rw [List.length_map]; show _ + 1 ≤ _; omega)) (by show Lst _ = Lst _; rw [List.map_append]; rfl)) ⟨hup, .keep (.keep (.skip (.skip (.keep (.keep (.keep (.skip .nil))))))), rfl⟩
      · refine hr_if (b := decide (kd = "long") && (meet && decide (q ∈ c.folk))) (YT.to (yt_and (yt_t (y_eqS (y_var rfl) y_c)) fun _ => yt_and (yt_t (y_eqS (a := if meet = true then ("meet" : Str) else "tell") (d := ("meet" : Str)) (y_ixT (n := 0) (y_var rfl) y_c rfl rfl) y_c)) fun _ => yt_t (y_inL (n := q) (ns := c.folk) (y_ixT (n := 2) (y_var rfl) y_c rfl rfl) (y_var rfl))) (by rw [w2])) (fun hb2 => ?_) fun hb2 => ?_
        · have e1 : c.gos (decide (kd = "long")) meet p q = c.folk ++ [p] := by unfold Hst.gos; rw [if_neg (by rw [hb]; decide), if_pos hb2]
          rw [e1] at hup ⊢
          exact hr_set1 (RA := tNs (c.folk ++ [p])) (Y.to (y_cat (Rs := c.folk.map tN) (Ss := [tN p]) (y_var rfl) (y_lst (ya_cons (y_ixT (n := 1) (y_var rfl) y_c rfl rfl) ya_nil) (by show 1 ≤ 100000; decide)) (by rw [List.length_map]; show _ + 1 ≤ _; omega)) (by show Lst _ = Lst _; rw [List.map_append]; rfl)) ⟨hup, .keep (.keep (.skip (.skip (.keep (.keep (.keep (.skip .nil))))))), rfl⟩
        · have e1 : c.gos (decide (kd = "long")) meet p q = c.folk := by unfold Hst.gos; rw [if_neg (by rw [hb]; decide), if_neg (by rw [hb2]; decide)]
          rw [e1] at hup ⊢
          exact hr_nil ⟨hup, .keep (.keep (.skip (.skip (.keep (.keep (.keep (.skip .nil))))))), rfl⟩
  · rintro Γn μn ⟨_, wk, rfl⟩
    rw [List.length_map, List.take_length] at wk ⊢
    exact ⟨wk, rfl⟩
  · rintro Γ1 μ1 ⟨wk, rfl⟩
    refine hr_weak ?_ wk
    have hfin : HstOk n 8 es.length (hst (decide (kd = "long")) so es) := by
      have : ∀ i, i ≤ es.length → HstOk n 8 i (hst (decide (kd = "long")) so (es.take i)) := fun i => by
        induction i with
        | zero => exact fun _ => ⟨Nat.zero_le _, fun _ h => (nomatch h), hnd, hsl, hs8, Nat.le_refl _⟩
        | succ i ih =>
          intro hi
          have hx : es[i]? = some es[i] := List.getElem?_eq_getElem hi
          have htake : es.take (i + 1) = es.take i ++ [es[i]] := by rw [List.take_succ, hx]; rfl
          rw [htake, hst_snoc]
          exact (ih (by omega)).up (hev _ (List.getElem_mem hi)) (by decide)
      have h := this es.length (Nat.le_refl _)
      rwa [List.take_length] at h
    obtain ⟨h1, h2, h3, h4, h5, h6⟩ := hfin
    refine hr_keepC (k := 5) rfl (hr_ret (y_tup (ya_cons (y_sorted (n := 1000) (y_var rfl) h3 (fun x hx => by have := h5 x hx; omega) (by omega)) (ya_cons (y_sset (y_var rfl) h2 (by omega)) ya_nil)) (by show 2 ≤ 100000; decide)))
end
end HF
set_option maxHeartbeats 400000
namespace HF
open PySem PyProof.Rows L2 Evl
section
variable {Γ : Ctx} {μ : Mt} {ta tb : TE} {tr : TA} {R : Ty} {Rs Ts : List Ty} {n c c1 c2 : String} {b : Bool} {K : PySem.W.Frag}
theorem y_isi (ha : Y ta Γ μ R) (hty : ∀ v H, R.r v H → TyX K H v (.type n)) (hk : PySem.W.kitOne K (.type n) (.type c) = some b) :
    Y (tCB (rIsi K) (tCons ta (tCons (tC (.ty c)) tNil))) Γ μ (tBo b) := fun σ H0 H S Q q =>
  ha σ H0 H S _ fun x H1 G1 g1 r1 => ⟨x, .ty c, .type n, .type c, b, rfl, .ty _, hty _ _ (R.m _ _ _ g1.p r1), hk, q _ _ _ g1 rfl⟩
theorem y_isiT2 (ha : Y ta Γ μ R) (hty : ∀ v H, R.r v H → TyX K H v (.type n)) (hk : PySem.W.kitAny K (.type n) [.type c1, .type c2] = some b) :
    Y (tCB (rIsiT K) (tCons ta (tCons (tTup (tCons (tC (.ty c1)) (tCons (tC (.ty c2)) tNil))) tNil))) Γ μ (tBo b) := fun σ H0 H S Q q =>
  ha σ H0 H S _ fun x H1 G1 g1 r1 => ⟨sz_of (by show 2 ≤ 100000; decide), fun p hp => by
    have g2 := g1.trans (Gr.new (o := .tup [V.ty c1, V.ty c2]) g1.p hp)
    refine ⟨x, p, [V.ty c1, V.ty c2], .type n, [.type c1, .type c2], b, rfl, upd_same, .cons (.ty _) (.cons (.ty _) .nil), ?_, hk, q _ _ _ g2 rfl⟩
    exact hty _ _ (R.m _ _ _ (g1.p.trans (Ex.new hp)) r1)⟩
/-- zip of two alike lists -/
theorem yi_zipL (h : YA tr Γ μ [Lst Ts, Lst Ts]) : YI (RZ.iZipA K tr) Γ μ (Ts.map fun T => Tup K [T, T]) := fun σ H0 H s P p =>
  h σ H0 H s _ fun vs H1 G1 g1 r1 => by
    obtain ⟨v, w, rfl, ⟨a, xs, rfl, h1, h2⟩, ⟨b, ys, rfl, k1, k2⟩⟩ := r1.two
    have l1 := h2.len
    have l2 := k2.len
    refine ⟨a, b, xs, ys, rfl, .inl ⟨sq_of (g1.p a _ h1), sq_of (g1.p b _ k1), p _ _ _ g1 ⟨fun i H e hi => ?_, fun i H2 H x H' e e' hy R hR => ?_, fun i H e hi => ⟨xs, ys, sq_of (e a _ h1), sq_of (e b _ k1), .inl (by rw [List.length_map] at hi; omega)⟩⟩⟩⟩
    · rw [List.length_map] at hi
      exact ⟨xs, ys, xs[i]'(by omega), ys[i]'(by omega), sq_of (e a _ h1), sq_of (e b _ k1), List.getElem?_eq_getElem _, List.getElem?_eq_getElem _⟩
    · obtain ⟨T, hT, rfl⟩ := map_get hR
      obtain ⟨t, x, y, rfl, ht, rfl, hx, hy⟩ := hy
      refine ⟨_, Gr.new e' ht, t, _, rfl, st_of upd_same, ?_, ?_, trivial⟩
      · exact T.m _ _ _ (Ex.new (fresh_back e' ht)) ((h2.m e).get' hT (hx xs (sq_of (e' a _ (e a _ h1)))))
      · exact T.m _ _ _ (Ex.new (fresh_back e' ht)) ((k2.m e).get' hT (hy ys (sq_of (e' b _ (e b _ k1)))))
theorem yi_zipT (h : YA tr Γ μ [Tup K Ts, Tup K Ts]) : YI (RZ.iZipA K tr) Γ μ (Ts.map fun T => Tup K [T, T]) := fun σ H0 H s P p =>
  h σ H0 H s _ fun vs H1 G1 g1 r1 => by
    obtain ⟨v, w, rfl, ⟨a, xs, rfl, h1, h2⟩, ⟨b, ys, rfl, k1, k2⟩⟩ := r1.two
    have l1 := h2.len
    have l2 := k2.len
    refine ⟨a, b, xs, ys, rfl, .inr ⟨ex_t g1.p h1, ex_t g1.p k1, p _ _ _ g1 ⟨fun i H e hi => ?_, fun i H2 H x H' e e' hy R hR => ?_, fun i H e hi => ⟨xs, ys, ex_t e h1, ex_t e k1, .inl (by rw [List.length_map] at hi; omega)⟩⟩⟩⟩
    · rw [List.length_map] at hi
      exact ⟨xs, ys, xs[i]'(by omega), ys[i]'(by omega), ex_t e h1, ex_t e k1, List.getElem?_eq_getElem _, List.getElem?_eq_getElem _⟩
    · obtain ⟨T, hT, rfl⟩ := map_get hR
      obtain ⟨t, x, y, rfl, ht, rfl, hx, hy⟩ := hy
      refine ⟨_, Gr.new e' ht, t, _, rfl, st_of upd_same, ?_, ?_, trivial⟩
      · exact T.m _ _ _ (Ex.new (fresh_back e' ht)) ((h2.m e).get' hT (hx xs (ex_t (e.trans e') h1)))
      · exact T.m _ _ _ (Ex.new (fresh_back e' ht)) ((k2.m e).get' hT (hy ys (ex_t (e.trans e') k1)))
end
section
variable {w : World} {K : PySem.W.Frag} {mg : Str → Option Value} {base : Heap}
/-- alike data -/
def C_same (K : PySem.W.Frag) : Nat → List Ty → Ty → Prop
  | 0, Rs, R => ((∃ i : Int, Rs = [tI i, tI i]) ∨ (∃ z, Rs = [tSt z, tSt z])) ∧ R = tBo true
  | d + 1, Rs, R => C_same K d Rs R ∨ ∃ Ts : List Ty, (∀ T ∈ Ts, C_same K d [T, T] (tBo true)) ∧ Ts.length ≤ 1000 ∧ (Rs = [Lst Ts, Lst Ts] ∨ Rs = [Tup K Ts, Tup K Ts]) ∧ R = tBo true
theorem C_same.two : ∀ {d : Nat} {Rs : List Ty} {R : Ty}, C_same K d Rs R → Rs.length = 2
  | 0, Rs, R, h => by
    rcases h with ⟨⟨i, rfl⟩ | ⟨z, rfl⟩, rfl⟩ <;> rfl
  | d + 1, Rs, R, h => by
    rcases h with h | ⟨Ts, _, _, rfl | rfl, rfl⟩
    · exact C_same.two h
    · rfl
    · rfl
theorem sc_law_same : FnScope ["_law_found", "_law_due", "_law_mine", "_law_its"] ["_law_found", "_law_due"] (defScope s_law_same) := ⟨rfl, rfl, rfl, by decide +kernel, rfl, by decide +kernel, by decide +kernel⟩
theorem same_step (T : Tx K mg) (lv : Nat) (C' : List Ty → Ty → Prop) (G_law_same : FnOk PP w K mg base CX0 lv (He.fAd K d_law_same.at_) (fdOf K d_law_same.at_) ["_law_found", "_law_due"] (spR C')) (C : List Ty → Ty → Prop)
    (hC' : ∀ Rs R, C Rs R → (((∃ i : Int, Rs = [tI i, tI i]) ∨ (∃ z, Rs = [tSt z, tSt z])) ∧ R = tBo true) ∨ ∃ Ts : List Ty, (∀ T ∈ Ts, C' [T, T] (tBo true)) ∧ Ts.length ≤ 1000 ∧ (Rs = [Lst Ts, Lst Ts] ∨ Rs = [Tup K Ts, Tup K Ts]) ∧ R = tBo true) :
    FnOk PP w K mg base CX0 (lv + 1) (He.fAd K d_law_same.at_) (fdOf K d_law_same.at_) ["_law_found", "_law_due"] (spR C) := by
  refine fn_ok T.F_law_same sc_law_same (fun Rs R hC => by rcases hC' Rs R hC with ⟨⟨i, rfl⟩ | ⟨z, rfl⟩, _⟩ | ⟨Ts, _, _, rfl | rfl, _⟩ <;> rfl) fun Rs R hC cdv A outer s H E hr => ?_
  refine ⟨_, (pss_cons (ps_if (pt_val (pe_callB (r := rIsiT K) call_isiT (by rfl) T.f_isinstance (by decide +kernel) (pa_cons (pv 1) (pa_cons (pe_tup (pa_cons (pe_bltn (v := V.ty "list") (u := Value.type "list") (by rfl) T.f_list (by decide +kernel) rfl) (pa_cons (pe_bltn (v := V.ty "tuple") (u := Value.type "tuple") (by rfl) T.f_tuple (by decide +kernel) rfl) pa_nil))) pa_nil)))) (pss_cons (ps_if (pt_cmpR op_ne (pe_callB (r := rIsi K) call_isi (by rfl) T.f_isinstance (by decide +kernel) (pa_cons (pv 0) (pa_cons (pe_bltn (v := V.ty "list") (u := Value.type "list") (by rfl) T.f_list (by decide +kernel) rfl) pa_nil))) (pe_callB (r := rIsi K) call_isi (by rfl) T.f_isinstance (by decide +kernel) (pa_cons (pv 1) (pa_cons (pe_bltn (v := V.ty "list") (u := Value.type "list") (by rfl) T.f_list (by decide +kernel) rfl) pa_nil))) (nomark _)) (pss_one (ps_ret pe_bl)) pss_nil)
      (pss_cons (ps_if (pt_cmpR op_ne (pe_callB (r := rIsi K) call_isi (by rfl) T.f_isinstance (by decide +kernel) (pa_cons (pv 0) (pa_cons (pe_bltn (v := V.ty "tuple") (u := Value.type "tuple") (by rfl) T.f_tuple (by decide +kernel) rfl) pa_nil))) (pe_callB (r := rIsi K) call_isi (by rfl) T.f_isinstance (by decide +kernel) (pa_cons (pv 1) (pa_cons (pe_bltn (v := V.ty "tuple") (u := Value.type "tuple") (by rfl) T.f_tuple (by decide +kernel) rfl) pa_nil))) (nomark _)) (pss_one (ps_ret pe_bl)) pss_nil)
      (pss_one (ps_ret (pe_and (pe_cmpR op_eq (pe_callB (r := rLenA K) call_len_seq (by rfl) T.f_len (by decide +kernel) (pa_cons (pv 0) pa_nil)) (pe_callB (r := rLenA K) call_len_seq (by rfl) T.f_len (by decide +kernel) (pa_cons (pv 1) pa_nil)) (nomark _)) (pe_one (pe_callB (r := rAll K) (cr_all rfl) (by rfl) T.f_all (by decide +kernel) (pa_cons (pe_lc (own := [("_law_mine", 2), ("_law_its", 3)]) rfl sc_law_same.nd (RZ.pi_zipA (by rfl) T.f_zip (pa_cons (pv 0) (pa_cons (pv 1) pa_nil))) (blkOk_by (N := ["_law_found", "_law_due", "_law_mine", "_law_its"]) (sc := _) (by kernel_rfl)) (fun _ _ _ _ _ => (pg_tupK K 2 rfl (pgs_cons (pg_name (i := 2) sc_law_same.nd rfl (Or.inl rfl)) (pgs_cons (pg_name (i := 3) sc_law_same.nd rfl (Or.inl rfl)) pgs_nil)))) (fun _ _ _ _ _ => pts_nil) (fun _ _ _ _ _ => (pe_call G_law_same hr rfl T.g__law_same T.F_law_same.kp T.b_law_same .nil pass0 (pa_cons (pv 2) (pa_cons (pv 3) pa_nil))))) pa_nil)))))))) pss_nil)
      (pss_cons (ps_if (PW.pt (pw_or (pt_cmpR op_isN (pv 1) pe_non (nomark _)) (pw_or1 (pt_val (pe_callB (r := rIsiT K) call_isiT (by rfl) T.f_isinstance (by decide +kernel) (pa_cons (pv 1) (pa_cons (pe_tup (pa_cons (pe_bltn (v := V.ty "bool") (u := Value.type "bool") (by rfl) T.f_bool (by decide +kernel) rfl) (pa_cons (pe_bltn (v := V.ty "str") (u := Value.type "str") (by rfl) T.f_str (by decide +kernel) rfl) pa_nil))) pa_nil))))))) (pss_one (ps_ret (pe_and (pe_cmpR op_eq (pv 0) (pv 1) (nomark _)) (pe_and (pe_cmpR op_eq (pe_callB (r := rIsi K) call_isi (by rfl) T.f_isinstance (by decide +kernel) (pa_cons (pv 0) (pa_cons (pe_bltn (v := V.ty "bool") (u := Value.type "bool") (by rfl) T.f_bool (by decide +kernel) rfl) pa_nil))) (pe_callB (r := rIsi K) call_isi (by rfl) T.f_isinstance (by decide +kernel) (pa_cons (pv 1) (pa_cons (pe_bltn (v := V.ty "bool") (u := Value.type "bool") (by rfl) T.f_bool (by decide +kernel) rfl) pa_nil))) (nomark _)) (pe_one (pe_cmpR op_eq (pe_cmpR op_isN (pv 0) pe_non (nomark _)) (pe_cmpR op_isN (pv 1) pe_non (nomark _)) (nomark _))))))) pss_nil)
      (pss_one (ps_ret (pe_and (pe_callB (r := rIsi K) call_isi (by rfl) T.f_isinstance (by decide +kernel) (pa_cons (pv 0) (pa_cons (pe_bltn (v := V.ty "int") (u := Value.type "int") (by rfl) T.f_int (by decide +kernel) rfl) pa_nil))) (pe_and (pe_not (pe_callB (r := rIsi K) call_isi (by rfl) T.f_isinstance (by decide +kernel) (pa_cons (pv 0) (pa_cons (pe_bltn (v := V.ty "bool") (u := Value.type "bool") (by rfl) T.f_bool (by decide +kernel) rfl) pa_nil)))) (pe_one (pe_cmpR op_eq (pv 0) (pv 1) (nomark _))))))))), fun e => ?_⟩
  rcases hC' Rs R hC with ⟨⟨i, rfl⟩ | ⟨z, rfl⟩, rfl⟩ | ⟨Ts, hTs, hl, rfl | rfl, rfl⟩
  · refine hr_ifr (b := false) (yt_B (y_isiT2 (n := "int") (y_var rfl) (fun v H h => by rw [show v = V.int i from h]; exact .base (.int _)) (kitAny_cons (b := false) (kit_ty (by decide +kernel)) (fun _ => (kitAny_cons (b := false) (kit_ty (by decide +kernel)) (fun _ => kitAny_nil) (fun h => nomatch h))) (fun h => nomatch h)))) (fun h => nomatch h) (fun _ => ?_)
    refine hr_ifr (b := false) (YT.to (yt_or (yt_t (y_isN (b := false) (y_var rfl) (fun v H h => by rw [show v = V.int i from h]; rfl))) fun _ => yt_B (y_isiT2 (n := "int") (y_var rfl) (fun v H h => by rw [show v = V.int i from h]; exact .base (.int _)) (kitAny_cons (b := false) (kit_ty (by decide +kernel)) (fun _ => (kitAny_cons (b := false) (kit_ty (by decide +kernel)) (fun _ => kitAny_nil) (fun h => nomatch h))) (fun h => nomatch h)))) rfl) (fun h => nomatch h) (fun _ => ?_)
    refine hr_ret (Y.to (y_and (y_isi (n := "int") (c := "int") (b := true) (y_var rfl) (fun v H h => by rw [show v = V.int i from h]; exact .base (.int _)) (kit_ty (by decide +kernel))) fun _ => y_and (y_not (y_isi (n := "int") (c := "bool") (b := false) (y_var rfl) (fun v H h => by rw [show v = V.int i from h]; exact .base (.int _)) (kit_ty (by decide +kernel)))) fun _ => y_eqI (i := i) (j := i) (y_var rfl) (y_var rfl)) (by simp))
  · refine hr_ifr (b := false) (yt_B (y_isiT2 (n := "str") (y_var rfl) (fun v H h => by rw [show v = V.str z from h]; exact .base (.str _)) (kitAny_cons (b := false) (kit_ty (by decide +kernel)) (fun _ => (kitAny_cons (b := false) (kit_ty (by decide +kernel)) (fun _ => kitAny_nil) (fun h => nomatch h))) (fun h => nomatch h)))) (fun h => nomatch h) (fun _ => ?_)
    refine hr_ifr (b := true) (YT.to (yt_or (yt_t (y_isN (b := false) (y_var rfl) (fun v H h => by rw [show v = V.str z from h]; rfl))) fun _ => yt_B (y_isiT2 (n := "str") (y_var rfl) (fun v H h => by rw [show v = V.str z from h]; exact .base (.str _)) (kitAny_cons (b := false) (kit_ty (by decide +kernel)) (fun _ => (kitAny_cons (b := true) (kit_ty (by decide +kernel)) (fun h => nomatch h) (fun _ => rfl))) (fun h => nomatch h)))) rfl) (fun _ => ?_) (fun h => nomatch h)
    refine hr_ret (Y.to (y_and (y_eqS (a := z) (d := z) (y_var rfl) (y_var rfl)) fun _ => y_and (y_eq (x := .bl false) (y := .bl false) (y_isi (n := "str") (c := "bool") (b := false) (y_var rfl) (fun v H h => by rw [show v = V.str z from h]; exact .base (.str _)) (kit_ty (by decide +kernel))) (y_isi (n := "str") (c := "bool") (b := false) (y_var rfl) (fun v H h => by rw [show v = V.str z from h]; exact .base (.str _)) (kit_ty (by decide +kernel))) rfl) fun _ => y_eq (x := .bl false) (y := .bl false) (y_isN (b := false) (y_var rfl) (fun v H h => by rw [show v = V.str z from h]; rfl)) (y_isN (b := false) (y_var rfl) (fun v H h => by rw [show v = V.str z from h]; rfl)) rfl) (by simp))
  · refine hr_ifr (b := true) (yt_B (y_isiT2 (n := "list") (y_var rfl) (fun v H h => by obtain ⟨a, vs, rfl, h1, _⟩ := h; exact .base (.lst h1)) (kitAny_cons (b := true) (kit_ty (by decide +kernel)) (fun h => nomatch h) (fun _ => rfl)))) (fun _ => ?_) (fun h => nomatch h)
    refine hr_ifr (b := false) (YT.to (yt_t (y_ne (x := .bl true) (y := .bl true) (y_isi (n := "list") (c := "list") (b := true) (y_var rfl) (fun v H h => by obtain ⟨a, vs, rfl, h1, _⟩ := h; exact .base (.lst h1)) (kit_ty (by decide +kernel))) (y_isi (n := "list") (c := "list") (b := true) (y_var rfl) (fun v H h => by obtain ⟨a, vs, rfl, h1, _⟩ := h; exact .base (.lst h1)) (kit_ty (by decide +kernel))) rfl)) (by simp)) (fun h => nomatch h) (fun _ => ?_)
    refine hr_ifr (b := false) (YT.to (yt_t (y_ne (x := .bl false) (y := .bl false) (y_isi (n := "list") (c := "tuple") (b := false) (y_var rfl) (fun v H h => by obtain ⟨a, vs, rfl, h1, _⟩ := h; exact .base (.lst h1)) (kit_ty (by decide +kernel))) (y_isi (n := "list") (c := "tuple") (b := false) (y_var rfl) (fun v H h => by obtain ⟨a, vs, rfl, h1, _⟩ := h; exact .base (.lst h1)) (kit_ty (by decide +kernel))) rfl)) (by simp)) (fun h => nomatch h) (fun _ => ?_)
    refine hr_ret (Y.to (y_and (y_eqN (y_lenL (y_var rfl)) (y_lenL (y_var rfl))) fun _ => y_all (xs := Ts) (f := fun _ => true) (y_lcA (xs := Ts) (r := fun T => Tup K [T, T]) (o := fun _ => tBo true) (yi_zipL (ya_cons (y_var rfl) (ya_cons (y_var rfl) ya_nil))) (by decide) (by omega) (fun x hx => yg_tup2 yg_name yg_name) (fun x hx => y_call (ya_cons (y_var rfl) (ya_cons (y_var rfl) ya_nil)) (hTs x hx)))) (by rw [decide_eq_true rfl, Bool.true_and]; refine congrArg tBo (List.all_eq_true.mpr fun _ _ => rfl)))
  · refine hr_ifr (b := true) (yt_B (y_isiT2 (n := "tuple") (y_var rfl) (fun v H h => by obtain ⟨a, vs, rfl, h1, _⟩ := h; exact tyx_tup h1) (kitAny_cons (b := false) (kit_ty (by decide +kernel)) (fun _ => (kitAny_cons (b := true) (kit_ty (by decide +kernel)) (fun h => nomatch h) (fun _ => rfl))) (fun h => nomatch h)))) (fun _ => ?_) (fun h => nomatch h)
    refine hr_ifr (b := false) (YT.to (yt_t (y_ne (x := .bl false) (y := .bl false) (y_isi (n := "tuple") (c := "list") (b := false) (y_var rfl) (fun v H h => by obtain ⟨a, vs, rfl, h1, _⟩ := h; exact tyx_tup h1) (kit_ty (by decide +kernel))) (y_isi (n := "tuple") (c := "list") (b := false) (y_var rfl) (fun v H h => by obtain ⟨a, vs, rfl, h1, _⟩ := h; exact tyx_tup h1) (kit_ty (by decide +kernel))) rfl)) (by simp)) (fun h => nomatch h) (fun _ => ?_)
    refine hr_ifr (b := false) (YT.to (yt_t (y_ne (x := .bl true) (y := .bl true) (y_isi (n := "tuple") (c := "tuple") (b := true) (y_var rfl) (fun v H h => by obtain ⟨a, vs, rfl, h1, _⟩ := h; exact tyx_tup h1) (kit_ty (by decide +kernel))) (y_isi (n := "tuple") (c := "tuple") (b := true) (y_var rfl) (fun v H h => by obtain ⟨a, vs, rfl, h1, _⟩ := h; exact tyx_tup h1) (kit_ty (by decide +kernel))) rfl)) (by simp)) (fun h => nomatch h) (fun _ => ?_)
    refine hr_ret (Y.to (y_and (y_eqN (y_lenT (y_var rfl)) (y_lenT (y_var rfl))) fun _ => y_all (xs := Ts) (f := fun _ => true) (y_lcA (xs := Ts) (r := fun T => Tup K [T, T]) (o := fun _ => tBo true) (yi_zipT (ya_cons (y_var rfl) (ya_cons (y_var rfl) ya_nil))) (by decide) (by omega) (fun x hx => yg_tup2 yg_name yg_name) (fun x hx => y_call (ya_cons (y_var rfl) (ya_cons (y_var rfl) ya_nil)) (hTs x hx)))) (by rw [decide_eq_true rfl, Bool.true_and]; refine congrArg tBo (List.all_eq_true.mpr fun _ _ => rfl)))
theorem ok_law_same (T : Tx K mg) : ∀ d, FnOk PP w K mg base CX0 (d + 1) (He.fAd K d_law_same.at_) (fdOf K d_law_same.at_) ["_law_found", "_law_due"] (spR (C_same K d))
  | 0 => same_step T 0 _ FnOk.never _ fun Rs R h => .inl h
  | d + 1 => by
    have h1 := same_step T (d + 1) _ (ok_law_same T d) (fun Rs R => ∃ Ts : List Ty, (∀ T ∈ Ts, C_same K d [T, T] (tBo true)) ∧ Ts.length ≤ 1000 ∧ (Rs = [Lst Ts, Lst Ts] ∨ Rs = [Tup K Ts, Tup K Ts]) ∧ R = tBo true) fun Rs R h => .inr h
    have h0 := (ok_law_same T d).mono (Nat.le_succ (d + 1))
    refine ⟨fun vs H Q E ⟨H0, Rs, R, hc, _, ha, _⟩ => by rw [ha.len, C_same.two (d := d + 1) hc]; rfl, fun A outer s H args us vs Q E hr he hb hv ⟨H0, Rs, R, hc, hx, ha, q⟩ => ?_⟩
    rcases hc with hc | hc
    · exact h0.run A outer s H args us vs Q E hr he hb hv ⟨H0, Rs, R, hc, hx, ha, q⟩
    · exact h1.run A outer s H args us vs Q E hr he hb hv ⟨H0, Rs, R, hc, hx, ha, q⟩
theorem C_same_up {Rs : List Ty} {R : Ty} {d : Nat} (h : C_same K d Rs R) : C_same K (d + 1) Rs R := .inl h
end
end HF
set_option maxHeartbeats 400000
namespace HF
open PySem PyProof.Rows L2 Evl
/-! ### the box: a list that changes; all else stays -/
def BoxM (Hb : Hp) (b : Addr) (vs : List V) : Mt := ⟨fun H0 H => Hb b = none ∧ H0 b = none ∧ Ex Hb H ∧ H b = some (.lst vs), fun H0 H H0' H' g ⟨h1, h2, h3, h4⟩ => ⟨h1, g.f b h2 (ne_none h4), h3.trans g.e, g.e b _ h4⟩⟩
abbrev boxV (n s k : Nat) : List V := [.int (n : Int), .int (s : Int), .int (k : Int)]
def Bx (Hb : Hp) (b : Addr) (C : Nat) : Mt := ⟨fun H0 H => ∃ n s k : Nat, k ≤ C ∧ s < 4294967296 ∧ (BoxM Hb b (boxV n s k)).p H0 H, fun H0 H H0' H' g ⟨n, s, k, h1, h2, h3⟩ => ⟨n, s, k, h1, h2, (BoxM Hb b (boxV n s k)).m _ _ _ _ g h3⟩⟩
def Wo (H : Hp) (b : Addr) : Hp := fun a => if a = b then none else H a
theorem Wo.at (H : Hp) (b : Addr) : Wo H b b = none := if_pos rfl
theorem Wo.ne {H : Hp} {a b : Addr} (h : a ≠ b) : Wo H b a = H a := if_neg h
def tF : Ty := ⟨fun _ _ => False, fun _ _ _ _ h => h⟩
section
variable {Γ Γ' Γ1 : Ctx} {μ μ' μ1 μ2 μo ν : Mt} {R RA RB S : Ty} {Rs Ss : List Ty} {ta tb tc te : TE} {tt tu : TT} {tr : TA} {K : PySem.W.Frag} {i j : Nat} {b c : Bool} {x y v : V} {t u : TS} {N N1 : Ctx → Mt → Prop} {e : Hp × Hp} {k l : Nat} {a p : Addr} {vs : List V} {Hb E0' : Hp}
def YB (e : Hp × Hp) (te : TE) (Γ : Ctx) (μ μ' : Mt) (R : Ty) : Prop := ∀ σ H0 H, Gr e.1 e.2 H0 H → Sx σ H0 H Γ μ → ∀ Q : VK, (∀ v H0' H', Gr e.1 e.2 H0' H' → Ex H0 H0' → Sx σ H0' H' Γ μ' → R.r v H0' → Q v H') → te σ H Q
def YBA (e : Hp × Hp) (ta : TA) (Γ : Ctx) (μ μ' : Mt) (Rs : List Ty) : Prop := ∀ σ H0 H, Gr e.1 e.2 H0 H → Sx σ H0 H Γ μ → ∀ Q : List V → Hp → Prop, (∀ vs H0' H', Gr e.1 e.2 H0' H' → Ex H0 H0' → Sx σ H0' H' Γ μ' → AllR vs Rs H0' → Q vs H') → ta σ H Q
theorem yb_y (h : Y te Γ μ R) : YB e te Γ μ μ R := fun σ H0 H g s Q q => h σ H0 H s Q fun v H1 G1 g1 r1 => q v H1 G1 (g.trans g1) g1.e0 (s.gr g1) r1
theorem YB.to (h : YB e te Γ μ μ' R) (q : R = S) : YB e te Γ μ μ' S := q ▸ h
theorem YB.cast (h : YB e te Γ μ μ' R) (q : ∀ v H, R.r v H → S.r v H) : YB e te Γ μ μ' S := fun σ H0 H g s Q qq => h σ H0 H g s Q fun v H1 G1 g1 x1 s1 r1 => qq v H1 G1 g1 x1 s1 (q _ _ r1)
theorem yb_op {r : R2} (ha : YB e ta Γ μ μ1 RA) (hb : YB e tb Γ μ1 μ2 RB) (hr : ∀ x y H0 H, Ex H0 H → RA.r x H0 → RB.r y H0 → ∀ Q : VK, (∀ z H0' H', Gr H0 H H0' H' → R.r z H0' → Q z H') → r x y H Q) : YB e (tOp r ta tb) Γ μ μ2 R :=
  fun σ H0 H g s Q q => ha σ H0 H g s _ fun x H1 G1 g1 x1 s1 r1 => hb σ H1 G1 g1 s1 _ fun y H2 G2 g2 x2 s2 r2 => hr x y H2 G2 s2.ex (RA.m _ _ _ x2 r1) r2 Q fun z H3 G3 g3 r3 => q z H3 G3 (g2.trans g3) ((x1.trans x2).trans g3.e0) (s2.gr g3) r3
theorem yba_nil : YBA e tNil Γ μ μ [] := fun σ H0 H g s Q q => q [] H0 H g (Ex.refl _) s trivial
theorem yba_cons (h : YB e te Γ μ μ1 R) (hr : YBA e tr Γ μ1 μ2 Rs) : YBA e (tCons te tr) Γ μ μ2 (R :: Rs) := fun σ H0 H g s Q q =>
  h σ H0 H g s _ fun x H1 G1 g1 x1 s1 r1 => hr σ H1 G1 g1 s1 _ fun xs H2 G2 g2 x2 s2 r2 => q _ H2 G2 g2 (x1.trans x2) s2 ⟨R.m _ _ _ x2 r1, r2⟩
theorem yb_tup (h : YBA e tr Γ μ μ1 Rs) (hl : Rs.length ≤ 100000) : YB e (tTup tr) Γ μ μ1 (Tup K Rs) := fun σ H0 H g s Q q =>
  h σ H0 H g s _ fun vs H1 G1 g1 x1 s1 r1 => ⟨sz_of (by rw [r1.len]; exact hl), fun p hp => by
    have g2 := Gr.new (o := .tup vs) s1.ex hp
    exact q _ _ _ (g1.trans g2) (x1.trans g2.e0) (s1.gr g2) ⟨p, vs, rfl, st_of upd_same, r1.m g2.e0⟩⟩
/-! statements -/
theorem hr_setB (h : YB e te Γ μ μ1 RA) (n : Hr e u (Γ.set k (some RA)) μ1 N R) : Hr e (tSeq (tAsg te (gName k)) u) Γ μ N R := fun σ H0 H D g s nx rt =>
  h σ H0 H g s _ fun v H1 G1 g1 x1 s1 r1 => n.go g1 x1 (s1.set k r1) nx rt
theorem hr_parB (h : YBA e tr Γ μ μ1 [RA, RB]) (n : Hr e u ((Γ.set k (some RA)).set l (some RB)) μ1 N R) : Hr e (tSeq (tPar k l tr) u) Γ μ N R := fun σ H0 H D g s nx rt =>
  h σ H0 H g s _ fun vs H1 G1 g1 x1 s1 r1 => by
    obtain ⟨v, w, rfl, rv, rw'⟩ := r1.two
    exact ⟨v, w, rfl, n.go g1 x1 ((s1.set k rv).set l rw') nx rt⟩
/-- statements that return, the heap's state known -/
def Hx (e : Hp × Hp) (ts : TS) (Γ : Ctx) (μ : Mt) (R : Ty) (ν : Mt) : Prop := ∀ σ H0 H (D : Ends), Gr e.1 e.2 H0 H → Sx σ H0 H Γ μ → (∀ v H0' H', Gr e.1 e.2 H0' H' → R.r v H0' → ν.p H0' H' → D.rt v H') → ts D σ H
theorem hx_seq (h : Hr e t Γ μ N1 tF) (n : ∀ Γ1 μ1, N1 Γ1 μ1 → Hx e u Γ1 μ1 R ν) : Hx e (tSeq t u) Γ μ R ν := fun σ H0 H D g s rt =>
  h σ H0 H { D with nx := u D } g s (fun σ' H0' H' Γ' μ' q g' x' s' => n Γ' μ' q σ' H0' H' D g' s' rt) (fun _ _ _ _ r => r.elim)
theorem hx_ifr (h : YT tt Γ μ b) (h1 : b = true → Hx e t Γ μ R ν) (h2 : b = false → Hx e u Γ μ R ν) : Hx e (tSeq (tIfS tt t tNext) u) Γ μ R ν := fun σ H0 H D g s rt =>
  h σ H0 H s _ fun H1 G1 g1 => by
    cases b with
    | true => exact h1 rfl σ H1 G1 { D with nx := u D } (g.trans g1) (s.gr g1) rt
    | false => exact h2 rfl σ H1 G1 D (g.trans g1) (s.gr g1) rt
theorem hx_ret (h : Y te Γ μ R) (w : ∀ H0 H, μ.p H0 H → ν.p H0 H) : Hx e (tRet te) Γ μ R ν := fun σ H0 H D g s rt =>
  h σ H0 H s _ fun v H1 G1 g1 r1 => rt v H1 G1 (g.trans g1) r1 (w _ _ (s.gr g1).mu)
theorem hx_retB (h : YB e te Γ μ μ1 R) (w : ∀ H0 H, μ1.p H0 H → ν.p H0 H) : Hx e (tRet te) Γ μ R ν := fun σ H0 H D g s rt =>
  h σ H0 H g s _ fun v H1 G1 g1 x1 s1 r1 => rt v H1 G1 g1 r1 (w _ _ s1.mu)
theorem hx_weak (h : Hx e t Γ' μ R ν) (w : Wk Γ Γ') : Hx e t Γ μ R ν := fun σ H0 H D g s rt => h σ H0 H D g (s.weak w) rt
theorem hx_exM {α : Type} {P : α → Prop} {M : α → Mt} (h : ∀ H0 H, μ.p H0 H → ∃ a, P a ∧ (M a).p H0 H) (n : ∀ a, P a → Hx e t Γ (M a) R ν) : Hx e t Γ μ R ν := fun σ H0 H D g s rt => by
  obtain ⟨a, p, m⟩ := h _ _ s.mu
  exact n a p σ H0 H D g ⟨s.sl, s.ex, m⟩ rt
theorem hx_exi {α : Type} {P : α → Prop} {r : α → Ty} (hk : Γ[k]? = some (some (ExT P r))) (n : ∀ a, P a → Hx e t (Γ.set k (some (r a))) μ R ν) : Hx e t Γ μ R ν := fun σ H0 H D g s rt => by
  obtain ⟨v, hv, a, p, rv⟩ := s.sl.2 k _ hk
  exact n a p σ H0 H D g ⟨s.sl.reset hv rv, s.ex, s.mu⟩ rt
/-! the box's cells -/
theorem y_boxi (hk : Γ[k]? = some (some (Is (.ref a)))) (hi : vs[i]? = some v) : Y (tOp (rIxL K) (tVar k) (tC (.int (i : Int)))) Γ (BoxM Hb a vs) (Is v) := fun σ H0 H s Q q => by
  obtain ⟨w, hw, rv⟩ := s.sl.2 k _ hk
  obtain rfl : w = V.ref a := rv
  exact ⟨_, hw, a, vs, i, v, rfl, rfl, sq_of s.mu.2.2.2, atI_nat hi, q v H0 H s.g0 rfl⟩
theorem hr_putX (hk : Γ[k]? = some (some (Is (.ref a)))) (h : Y te Γ (BoxM Hb a vs) (Is v)) (hi : i < vs.length) (n : N Γ (BoxM Hb a (vs.set i v))) :
    Hr (E0', Hb) (tAsg te (gSub (tVar k) (tC (.int (i : Int))) L2.rSetL)) Γ (BoxM Hb a vs) N R := fun σ H0 H D g s nx rt => by
  obtain ⟨w, hw, rv⟩ := s.sl.2 k _ hk
  obtain rfl : w = V.ref a := rv
  refine h σ H0 H s _ fun v' H1 G1 g1 r1 => ?_
  obtain rfl : v' = v := r1
  have s1 := s.gr g1
  obtain ⟨m1, m2, m3, m4⟩ := s1.mu
  refine ⟨_, hw, a, vs, (i : Int), i, rfl, rfl, m4, ?_, ?_⟩
  · exact ixN_nat hi
  · refine nx σ H1 _ Γ _ n ((g.trans g1).put m1 m2) g1.e0 ⟨s1.sl, fun c o q => ?_, m1, m2, fun c o q => ?_, upd_same⟩
    · rw [upd_ne (ne_of_none q m2)]; exact s1.ex c o q
    · rw [upd_ne (ne_of_none q m1)]; exact m3 c o q
/-! a def that takes from the box -/
def spB (C : List Ty → Nat → Nat → Ty → Prop) : Sp := fun vs H Q _ => ∃ H0 Hb b ws Rs C0 C1 R, vs = .ref b :: ws ∧ C Rs C0 C1 R ∧ Ex H0 H ∧ (Bx Hb b C0).p H0 H ∧ AllR ws Rs H0 ∧ ∀ v H0' H', Gr H0 Hb H0' H' → (Bx Hb b C1).p H0' H' → R.r v H0' → Q v H'
theorem yb_call {C : List Ty → Nat → Nat → Ty → Prop} {E : XK} {C0 C1 : Nat} (ho : μo.Off a) (hA : YBA (E0', Hb) tr Γ μ (μo.and (Bx Hb a C0)) (Is (.ref a) :: Rs)) (hC : C Rs C0 C1 R) : YB (E0', Hb) (tCall (spB C) [] E tr) Γ μ (μo.and (Bx Hb a C1)) R := fun σ H0 H g s Q q =>
  hA σ H0 H g s _ fun vs H1 G1 g1 x1 s1 r1 => by
    obtain ⟨m0, n, s', k, hk, hs, m1, m2, m3, m4⟩ := s1.mu
    cases vs with
    | nil => exact r1.elim
    | cons v ws =>
    obtain rfl : v = V.ref a := r1.1
    refine ⟨H1, Wo G1 a, a, ws, Rs, C0, C1, R, by rw [List.append_nil], hC, s1.ex, ⟨n, s', k, hk, hs, Wo.at _ _, m2, fun c o z => ?_, m4⟩, r1.2, fun v H2 G2 g2 m r2 => ?_⟩
    · by_cases e : c = a
      · subst e; rw [Wo.at] at z; cases z
      · rwa [Wo.ne e] at z
    obtain ⟨n', t', k', hk', hs', w1, w2, w3, w4⟩ := m
    have g3 : Gr E0' Hb H2 G2 := ⟨g1.e0.trans g2.e0, fun c o z => g2.e c o (by rw [Wo.ne (fun e => by rw [e, m1] at z; cases z)]; exact g1.e c o z), g2.p, fun c z z' => g2.f c (g1.f c z z') (by
      rw [Wo.ne (fun e => z' (by rw [e]; exact m1))]
      exact Ex.nn g1.e z')⟩
    have g4 : Gr H1 (upd G1 a (.lst (boxV n' t' k'))) H2 G2 := ⟨g2.e0, fun c o z => by
      by_cases e : c = a
      · subst e; rw [upd_same] at z; cases z; exact w4
      · rw [upd_ne e] at z; exact g2.e c o (by rw [Wo.ne e]; exact z), g2.p, fun c z z' => by
      by_cases e : c = a
      · subst e; exact w2
      · rw [upd_ne e] at z'; exact g2.f c z (by rw [Wo.ne e]; exact z')⟩
    refine q v H2 G2 g3 (x1.trans g2.e0) ⟨s1.sl.mono g2.e0, g2.p, μo.m _ _ _ _ g4 (ho _ _ _ m0), n', t', k', hk', hs', m1, w2, g3.e, w4⟩ r2
end
section
variable {w : World} {K : PySem.W.Frag} {mg : Str → Option Value} {base : Heap} {x qual : Str} {params : Arguments} {body : List Stmt} {scope : Scope} {dvs : List V} {kws : List (Str × V)} {f : Addr} {fd : FuncData}
theorem fnB_ok {N ps : List Str} {k : Nat} {C : List Ty → Nat → Nat → Ty → Prop} (F : FunD K x qual params body scope dvs kws f fd) (S : FnScope N ps scope) (len : ∀ Rs C0 C1 R, C Rs C0 C1 R → Rs.length + 1 = ps.length)
    (hb : ∀ Rs C0 C1 R, C Rs C0 C1 R → ∀ (cdv : Value) (A : Around) (outer : List Env) (s : Shared) (H : Hp) (E : XK), Room k (A.deeper (envOfC qual scope s.heap.objs.size f cdv)) →
      ∃ t, PSs (cxOf CX0 PP w K mg base N qual scope f cdv A outer s H E).nox body t ∧ ∀ E0 Hb b, Hx (E0, Hb) t (start0 N (Is (.ref b) :: Rs)) (Bx Hb b C0) R (Bx Hb b C1)) : FnOk PP w K mg base CX0 (k + 1) f fd ps (spB C) := by
  refine F.ok S (fun vs H Q E ⟨H0, Hb, b, ws, Rs, C0, C1, R, h1, h, _, _, ha, _⟩ => by rw [h1, List.length_cons, ha.len]; exact len Rs C0 C1 R h) fun cdv A outer s H vs Q E hr ⟨H0, Hb, b, ws, Rs, C0, C1, R, h1, hC, he, hm, ha, q⟩ => ?_
  subst h1
  obtain ⟨t, h1, h2⟩ := hb Rs C0 C1 R hC cdv A outer s H E hr
  obtain ⟨n, s', k, _, _, m1, m2, m3, m4⟩ := id hm
  exact ⟨t, h1.nox, h2 H0 Hb b _ H0 H _ ⟨Ex.refl _, m3, he, fun _ z _ => z⟩ ⟨start_sl (Rs := Is (.ref b) :: Rs) ⟨rfl, ha⟩, he, hm⟩ fun v H0' H' g r m => q _ _ _ g m r⟩
end
end HF
set_option maxHeartbeats 400000
namespace HF
open PySem PyProof.Rows L2 Evl
section
variable {Γ Γ' : Ctx} {μ : Mt} {R RA : Ty} {Rs Ss : List Ty} {te : TE} {t u : TS} {e : Hp × Hp} {k : Nat}
/-- a def that returns a new list, not kept yet -/
def spN (C : List Ty → List Ty → Prop) : Sp := fun vs H Q _ => ∃ H0 Rs Ss, C Rs Ss ∧ Ex H0 H ∧ AllR vs Rs H0 ∧ ∀ p ys H0' H', Gr H0 H H0' H' → H p = none → H0' p = none → H' p = some (.lst ys) → AllR ys Ss H0' → Q (.ref p) H'
def Hn (e : Hp × Hp) (ts : TS) (Γ : Ctx) (μ : Mt) (Ss : List Ty) : Prop := ∀ σ H0 H (D : Ends), Gr e.1 e.2 H0 H → Sx σ H0 H Γ μ → (∀ p ys H0' H', Gr e.1 e.2 H0' H' → e.2 p = none → H0' p = none → H' p = some (.lst ys) → AllR ys Ss H0' → D.rt (.ref p) H') → ts D σ H
theorem hn_set (h : Y te Γ μ RA) (n : Hn e u (Γ.set k (some RA)) μ Ss) : Hn e (tSeq (tAsg te (gName k)) u) Γ μ Ss := fun σ H0 H D g s rt =>
  h σ H0 H s _ fun v H1 G1 g1 r1 => n _ H1 G1 D (g.trans g1) ((s.gr g1).set k r1) rt
theorem hn_ret (h : YL te Γ μ Ss) : Hn e (tRet te) Γ μ Ss := fun σ H0 H D g s rt =>
  h σ H0 H s _ fun p ys H1 G1 g1 n1 n2 hp hA => rt p ys H1 G1 (g.trans g1) (fresh_back g.e n1) n2 hp hA
theorem yl_callN {tr : TA} {C : List Ty → List Ty → Prop} {E : XK} (hA : YA tr Γ μ Rs) (hC : C Rs Ss) : YL (tCall (spN C) [] E tr) Γ μ Ss := fun σ H0 H s Q q =>
  hA σ H0 H s _ fun vs H1 G1 g1 r1 => ⟨H1, Rs, Ss, hC, g1.p, by rw [List.append_nil]; exact r1, fun p ys H2 G2 g2 n1 n2 hp hA => q p ys H2 G2 (g1.trans g2) (fresh_back g1.e n1) n2 hp hA⟩
end
section
variable {w : World} {K : PySem.W.Frag} {mg : Str → Option Value} {base : Heap} 
section
variable {x qual : Str} {params : Arguments} {body : List Stmt} {scope : Scope} {dvs : List V} {kws : List (Str × V)} {f : Addr} {fd : FuncData}
theorem fnN_ok {N ps : List Str} {k : Nat} {C : List Ty → List Ty → Prop} (F : FunD K x qual params body scope dvs kws f fd) (S : FnScope N ps scope) (len : ∀ Rs Ss, C Rs Ss → Rs.length = ps.length)
    (hb : ∀ Rs Ss, C Rs Ss → ∀ (cdv : Value) (A : Around) (outer : List Env) (s : Shared) (H : Hp) (E : XK), Room k (A.deeper (envOfC qual scope s.heap.objs.size f cdv)) →
      ∃ t, PSs (cxOf CX0 PP w K mg base N qual scope f cdv A outer s H E).nox body t ∧ ∀ e, Hn e t (start0 N Rs) M0 Ss) : FnOk PP w K mg base CX0 (k + 1) f fd ps (spN C) := by
  refine F.ok S (fun vs H Q E ⟨H0, Rs, Ss, h, _, ha, _⟩ => by rw [ha.len]; exact len Rs Ss h) fun cdv A outer s H vs Q E hr ⟨H0, Rs, Ss, hC, he, ha, q⟩ => ?_
  obtain ⟨t, h1, h2⟩ := hb Rs Ss hC cdv A outer s H E hr
  exact ⟨t, h1.nox, h2 (H0, H) _ H0 H _ (Gr.refl he) ⟨start_sl ha, he, trivial⟩ fun p ys H0' H' g n1 n2 hp hA => q p ys _ _ g n1 n2 hp hA⟩
end
def absI (c : Int) : Int := if c < 0 then -c else c
def boxN (c : Int) : Int := absI c * (if decide ((10 : Int) ^ (18 : Int).toNat ≤ absI c) = true then 1 else 0)
def boxS (c : Int) (lap : Nat) : Int := ((c % 2305843009213693921 + 41177 * (lap : Int) + 53) * 38923) % 2147483563
theorem absI_nn (c : Int) : 0 ≤ absI c := by unfold absI; split <;> omega
theorem boxN_nn (c : Int) : 0 ≤ boxN c := by
  unfold boxN
  split
  · rw [Int.mul_one]; exact absI_nn c
  · rw [Int.mul_zero]; exact Int.le_refl _
theorem boxS_b (c : Int) (lap : Nat) : 0 ≤ boxS c lap ∧ boxS c lap < 2147483563 := ⟨Int.emod_nonneg _ (by decide), Int.emod_lt_of_pos _ (by decide)⟩
/-- the script: a list that nobody changes -/
def Scr (K : PySem.W.Frag) (is : List Int) : Ty := ⟨fun v H => ∃ a, v = .ref a ∧ SqL K H a (is.map V.int), fun v H H' e ⟨a, h1, h2⟩ => ⟨a, h1, ex_l e h2⟩⟩
section
variable {Γ : Ctx} {μ : Mt} {ta tb : TE} {is : List Int} {i : Int}
theorem y_lenS2 (ha : Y ta Γ μ (Scr K is)) : Y (tCB (fun xs H Q => ∃ p ys, xs = [V.ref p] ∧ (SqL K H p ys ∨ SqT K H p ys) ∧ Q (V.int ↑(List.length ys)) H) (tCons ta tNil)) Γ μ (tN is.length) := fun σ H0 H s Q q =>
  ha σ H0 H s _ fun x H1 G1 g1 r1 => by
    obtain ⟨a, rfl, h1⟩ := r1
    exact ⟨a, _, rfl, .inl (ex_l g1.p h1), q _ _ _ g1 (by rw [List.length_map]; exact rfl)⟩
theorem y_ixS2 {n : Nat} (ha : Y ta Γ μ (Scr K is)) (hb : Y tb Γ μ (tI i)) (hi : i = (n : Int)) {j : Int} (hR : is[n]? = some j) : Y (tOp (rIxL K) ta tb) Γ μ (tI j) :=
  y_op ha hb fun x y H0 H e r1 r2 Q q => by
    obtain ⟨a, rfl, h1⟩ := r1
    obtain rfl : y = V.int i := r2
    exact ⟨a, _, i, .int j, rfl, rfl, ex_l e h1, by rw [hi]; exact atI_nat (by rw [List.getElem?_map, hR]; rfl), q _ _ _ (Gr.refl e) rfl⟩
end
def C_law_box (K : PySem.W.Frag) : List Ty → List Ty → Prop := fun Rs Ss => ∃ (is : List Int) (lap : Nat), lap ≤ 10 ∧ Rs = [Scr K is, tN lap] ∧ Ss = [tI (boxN (is.getD lap 0)), tI (boxS (is.getD lap 0) lap), tI 0]
theorem sc_law_box : FnScope ["_law_script", "_law_lap", "_law_cell", "_law_seed"] ["_law_script", "_law_lap"] (defScope s_law_box) := ⟨rfl, rfl, rfl, by decide +kernel, rfl, by decide +kernel, by decide +kernel⟩
theorem ok_law_box (T : Tx K mg) : FnOk PP w K mg base CX0 1 (He.fAd K d_law_box.at_) (fdOf K d_law_box.at_) ["_law_script", "_law_lap"] (spN (C_law_box K)) := by
  refine fnN_ok T.F_law_box sc_law_box (by rintro _ _ ⟨is, lap, _, rfl, rfl⟩; rfl) fun Rs Ss hC cdv A outer s H E hr => ?_
  obtain ⟨is, lap, hlap, rfl, rfl⟩ := hC
  refine ⟨_, (pss_cons (ps_set (i := 2) sc_law_box.nd rfl (Or.inl rfl) (pe_ifExp (pt_cmpR op_lt (pv 1) (pe_callB (r := rLenA K) call_len_seq (by rfl) T.f_len (by decide +kernel) (pa_cons (pv 0) pa_nil)) (nomark _)) (pe_ix (r := rIxL K) ix_list (pv 0) (pv 1) (fun _ _ => rfl)) pe_int))
      (pss_cons (ps_set (i := 3) sc_law_box.nd rfl (Or.inl rfl) (pe_op op_mod (pe_callTy call_int1 (by rfl) T.f_int (by decide +kernel) (pa_cons (pe_op op_mul (pe_op op_add (pe_op op_add (pe_op op_mod (pe_callTy call_int1 (by rfl) T.f_int (by decide +kernel) (pa_cons (pv 2) pa_nil)) pe_int) (pe_op op_mul pe_int (pv 1))) pe_int) pe_int) pa_nil)) pe_int))
      (pss_one (ps_ret (pe_lst (pa_cons (pe_op op_mul (pe_callB call_abs (by rfl) T.f_abs (by decide +kernel) (pa_cons (pv 2) pa_nil)) (pe_callTy call_int1 (by rfl) T.f_int (by decide +kernel) (pa_cons (pe_cmpR op_ge (pe_callB call_abs (by rfl) T.f_abs (by decide +kernel) (pa_cons (pv 2) pa_nil)) (pe_op op_pow pe_int pe_int) (nomark _)) pa_nil))) (pa_cons (pv 3) (pa_cons pe_int pa_nil)))))))), fun e => ?_⟩
  refine hn_set (RA := tI (is.getD lap 0)) (y_if (b := decide (lap < is.length)) (yt_t (y_ltN (y_var rfl) (y_lenS2 (y_var rfl)))) (fun hb => y_ixS2 (n := lap) (y_var rfl) (y_var rfl) rfl ?_) fun hb => Y.to y_c ?_) ?_
  · have hl : lap < is.length := of_decide_eq_true hb
    rw [List.getD_eq_getElem?_getD, List.getElem?_eq_getElem hl]
    rfl
  · have hl : ¬ lap < is.length := of_decide_eq_false hb
    rw [List.getD_eq_getElem?_getD, List.getElem?_eq_none (by omega)]
    rfl
  generalize is.getD lap 0 = c
  refine hn_set (RA := tI (boxS c lap)) (y_mod (y_int1 (y_mul (y_add (y_add (y_mod (y_int1 (y_var rfl)) y_c (by decide)) (y_mul y_c (y_var rfl) (.inl ⟨by decide, by decide⟩))) y_c) y_c (.inr ⟨by decide, by decide⟩))) y_c (by decide)) ?_
  refine hn_ret (yl_lst (ya_cons (y_mul (i := absI c) (y_abs (y_var rfl)) (y_intB (y_ge (y_abs (y_var rfl)) (y_pow y_c y_c ⟨by decide, by decide, by decide⟩))) (.inr ?_)) (ya_cons (y_var rfl) (ya_cons y_c ya_nil))) (by show 3 ≤ 100000; decide))
  split <;> exact ⟨by decide, by decide⟩
/-! ### take -/
abbrev tLt' (m : Nat) : Ty := ExT (fun r : Nat => r < m) tN
def C_law_take : List Ty → Nat → Nat → Ty → Prop := fun Rs C0 C1 R => ∃ m : Nat, 0 < m ∧ m < 1000 ∧ C0 < 1000000 ∧ C1 = C0 + 1 ∧ Rs = [tN m] ∧ R = tLt' m
theorem lt_of_mod {x : Int} {m : Nat} (hm : 0 < m) : ∀ v H, (tI (x % (m : Int))).r v H → (tLt' m).r v H := fun v H h => by
  have h1 := Int.emod_nonneg x (show (m : Int) ≠ 0 by omega)
  have h2 := Int.emod_lt_of_pos x (show (0 : Int) < (m : Int) by omega)
  refine ⟨(x % (m : Int)).toNat, by omega, ?_⟩
  show v = V.int _
  rw [show v = V.int (x % (m : Int)) from h, Int.toNat_of_nonneg h1]
theorem sc_law_take : FnScope ["_law_box_here", "_law_below", "_law_once", "_law_odd", "_law_found"] ["_law_box_here", "_law_below"] (defScope s_law_take) := ⟨rfl, rfl, rfl, by decide +kernel, rfl, by decide +kernel, by decide +kernel⟩
theorem ok_law_take (T : Tx K mg) : FnOk PP w K mg base CX0 1 (He.fAd K d_law_take.at_) (fdOf K d_law_take.at_) ["_law_box_here", "_law_below"] (spB C_law_take) := by
  refine fnB_ok T.F_law_take sc_law_take (by rintro _ _ _ _ ⟨m, _, _, _, _, rfl, _⟩; rfl) fun Rs C0 C1 R hC cdv A outer s H E hr => ?_
  obtain ⟨m, hm, hm2, hC0, rfl, rfl, rfl⟩ := hC
  refine ⟨_, (pss_cons (ps_if (pt_cmpR op_gt (pe_ix (r := rIxL K) ix_list (pv 0) pe_int (fun _ _ => rfl)) pe_int (nomark _)) (pss_cons (ps_set (i := 4) sc_law_take.nd rfl (Or.inl rfl) (pe_op op_mod (pe_callTy call_int1 (by rfl) T.f_int (by decide +kernel) (pa_cons (pe_ix (r := rIxL K) ix_list (pv 0) pe_int (fun _ _ => rfl)) pa_nil)) (pv 1)))
      (pss_cons (ps_asg (pe_op op_fdivN (pe_ix (r := rIxL K) ix_list (pv 0) pe_int (fun _ _ => rfl)) (pv 1)) (pg_sub (pv 0) pe_int set_list))
      (pss_one (ps_ret (pv 4))))) pss_nil)
      (pss_cons (ps_asg (pe_op op_add (pe_ix (r := rIxL K) ix_list (pv 0) pe_int (fun _ _ => rfl)) pe_int) (pg_sub (pv 0) pe_int set_list))
      (pss_cons (ps_set (i := 2) sc_law_take.nd rfl (Or.inl rfl) (pe_op op_mod (pe_callTy call_int1 (by rfl) T.f_int (by decide +kernel) (pa_cons (pe_op op_pow (pe_op op_add (pe_ix (r := rIxL K) ix_list (pv 0) pe_int (fun _ _ => rfl)) (pe_op op_mul pe_int (pe_ix (r := rIxL K) ix_list (pv 0) pe_int (fun _ _ => rfl)))) pe_int) pa_nil)) pe_int))
      (pss_cons (ps_set (i := 3) sc_law_take.nd rfl (Or.inl rfl) (pe_op op_add (pe_op op_mod (pe_callTy call_int1 (by rfl) T.f_int (by decide +kernel) (pa_cons (pv 2) pa_nil)) pe_int) pe_int))
      (pss_one (ps_ret (pe_op op_mod (pe_callTy call_int1 (by rfl) T.f_int (by decide +kernel) (pa_cons (pe_op op_fdivN (pe_op op_mod (pe_callTy call_int1 (by rfl) T.f_int (by decide +kernel) (pa_cons (pe_op op_add (pe_op op_mul (pv 2) (pv 3)) (pe_op op_mul (pe_ix (r := rIxL K) ix_list (pv 0) pe_int (fun _ _ => rfl)) pe_int)) pa_nil)) pe_int) pe_int) pa_nil)) (pv 1)))))))), fun E0 Hb b => ?_⟩
  refine hx_exM (α := Nat × Nat × Nat) (P := fun a => a.2.2 ≤ C0 ∧ a.2.1 < 4294967296) (M := fun a => BoxM Hb b (boxV a.1 a.2.1 a.2.2)) (fun H0 H ⟨n, s, k, h1, h2, h3⟩ => ⟨(n, s, k), ⟨h1, h2⟩, h3⟩) ?_
  rintro ⟨n, s, k⟩ ⟨hk', hs'⟩
  have hk : k ≤ C0 := hk'
  have hs : s < 4294967296 := hs'
  refine hx_ifr (b := decide ((0 : Int) < (n : Int))) (yt_t (y_gt (y_boxi (i := 0) rfl rfl) y_c)) (fun _ => ?_) (fun _ => ?_)
  · refine hx_seq (N1 := fun Γ' μ' => Γ' = _ ∧ μ' = BoxM Hb b (boxV n s k)) (hr_set1 (RA := tI ((n : Int) % (m : Int))) (y_mod (y_int1 (y_boxi (i := 0) rfl rfl)) (y_var rfl) (by omega)) ⟨rfl, rfl⟩) ?_
    rintro _ _ ⟨rfl, rfl⟩
    refine hx_seq (N1 := fun Γ' μ' => Γ' = _ ∧ μ' = BoxM Hb b (boxV (n / m) s k)) (hr_putX (i := 0) (v := .int ((n / m : Nat) : Int)) rfl (Y.to (y_fdiv (y_boxi (i := 0) rfl rfl) (y_var rfl) ⟨by omega, by omega⟩) (by rw [← Int.ofNat_fdiv])) (by show 0 < 3; decide) ⟨rfl, rfl⟩) ?_
    rintro _ _ ⟨rfl, rfl⟩
    exact hx_ret ((y_var rfl).cast (lt_of_mod hm)) fun H0 H h => ⟨n / m, s, k, by omega, hs, h⟩
  · refine hx_seq (N1 := fun Γ' μ' => Γ' = _ ∧ μ' = BoxM Hb b (boxV n s (k + 1))) (hr_putX (i := 2) (v := .int ((k + 1 : Nat) : Int)) rfl (y_addN (n := k) (m := 1) (y_boxi (i := 2) rfl rfl) y_c) (by show 2 < 3; decide) ⟨rfl, rfl⟩) ?_
    rintro _ _ ⟨rfl, rfl⟩
    refine hx_seq (N1 := fun Γ' μ' => ∃ o : Int, (0 ≤ o ∧ o < 2147483549) ∧ Γ' = [some (Is (.ref b)), some (tN m), some (tI o), none, none] ∧ μ' = BoxM Hb b (boxV n s (k + 1))) (hr_set1 (y_mod (y_int1 (y_pow (y_add (y_boxi (i := 1) rfl rfl) (y_mul y_c (y_boxi (i := 2) rfl rfl) (.inl ⟨by decide, by decide⟩))) y_c ⟨by decide, by decide, ?_⟩)) y_c (by decide)) ⟨_, ⟨Int.emod_nonneg _ (by decide), Int.emod_lt_of_pos _ (by decide)⟩, rfl, rfl⟩) ?_
    · omega
    rintro _ _ ⟨o, ⟨ho1, ho2⟩, rfl, rfl⟩
    refine hx_seq (N1 := fun Γ' μ' => ∃ d : Int, Γ' = [some (Is (.ref b)), some (tN m), some (tI o), some (tI d), none] ∧ μ' = BoxM Hb b (boxV n s (k + 1))) (hr_set1 (y_add (y_mod (y_int1 (y_var rfl)) y_c (by decide)) y_c) ⟨_, rfl, rfl⟩) ?_
    rintro _ _ ⟨d, rfl, rfl⟩
    refine hx_ret (Y.cast (y_mod (y_int1 (y_fdiv (y_mod (y_int1 (y_add (y_mul (y_var rfl) (y_var rfl) (.inl ⟨by omega, by omega⟩)) (y_mul (y_boxi (i := 2) rfl rfl) y_c (.inr ⟨by decide, by decide⟩)))) y_c (by decide)) y_c ⟨by decide, by decide⟩)) (y_var rfl) (by omega)) (lt_of_mod hm)) fun H0 H h => ⟨n, s, k + 1, by omega, hs, h⟩
end
end HF
set_option maxHeartbeats 400000
namespace HF
open PySem PyProof.Rows L2 Evl
section
variable {Γ Γ' : Ctx} {μ μ' μ1 μ2 ν : Mt} {R RA : Ty} {Rs Ss : List Ty} {te ta tb : TE} {t u : TS} {e : Hp × Hp} {k n m C C' : Nat} {Hb : Hp} {b : Addr} {z : Str} {P : Nat → Prop}
theorem hr_parB1 {tr : TA} {RB : Ty} {l : Nat} {N : Ctx → Mt → Prop} (h : YBA e tr Γ μ μ1 [RA, RB]) (n : N ((Γ.set k (some RA)).set l (some RB)) μ1) : Hr e (tPar k l tr) Γ μ N R := fun σ H0 H D g s nx rt =>
  h σ H0 H g s _ fun vs H1 G1 g1 x1 s1 r1 => by
    obtain ⟨v, w, rfl, rv, rw'⟩ := r1.two
    exact ⟨v, w, rfl, nx _ H1 G1 _ _ n g1 x1 ((s1.set k rv).set l rw')⟩
theorem hx_mu (w : ∀ H0 H, μ.p H0 H → μ'.p H0 H) (h : Hx e t Γ μ' R ν) : Hx e t Γ μ R ν := fun σ H0 H D g s rt => h σ H0 H D g ⟨s.sl, s.ex, w _ _ s.mu⟩ rt
theorem Bx.up {H0 H : Hp} (h : (Bx Hb b C).p H0 H) (l : C ≤ C') : (Bx Hb b C').p H0 H := by
  obtain ⟨n, s, k, h1, h2, h3⟩ := h
  exact ⟨n, s, k, by omega, h2, h3⟩
theorem Mt.Off.m0 {b : Addr} : M0.Off b := fun _ _ _ _ => trivial
abbrev tNat : Ty := ExT (fun _ : Nat => True) tN
theorem yb_addE (ha : YB e ta Γ μ μ1 (tN n)) (hb : YB e tb Γ μ1 μ2 (ExT P tN)) : YB e (tOp (rI0 fun i j => V.int (i + j)) ta tb) Γ μ μ2 tNat :=
  yb_op ha hb fun x y H0 H x1 r1 r2 Q q => by
    obtain ⟨r, _, r2⟩ := r2
    exact ⟨_, _, r1, r2, q _ H0 H (Gr.refl x1) ⟨n + r, trivial, by show _ = V.int ((n + r : Nat) : Int); rw [Int.natCast_add]⟩⟩
theorem yb_modE (ha : YB e ta Γ μ μ1 tNat) (hb : YB e tb Γ μ1 μ2 (tN n)) (hn : 0 < n) : YB e (tOp (rI (fun _ j => 0 < j) fun i j => V.int (i % j)) ta tb) Γ μ μ2 (tLt' n) :=
  yb_op ha hb fun x y H0 H x1 r1 r2 Q q => by
    obtain ⟨r, _, r1⟩ := r1
    exact ⟨_, _, r1, r2, by omega, q _ H0 H (Gr.refl x1) (lt_of_mod hn _ H0 rfl)⟩
theorem y_lenS (ha : Y ta Γ μ (tSt z)) (hz : z.length ≤ 100000) : Y (tCB (fun xs H Q => ∃ z, xs = [.str z] ∧ z.length ≤ sizeLine ∧ Q (.int z.length) H) (tCons ta tNil)) Γ μ (tN z.length) := fun σ H0 H s Q q =>
  ha σ H0 H s _ fun x H1 G1 g1 r1 => ⟨z, by rw [show x = V.str z from r1], sz_of hz, q _ _ _ g1 rfl⟩
theorem yb_ixS (ha : YB e ta Γ μ μ1 (tSt z)) (hb : YB e tb Γ μ1 μ2 (tLt' m)) (hl : z.length ≤ 100000) (hm : z.cps.toList.length = m) : YB e (tOp rIxS ta tb) Γ μ μ2 (ExT (fun _ : Str => True) tSt) :=
  yb_op ha hb fun x y H0 H x1 r1 r2 Q q => by
    obtain ⟨r, hr, r2⟩ := r2
    have hr' : r < z.cps.toList.length := by omega
    exact ⟨z, (r : Int), z.cps.toList[r], r1, r2, sz_of hl, atI_nat (List.getElem?_eq_getElem hr'), q _ H0 H (Gr.refl x1) ⟨_, trivial, rfl⟩⟩
end
def LevOk (n : Nat) : LEv → Prop
  | .inl p => p < n
  | .inr e => EvOk n e
abbrev words : Str := "llaammtt"
theorem words_len : words.length = 8 := by decide +kernel
theorem words_cps : words.cps.toList.length = 8 := by decide +kernel
section
variable {w : World} {K : PySem.W.Frag} {mg : Str → Option Value} {base : Heap} 
def C_law_event (K : PySem.W.Frag) : List Ty → Nat → Nat → Ty → Prop := fun Rs C0 C1 R => ∃ n : Nat, 1 < n ∧ n < 1000 ∧ C0 + 3 < 1000000 ∧ C1 = C0 + 3 ∧ Rs = [tN n, tSt words] ∧ R = ExT (LevOk n) (tLe K)
theorem sc_law_event : FnScope ["_law_box_here", "_law_folk", "_law_words", "_law_p", "_law_way"] ["_law_box_here", "_law_folk", "_law_words"] (defScope s_law_event) := ⟨rfl, rfl, rfl, by decide +kernel, rfl, by decide +kernel, by decide +kernel⟩
theorem ok_law_event (T : Tx K mg) : FnOk PP w K mg base CX0 2 (He.fAd K d_law_event.at_) (fdOf K d_law_event.at_) ["_law_box_here", "_law_folk", "_law_words"] (spB (C_law_event K)) := by
  have G_law_take := ok_law_take T (w := w) (base := base)
  refine fnB_ok T.F_law_event sc_law_event (by rintro _ _ _ _ ⟨m, _, _, _, _, rfl, _⟩; rfl) fun Rs C0 C1 R hC cdv A outer s H E hr => ?_
  obtain ⟨n, hn, hn2, hC0, rfl, rfl, rfl⟩ := hC
  refine ⟨_, (pss_cons (ps_par (i := 3) (j := 4) (by rfl) sc_law_event.nd rfl rfl (by decide) rfl rfl (pa_cons (pe_call G_law_take (hr.mono (by decide)) rfl T.g__law_take T.F_law_take.kp T.b_law_take .nil pass0 (pa_cons (pv 0) (pa_cons (pv 1) pa_nil))) (pa_cons (pe_ix ix_str (pv 2) (pe_call G_law_take (hr.mono (by decide)) rfl T.g__law_take T.F_law_take.kp T.b_law_take .nil pass0 (pa_cons (pv 0) (pa_cons (pe_callB call_len_str (by rfl) T.f_len (by decide +kernel) (pa_cons (pv 2) pa_nil)) pa_nil))) (fun _ _ => rfl)) pa_nil)) (by rfl))
      (pss_cons (ps_if (PW.pt (pw_or (pt_cmpR op_eq (pv 4) pe_str (nomark _)) (pw_or1 (PW.pt (pw_and (pt_cmpR op_eq (pv 1) pe_int (nomark _)) (pw_and1 (pt_cmpR op_ne (pv 4) pe_str (nomark _)))))))) (pss_one (ps_ret (pe_tup (pa_cons pe_str (pa_cons (pv 3) pa_nil))))) pss_nil)
      (pss_cons (ps_if (pt_cmpR op_eq (pv 4) pe_str (nomark _)) (pss_one (ps_ret (pe_tup (pa_cons pe_str (pa_cons (pv 3) pa_nil))))) pss_nil)
      (pss_one (ps_ret (pe_tup (pa_cons (pe_ifExp (pt_cmpR op_eq (pv 4) pe_str (nomark _)) pe_str pe_str) (pa_cons (pv 3) (pa_cons (pe_op op_mod (pe_op op_add (pe_op op_add (pv 3) pe_int) (pe_call G_law_take (hr.mono (by decide)) rfl T.g__law_take T.F_law_take.kp T.b_law_take .nil pass0 (pa_cons (pv 0) (pa_cons (pe_op op_sub (pv 1) pe_int) pa_nil)))) (pv 1)) pa_nil))))))))), fun E0 Hb b => ?_⟩
  refine hx_mu (μ' := M0.and (Bx Hb b C0)) (fun H0 H h => ⟨trivial, h⟩) ?_
  refine hx_seq (N1 := fun Γ' μ' => Γ' = [some (Is (.ref b)), some (tN n), some (tSt words), some (tLt' n), some (ExT (fun _ : Str => True) tSt)] ∧ μ' = M0.and (Bx Hb b (C0 + 2))) (hr_parB1 (RA := tLt' n) (RB := ExT (fun _ : Str => True) tSt) (yba_cons (yb_call (C1 := C0 + 1) M0.off (yba_cons (yb_y (y_var rfl)) (yba_cons (yb_y (y_var rfl)) yba_nil)) ⟨n, by omega, hn2, by omega, rfl, rfl, rfl⟩) (yba_cons (yb_ixS (z := words) (m := 8) (yb_y (y_var rfl)) (yb_call (C1 := C0 + 2) M0.off (yba_cons (yb_y (y_var rfl)) (yba_cons (yb_y (y_lenS (z := words) (y_var rfl) (by rw [words_len]; decide))) yba_nil)) ⟨8, by decide, by decide, by omega, rfl, by rw [words_len], rfl⟩) (by rw [words_len]; decide) words_cps) yba_nil)) ⟨rfl, rfl⟩) ?_
  rintro _ _ ⟨rfl, rfl⟩
  refine hx_exi (k := 3) rfl fun p hp => hx_exi (k := 4) rfl fun z _ => ?_
  have hup : ∀ {H0 H : Hp}, (M0.and (Bx Hb b (C0 + 2))).p H0 H → (Bx Hb b (C0 + 3)).p H0 H := fun h => Bx.up h.2 (by omega)
  refine hx_ifr (b := decide (z = "l") || (decide (n = 1) && !decide (z = "a"))) (yt_or (yt_t (y_eqS (y_var rfl) y_c)) fun _ => yt_and (yt_t (y_eqN (m := 1) (y_var rfl) y_c)) fun _ => yt_t (y_neS (y_var rfl) y_c)) (fun _ => ?_) (fun _ => ?_)
  · exact hx_ret (Y.cast (y_tup (K := K) (ya_cons y_c (ya_cons (y_var rfl) ya_nil)) (by show 2 ≤ 100000; decide)) fun v H h => ⟨.inr (.look p), hp, h⟩) fun H0 H h => hup h
  refine hx_ifr (b := decide (z = "a")) (yt_t (y_eqS (y_var rfl) y_c)) (fun _ => ?_) (fun _ => ?_)
  · exact hx_ret (Y.cast (y_tup (K := K) (ya_cons y_c (ya_cons (y_var rfl) ya_nil)) (by show 2 ≤ 100000; decide)) fun v H h => ⟨.inl p, hp, h⟩) fun H0 H h => hup h
  refine hx_retB (μ1 := M0.and (Bx Hb b (C0 + 3))) (YB.cast (yb_tup (K := K) (yba_cons (yb_y (R := tSt (if decide (z = "m") = true then ("meet" : Str) else "tell")) (y_if (b := decide (z = "m")) (yt_t (y_eqS (y_var rfl) y_c)) (fun h => Y.to y_c (by rw [if_pos h])) (fun h => Y.to y_c (by rw [if_neg (by rw [h]; decide)])))) (yba_cons (yb_y (y_var rfl)) (yba_cons (yb_modE (n := n) (yb_addE (n := p + 1) (yb_y (y_addN (m := 1) (y_var rfl) y_c)) (yb_call (C0 := C0 + 2) (C1 := C0 + 3) M0.off (yba_cons (yb_y (y_var rfl)) (yba_cons (yb_y (R := tN (n - 1)) (Y.to (y_sub (y_var rfl) y_c) (by
    refine congrArg (fun i : Int => tI i) ?_
    omega))) yba_nil)) ⟨n - 1, by omega, by omega, by omega, rfl, rfl, rfl⟩)) (yb_y (y_var rfl)) (by omega)) yba_nil))) (by show 3 ≤ 100000; decide)) ?_) fun H0 H h => h.2
  rintro v H ⟨a, vs, rfl, h1, h2⟩
  obtain ⟨v1, v2, v3, rfl, k1, k2, q, hq, k3⟩ := h2.three
  refine ⟨.inr (Evt.two (decide (z = "m")) p q), ?_, ?_⟩
  · show EvOk n (Evt.two _ p q)
    unfold Evt.two
    split <;> exact ⟨hp, hq⟩
  · refine (show (tEv K (Evt.two (decide (z = "m")) p q)).r (.ref a) H from ?_)
    have t1 : tEv K (Evt.two (decide (z = "m")) p q) = Tup K [tSt (if decide (z = "m") = true then ("meet" : Str) else "tell"), tN p, tN q] := by cases decide (z = "m") <;> rfl
    rw [t1]
    exact ⟨a, _, rfl, h1, k1, k2, k3, trivial⟩
end
end HF
set_option maxHeartbeats 400000
namespace HF
open PySem PyProof.Rows L2 Evl
/-! ### the counts: a dict by words -/
def ctL (ks : List Str) (c : Str → Nat) : List (L2.Key × V) := ks.map fun z => ((Sum.inr z : L2.Key), V.int (c z : Int))
abbrev cKeys : List Str := ["look", "add", "meet", "tell"]
theorem ct_val {c : Str → Nat} {z : Str} : ∀ {ks : List Str}, z ∈ ks → valV (ctL ks c) (Sum.inr z : L2.Key) = some (V.int (c z : Int))
  | k :: ks, h => by
    unfold valV ctL
    rw [List.map_cons, List.find?_cons]
    by_cases e : k = z
    · subst e; simp
    · have : decide ((Sum.inr k : L2.Key) = Sum.inr z) = false := decide_eq_false fun q => e (Sum.inr.inj q)
      rw [this]
      rcases List.mem_cons.mp h with q | q
      · exact absurd q.symm e
      · exact ct_val q
def upC (c : Str → Nat) (z : Str) (m : Nat) : Str → Nat := fun y => if y = z then m else c y
theorem ct_put {c : Str → Nat} {z : Str} {m : Nat} {ks : List Str} (h : z ∈ ks) : putK (ctL ks c) (Sum.inr z : L2.Key) (V.int (m : Int)) = ctL ks (upC c z m) := by
  have hany : ((ctL ks c).any fun kv => decide (kv.1 = (Sum.inr z : L2.Key))) = true := List.any_eq_true.mpr ⟨(Sum.inr z, V.int (c z : Int)), List.mem_map.mpr ⟨z, h, rfl⟩, decide_eq_true rfl⟩
  unfold putK
  rw [if_pos hany]
  unfold ctL
  rw [List.map_map]
  refine List.map_congr_left fun y _ => ?_
  show (if (Sum.inr y : L2.Key) = Sum.inr z then _ else _) = ((Sum.inr y : L2.Key), V.int (upC c z m y : Int))
  unfold upC
  by_cases e : y = z
  · subst e; rw [if_pos rfl, if_pos rfl]
  · rw [if_neg (fun q => e (Sum.inr.inj q)), if_neg e]
def Cd (e : Hp × Hp) (a : Addr) (c : Str → Nat) : Mt := ⟨fun H0 H => e.2 a = none ∧ H0 a = none ∧ H a = some (.dK (ctL cKeys c)), fun H0 H H0' H' g ⟨h1, h2, h3⟩ => ⟨h1, g.f a h2 (ne_none h3), g.e a _ h3⟩⟩
section
variable {Γ Γ' Γ1 : Ctx} {μ μ' μ1 μ2 μo ν : Mt} {R RA RB S : Ty} {Rs Ss : List Ty} {ta tb tc te td tk : TE} {K : PySem.W.Frag} {i j : Nat} {b : Bool} {x y v : V} {t u : TS} {N N1 : Ctx → Mt → Prop} {e : Hp × Hp} {k l m : Nat} {a p : Addr} {c : Str → Nat} {z : Str}
theorem y_getC (hk : Γ[k]? = some (some (Is (.ref a)))) (h : Y te Γ μ (tSt z)) (hz : z ∈ cKeys) (hm : ∀ H0 H, μ.p H0 H → (Cd e a c).p H0 H) : Y (tDGet (tVar k) te) Γ μ (tN (c z)) := fun σ H0 H s Q q => by
  obtain ⟨w, hw, rv⟩ := s.sl.2 k _ hk
  obtain rfl : w = V.ref a := rv
  refine ⟨_, hw, h σ H0 H s _ fun y H1 G1 g1 r1 => ?_⟩
  obtain ⟨m1, m2, m3⟩ := hm _ _ (s.gr g1).mu
  exact ⟨a, _, rfl, .inl ⟨ctL cKeys c, Sum.inr z, .inl m3, r1, (ct_val hz).symm⟩, q _ _ _ g1 rfl⟩
theorem hr_putC (hk : Γ[k]? = some (some (Is (.ref a)))) (ho : μ.Off a) (hv : Y te Γ (μ.and (Cd e a c)) (tN m)) (h : Y tk Γ (μ.and (Cd e a c)) (tSt z)) (hz : z ∈ cKeys) (n : N Γ (μ.and (Cd e a (upC c z m)))) : Hr e (sDPut (tVar k) tk te) Γ (μ.and (Cd e a c)) N R := fun σ H0 H D g s nx rt =>
  hv σ H0 H s _ fun v H1 G1 g1 r1 => by
    have s1 := s.gr g1
    obtain ⟨w, hw, rv⟩ := s1.sl.2 k _ hk
    obtain rfl : w = V.ref a := rv
    refine ⟨_, hw, h σ H1 G1 s1 _ fun y H2 G2 g2 r2 => ?_⟩
    have s2 := s1.gr g2
    obtain ⟨m0, m1, m2, m3⟩ := s2.mu
    obtain rfl : y = V.str z := r2
    obtain rfl : v = V.int (m : Int) := r1
    refine ⟨a, _, rfl, DPut.k (k := Sum.inr z) m3 (sz_lt (by show 4 < 100000; decide)), ?_⟩
    rw [ct_put hz]
    refine nx σ H2 _ Γ _ n (((g.trans g1).trans g2).put m1 m2) (g1.e0.trans g2.e0) ⟨s2.sl, fun b o q => ?_, ho _ _ _ m0, m1, m2, upd_same⟩
    rw [upd_ne (ne_of_none q m2)]
    exact s2.ex b o q
theorem merge0 : mergeK [] (ctL cKeys fun _ => 0) = ctL cKeys fun _ => 0 := by decide +kernel
/-- a new object -/
def YN (te : TE) (Γ : Ctx) (μ : Mt) (o : HO) : Prop := ∀ σ H0 H, Sx σ H0 H Γ μ → ∀ Q : VK, (∀ p H0' H', Gr H0 H H0' H' → H p = none → H0' p = none → H' p = some o → Q (.ref p) H') → te σ H Q
theorem yn_ct : YN (tDisp [(tC (.str "look"), tC (.int 0)), (tC (.str "add"), tC (.int 0)), (tC (.str "meet"), tC (.int 0)), (tC (.str "tell"), tC (.int 0))]) Γ μ (.dK (ctL cKeys fun _ => 0)) := fun σ H0 H s Q q => fun d hd => by
  refine ⟨upd_same, ctL cKeys fun _ => 0, rfl, by show 4 ≤ 15; decide, ?_⟩
  rw [merge0]
  have hd1 : H0 d = none := fresh_back s.ex hd
  exact q d H0 _ ((Gr.own (o := .dK []) s.ex hd).put (o := .dK (ctL cKeys fun _ => 0)) hd hd1) hd hd1 upd_same
/-- found, count = ([], {..: 0}) -/
theorem hx_parCD {b : Addr} (hb : ∀ H0 H, μ.p H0 H → H b ≠ none) (h1 : YL ta Γ μ []) (h2 : YN tb Γ μ (.dK (ctL cKeys c))) (n : ∀ f d, f ≠ d → f ≠ b → d ≠ b → e.2 f = none → e.2 d = none → Hx e u ((Γ.set k (some (Is (.ref f)))).set l (some (Is (.ref d)))) ((μ.and (Cl e f [])).and (Cd e d c)) R ν) :
    Hx e (tSeq (tPar k l (tCons ta (tCons tb tNil))) u) Γ μ R ν := fun σ H0 H D g s rt =>
  h1 σ H0 H s _ fun f vs H1 G1 g1 n1 n2 hp hA => h2 σ H1 G1 (s.gr g1) _ fun d H2 G2 g2 m1 m2 hd => by
    have hfd : f ≠ d := fun z => by rw [z, m1] at hp; cases hp
    have hfb : f ≠ b := fun z => hb _ _ s.mu (by rw [← z]; exact n1)
    have hdb : d ≠ b := fun z => hb _ _ s.mu (by rw [← z]; exact fresh_back g1.e m1)
    refine ⟨.ref f, .ref d, rfl, (n f d hfd hfb hdb (fresh_back g.e n1) (fresh_back (g.trans g1).e m1)) _ _ _ D (g.trans (g1.trans g2)) ?_ rt⟩
    have s1 := ((s.gr (g1.trans g2)).set k (R := Is (.ref f)) (v := .ref f) rfl).set l (R := Is (.ref d)) (v := .ref d) rfl
    exact ⟨s1.sl, s1.ex, ⟨s1.mu, fresh_back g.e n1, g2.f f n2 (ne_none hp), vs, g2.e f _ hp, hA.m g2.e0⟩, fresh_back (g.trans g1).e m1, m2, hd⟩
theorem Bx.off {Hb : Hp} {b d : Addr} {C : Nat} (h : Hb d = none) (hb : d ≠ b) : (Bx Hb b C).Off d := fun H0 H o ⟨n, s, k, h1, h2, h3, h4, h5, h6⟩ => ⟨n, s, k, h1, h2, h3, h4, fun a u q => by rw [upd_ne (ne_of_none q h)]; exact h5 a u q, by rw [upd_ne (Ne.symm hb)]; exact h6⟩
theorem Cd.off {d a : Addr} (h : d ≠ a) : (Cd e d c).Off a := fun H0 H o ⟨h1, h2, h3⟩ => ⟨h1, h2, by rw [upd_ne h]; exact h3⟩
end
end HF
set_option maxHeartbeats 400000
namespace HF
open PySem PyProof.Rows L2 Evl
section
variable {w : World} {K : PySem.W.Frag} {mg : Str → Option Value} {base : Heap} 
section
variable {Γ : Ctx} {μ : Mt} {e : Hp × Hp} {k : Nat} {a : Addr} {Rs : List Ty}
theorem y_tupC (hk : Γ[k]? = some (some (Is (.ref a)))) (hm : ∀ H0 H, μ.p H0 H → (Cl e a Rs).p H0 H) : Y (tCB (rTupA K) (tCons (tVar k) tNil)) Γ μ (Tup K Rs) := fun σ H0 H s Q q => by
  obtain ⟨v, hw, rv⟩ := s.sl.2 k _ hk
  obtain rfl : v = V.ref a := rv
  obtain ⟨c1, c2, vs, c3, c4⟩ := hm _ _ s.mu
  exact ⟨_, hw, a, vs, rfl, .inl ⟨sq_of c3, fun p hp => q _ _ _ (Gr.new s.ex hp) ⟨p, vs, rfl, st_of upd_same, c4.m (Ex.new (fresh_back s.ex hp))⟩⟩⟩
end
def lw : LEv → Str
  | .inl _ => "add"
  | .inr e => e.word
def lns : LEv → List Nat
  | .inl p => [p]
  | .inr e => e.ns
theorem tLe_eq (x : LEv) : tLe K x = Tup K (tSt (lw x) :: (lns x).map tN) := by cases x <;> rfl
theorem lw_mem (x : LEv) : lw x ∈ cKeys := by
  rcases x with p | (p | ⟨p, q⟩ | ⟨p, q⟩)
  · exact .tail _ (.head _)
  · exact .head _
  · exact .tail _ (.tail _ (.head _))
  · exact .tail _ (.tail _ (.tail _ (.head _)))
theorem lw_len (x : LEv) : (lns x).length = if decide (lw x = "look") = true ∨ decide (lw x = "add") = true then 1 else 2 := by
  rcases x with p | (p | ⟨p, q⟩ | ⟨p, q⟩)
  · show (1 : Nat) = if decide (("add" : Str) = "look") = true ∨ decide (("add" : Str) = "add") = true then 1 else 2
    decide +kernel
  · show (1 : Nat) = if decide (("look" : Str) = "look") = true ∨ decide (("look" : Str) = "add") = true then 1 else 2
    decide +kernel
  · show (2 : Nat) = if decide (("meet" : Str) = "look") = true ∨ decide (("meet" : Str) = "add") = true then 1 else 2
    decide +kernel
  · show (2 : Nat) = if decide (("tell" : Str) = "look") = true ∨ decide (("tell" : Str) = "add") = true then 1 else 2
    decide +kernel
theorem lw_cnt (les : List LEv) (x : LEv) : cnt (leanE (les ++ [x])) = cnt (leanE les) + if lw x = "look" then 1 else 0 := by
  rw [leanE_app]
  unfold cnt
  rw [List.filter_append, List.length_append]
  rcases x with p | (p | ⟨p, q⟩ | ⟨p, q⟩)
  · rw [if_neg (show ¬ lw (Sum.inl p) = "look" from (by decide +kernel : ¬ ("add" : Str) = "look"))]; rfl
  · rw [if_pos (show lw (Sum.inr (Evt.look p)) = "look" from (by decide +kernel : ("look" : Str) = "look"))]; rfl
  · rw [if_neg (show ¬ lw (Sum.inr (Evt.meet p q)) = "look" from (by decide +kernel : ¬ ("meet" : Str) = "look"))]; rfl
  · rw [if_neg (show ¬ lw (Sum.inr (Evt.tell p q)) = "look" from (by decide +kernel : ¬ ("tell" : Str) = "look"))]; rfl
def C_law_table (K : PySem.W.Frag) : List Ty → Nat → Nat → Ty → Prop := fun Rs C0 C1 R => ∃ n laps most : Nat, 1 < n ∧ n < 1000 ∧ laps ≤ 100 ∧ C0 + 3 * laps < 1000000 ∧ C1 = C0 + 3 * laps ∧ Rs = [tN n, tN laps, tSt words, tN most] ∧
  R = ExT (fun les : List LEv => les.length ≤ laps ∧ (∀ x ∈ les, LevOk n x) ∧ cnt (leanE les) ≤ most) (tLt K n)
theorem sc_law_table : FnScope ["_law_box_here", "_law_folk", "_law_laps", "_law_words", "_law_most", "_law_lap", "_law_found", "_law_count", "_law_deed", "_law_both"] ["_law_box_here", "_law_folk", "_law_laps", "_law_words", "_law_most"] (defScope s_law_table) := ⟨rfl, rfl, rfl, by decide +kernel, rfl, by decide +kernel, by decide +kernel⟩
theorem ok_law_table (T : Tx K mg) : FnOk PP w K mg base CX0 3 (He.fAd K d_law_table.at_) (fdOf K d_law_table.at_) ["_law_box_here", "_law_folk", "_law_laps", "_law_words", "_law_most"] (spB (C_law_table K)) := by
  have G_law_event := ok_law_event T (w := w) (base := base)
  refine fnB_ok T.F_law_table sc_law_table (by rintro _ _ _ _ ⟨n, l, m, _, _, _, _, _, rfl, _⟩; rfl) fun Rs C0 C1 R hC cdv A outer s H E hr => ?_
  obtain ⟨n, laps, most, hn, hn2, hl, hC0, rfl, rfl, rfl⟩ := hC
  refine ⟨_, (pss_cons (ps_par (i := 6) (j := 7) (by rfl) sc_law_table.nd rfl rfl (by decide) rfl rfl (pa_cons (pe_lst pa_nil) (pa_cons (pe_disp (pps_cons pe_str pe_int (pps_cons pe_str pe_int (pps_cons pe_str pe_int (pps_cons pe_str pe_int pps_nil)))) (by rfl) (by rfl) (fun z => by cases z) (by decide)) pa_nil)) (by rfl))
      (pss_cons (ps_for PassesOwn.never rfl (pi_range1 rfl T.f_range (pa_cons (pv 2) pa_nil)) (pg_name (i := 5) sc_law_table.nd rfl (Or.inl rfl)) (pss_cons (ps_set (i := 8) sc_law_table.nd rfl (Or.inl rfl) (pe_call G_law_event (hr.mono (by decide)) rfl T.g__law_event T.F_law_event.kp T.b_law_event .nil pass0 (pa_cons (pv 0) (pa_cons (pv 1) (pa_cons (pv 3) pa_nil)))))
      (pss_cons (ps_set (i := 9) sc_law_table.nd rfl (Or.inl rfl) (pe_op op_add (pe_dget (hu_of hr) (pv 7) pe_str (fun _ _ => rfl)) (pe_dget (hu_of hr) (pv 7) pe_str (fun _ _ => rfl))))
      (pss_one (ps_if (PW.pt (pw_or (pt_cmpR op_eq (pe_ix (r := rIxT K) ix_tup (pv 8) pe_int (fun _ _ => rfl)) pe_str (nomark _)) (pw_or (PW.pt (pw_and (pt_cmpR op_eq (pe_ix (r := rIxT K) ix_tup (pv 8) pe_int (fun _ _ => rfl)) pe_str (nomark _)) (pw_and1 (pt_cmpR op_lt (pe_dget (hu_of hr) (pv 7) pe_str (fun _ _ => rfl)) (pv 4) (nomark _))))) (pw_or1 (PW.pt (pw_and (pt_cmpR op_gt (pe_callB (r := rLenA K) call_len_seq (by rfl) T.f_len (by decide +kernel) (pa_cons (pv 8) pa_nil)) pe_int (nomark _)) (pw_and1 (pt_cmpR op_lt (pv 9) pe_int (nomark _))))))))) (pss_cons (ps_dput (hu_of hr) (pv 7) (pe_ix (r := rIxT K) ix_tup (pv 8) pe_int (fun _ _ => rfl)) (pe_op op_add (pe_dget (hu_of hr) (pv 7) (pe_ix (r := rIxT K) ix_tup (pv 8) pe_int (fun _ _ => rfl)) (fun _ _ => rfl)) pe_int) rfl)
      (pss_one (ps_expr (pe_bmK K PySem.F.plainAttrs_list PySem.F.slot_list_append PySem.F.type_list_append mt_append (pv 6) (pa_cons (pv 8) pa_nil))))) pss_nil)))))
      (pss_one (ps_ret (pe_tup (pa_cons (pv 1) (pa_cons (pe_callTy (r := rTupA K) call_tuple_of (by rfl) T.f_tuple (by decide +kernel) (pa_cons (pv 6) pa_nil)) pa_nil))))))), fun E0 Hb b => ?_⟩
  let Z : Addr → Addr → List LEv → (Str → Nat) → Nat → Mt := fun f d les c C => ((M0.and (Cl (E0, Hb) f (les.map (tLe K)))).and (Cd (E0, Hb) d c)).and (Bx Hb b C)
  let G : Addr → Addr → Ctx := fun f d => [some (Is (.ref b)), some (tN n), none, some (tSt words), some (tN most), none, some (Is (.ref f)), some (Is (.ref d)), none, none]
  refine hx_mu (μ' := M0.and (Bx Hb b C0)) (fun H0 H h => ⟨trivial, h⟩) ?_
  refine hx_parCD (c := fun _ => 0) (b := b) (fun H0 H h => by obtain ⟨_, n, s, k, _, _, h⟩ := h; exact ne_none h.2.2.2) (yl_lst ya_nil (by show 0 ≤ 100000; decide)) yn_ct fun f d hfd hfb hdb hf hd => ?_
  refine hx_seq (N1 := fun Γ' μ' => ∃ les c, les.length ≤ laps ∧ (∀ x ∈ les, LevOk n x) ∧ cnt (leanE les) ≤ most ∧ Wk Γ' (G f d) ∧ ∀ H0 H, μ'.p H0 H → (Z f d les c (C0 + 3 * laps)).p H0 H) ?_ ?_
  · refine hr_mu (μ' := Z f d [] (fun _ => 0) C0) (fun H0 H h => ⟨⟨⟨trivial, h.1.2⟩, h.2⟩, h.1.1.2⟩) ?_
    refine hr_for (fun i Γ' μ' => ∃ les c, les.length ≤ i ∧ (∀ x ∈ les, LevOk n x) ∧ c ("look" : Str) = cnt (leanE les) ∧ c ("look" : Str) ≤ most ∧ Wk Γ' (G f d) ∧ ∀ H0 H, μ'.p H0 H → (Z f d les c (C0 + 3 * i)).p H0 H) (yi_range1 (n := laps) (ya_cons (y_var rfl) ya_nil) (by omega)) ⟨[], fun _ => 0, Nat.le_refl _, fun _ h => (nomatch h), rfl, Nat.zero_le _, .keep (.keep (.skip (.keep (.keep (.skip (.keep (.keep (.skip (.skip .nil))))))))), fun _ _ h => h⟩ ?_ ?_
    · rintro i R1 Γ1 μ1 ⟨les, c, hle, hlev, hc1, hc2, wk, hμ⟩ hR
      refine ⟨_, _, YG.weak wk yg_name, hr_mu hμ ?_⟩
      have hi : i < laps := by
        have := (List.getElem?_eq_some_iff.mp hR).1
        simpa using this
      refine hr_setB (RA := ExT (LevOk n) (tLe K)) (yb_call (C1 := C0 + 3 * (i + 1)) ((M0.off.and (Cl.off hfb)).and (Cd.off hdb)) (yba_cons (yb_y (y_var rfl)) (yba_cons (yb_y (y_var rfl)) (yba_cons (yb_y (y_var rfl)) yba_nil))) ⟨n, hn, hn2, by omega, by omega, rfl, rfl⟩) ?_
      refine hr_exi (k := 8) rfl fun x hx => ?_
      rw [tLe_eq]
      have hcd : ∀ H0 H, (((M0.and (Cl (E0, Hb) f (les.map (tLe K)))).and (Cd (E0, Hb) d c)).and (Bx Hb b (C0 + 3 * (i + 1)))).p H0 H → (Cd (E0, Hb) d c).p H0 H := fun _ _ h => h.1.2
      refine hr_set (RA := tN (c ("meet" : Str) + c ("tell" : Str))) (y_addN (y_getC (z := ("meet" : Str)) rfl y_c (.tail _ (.tail _ (.head _))) hcd) (y_getC (z := ("tell" : Str)) rfl y_c (.tail _ (.tail _ (.tail _ (.head _)))) hcd)) ?_
      refine hr_if (b := decide (lw x = "add") || ((decide (lw x = "look") && decide (c ("look" : Str) < most)) || (decide ((2 : Int) < (((tSt (lw x) :: (lns x).map tN).length : Nat) : Int)) && decide (c ("meet" : Str) + c ("tell" : Str) < 8))))
        (yt_or (yt_t (y_eqS (a := lw x) (d := ("add" : Str)) (y_ixT (n := 0) (y_var rfl) y_c rfl rfl) y_c)) fun _ => yt_or (yt_and (yt_t (y_eqS (a := lw x) (d := ("look" : Str)) (y_ixT (n := 0) (y_var rfl) y_c rfl rfl) y_c)) fun _ => yt_t (y_ltN (y_getC (z := ("look" : Str)) rfl y_c (.head _) hcd) (y_var rfl))) fun _ => yt_and (yt_t (y_gt (y_lenT (y_var rfl)) y_c)) fun _ => yt_t (y_ltN (m := 8) (y_var rfl) y_c)) (fun hb => ?_) (fun hb => ?_)
      · refine hr_mu (μ' := (((M0.and (Cl (E0, Hb) f (les.map (tLe K)))).and (Bx Hb b (C0 + 3 * (i + 1)))).and (Cd (E0, Hb) d c))) (fun H0 H h => ⟨⟨h.1.1, h.2⟩, h.1.2⟩) ?_
        have hz : lw x ∈ cKeys := lw_mem x
        refine hr_seq (N1 := fun Γ' μ' => Γ' = _ ∧ μ' = (((M0.and (Cl (E0, Hb) f (les.map (tLe K)))).and (Bx Hb b (C0 + 3 * (i + 1)))).and (Cd (E0, Hb) d (upC c (lw x) (c (lw x) + 1))))) (hr_putC rfl ((M0.off.and (Cl.off hfd)).and (Bx.off hd hdb)) (y_addN (m := 1) (y_getC (z := lw x) rfl (y_ixT (n := 0) (y_var rfl) y_c rfl rfl) hz fun _ _ h => h.2) y_c) (y_ixT (n := 0) (y_var rfl) y_c rfl rfl) hz ⟨rfl, rfl⟩) ?_
        rintro _ _ ⟨rfl, rfl⟩
        refine hr_mu (μ' := (((M0.and (Cd (E0, Hb) d (upC c (lw x) (c (lw x) + 1)))).and (Bx Hb b (C0 + 3 * (i + 1)))).and (Cl (E0, Hb) f (les.map (tLe K))))) (fun H0 H h => ⟨⟨⟨trivial, h.2⟩, h.1.2⟩, h.1.1.2⟩) ?_
        refine hr_app1 (k := 6) (T := tLe K x) rfl ((M0.off.and (Cd.off (Ne.symm hfd))).and (Bx.off hf hfb)) ((y_var rfl).to (tLe_eq x).symm) (by rw [List.length_map]; omega) ⟨les ++ [x], upC c (lw x) (c (lw x) + 1), by rw [List.length_append, List.length_singleton]; omega, fun y hy => (List.mem_append.mp hy).elim (hlev y) fun hy => by rw [List.mem_singleton.mp hy]; exact hx, ?_, ?_, .keep (.keep (.skip (.keep (.keep (.skip (.keep (.keep (.skip (.skip .nil))))))))), fun H0 H h => ⟨⟨⟨trivial, by rw [List.map_append]; exact h.2⟩, h.1.1.2⟩, h.1.2⟩⟩
        · rw [lw_cnt, ← hc1]
          unfold upC
          by_cases e : lw x = "look"
          · rw [e, if_pos rfl, if_pos rfl]
          · rw [if_neg (fun q => e q.symm), if_neg e, Nat.add_zero]
        · unfold upC
          by_cases e : lw x = "look"
          · rw [e, if_pos rfl]
            have hlen := lw_len x
            rw [if_pos (.inl (decide_eq_true e))] at hlen
            have hne : decide (lw x = "add") = false := by rw [e]; decide +kernel
            rw [hne, decide_eq_true e, Bool.false_or, Bool.true_and, Bool.or_eq_true] at hb
            rcases hb with hb | hb
            · exact of_decide_eq_true hb
            · have hb1 := (Bool.and_eq_true_iff.mp hb).1
              have hb2 := of_decide_eq_true hb1
              rw [List.length_cons, List.length_map, hlen] at hb2
              omega
          · rw [if_neg (fun q => e q.symm)]
            exact hc2
      · exact hr_nil ⟨les, c, by omega, hlev, hc1, hc2, .keep (.keep (.skip (.keep (.keep (.skip (.keep (.keep (.skip (.skip .nil))))))))), fun _ _ h => h⟩
    · rintro Γn μn ⟨les, c, hle, hlev, hc1, hc2, wk, hμ⟩
      rw [List.length_map, List.length_range] at hle hμ
      exact ⟨les, c, hle, hlev, by omega, wk, hμ⟩
  · rintro Γ1 μ1 ⟨les, c, hle, hlev, hcn, wk, hμ⟩
    refine hx_weak (hx_mu hμ ?_) wk
    exact hx_ret (Y.cast (y_tup (K := K) (ya_cons (y_var (R := tN n) rfl) (ya_cons (y_tupC (K := K) (k := 6) rfl fun H0 H h => h.1.1.2) ya_nil)) (by show 2 ≤ 100000; decide)) fun v H h => ⟨les, ⟨hle, hlev, hcn⟩, h⟩) fun H0 H h => h.2
end
end HF
set_option maxHeartbeats 400000
namespace HF
open PySem PyProof.Rows L2 Evl
section
variable {Γ : Ctx} {μ μ1 μ2 : Mt} {e : Hp × Hp} {k : Nat} {ta tb : TE} {z : Str} {zs : List Str} {K : PySem.W.Frag} {Rs Ss : List Ty}
theorem inV_str (z : Str) (zs : List Str) : inV (.str z) (zs.map V.str) = decide (z ∈ zs) := by
  unfold inV
  rw [List.any_map]
  induction zs with
  | nil => rfl
  | cons n zs ih =>
    rw [List.any_cons, ih]
    show ((n == z) || _) = _
    by_cases e : n = z
    · subst e; simp
    · have e1 : (n == z) = false := by simpa using e
      rw [e1]
      simp [show ¬ z = n from fun q => e q.symm]
theorem y_inLS (ha : Y ta Γ μ (tSt z)) (hb : Y tb Γ μ (Lst (zs.map tSt))) : Y (tOp (rIn K false) ta tb) Γ μ (tBo (decide (z ∈ zs))) :=
  y_op ha hb fun x y H0 H e r1 r2 Q q => by
    obtain ⟨a, vs, rfl, h1, h2⟩ := r2
    obtain rfl : x = V.str z := r1
    have e1 : zs.map tSt = (zs.map V.str).map Is := by rw [List.map_map]; rfl
    rw [e1] at h2
    obtain rfl := h2.is
    exact ⟨a, _, rfl, .inl (sq_of (e a _ h1)), rfl, by rw [List.all_map]; exact List.all_eq_true.mpr fun _ _ => rfl, q _ _ _ (Gr.refl e) (by rw [inV_str]; rfl)⟩
/-- a tuple and one more -/
theorem yb_catA (ha : YB e ta Γ μ μ1 (Tup K Rs)) (hb : YB e tb Γ μ1 μ2 (Tup K Ss)) (hl : Rs.length + Ss.length ≤ 100000) : YB e (tOp (rCatA K) ta tb) Γ μ μ2 (Tup K (Rs ++ Ss)) :=
  yb_op ha hb fun x y H0 H e r1 r2 Q q => by
    obtain ⟨a, vs, rfl, h1, h2⟩ := r1
    obtain ⟨b, ws, rfl, k1, k2⟩ := r2
    refine ⟨a, b, vs, ws, rfl, rfl, ex_t e h1, ex_t e k1, sz_of (by rw [h2.len, k2.len]; exact hl), fun z => ?_, fun _ z => ?_, fun _ _ p hp => ?_⟩
    · subst z
      exact q _ H0 H (Gr.refl e) ⟨b, ws, rfl, k1, h2.app k2⟩
    · subst z
      exact q _ H0 H (Gr.refl e) ⟨a, vs, rfl, h1, by simpa using h2.app k2⟩
    · exact q _ _ _ (Gr.new e hp) ⟨p, _, rfl, st_of upd_same, (h2.app k2).m (Ex.new (fresh_back e hp))⟩
theorem hx_setB {te : TE} {RA R : Ty} {u : TS} {ν : Mt} (h : YB e te Γ μ μ1 RA) (n : Hx e u (Γ.set k (some RA)) μ1 R ν) : Hx e (tSeq (tAsg te (gName k)) u) Γ μ R ν := fun σ H0 H D g s rt =>
  h σ H0 H g s _ fun v H1 G1 g1 x1 s1 r1 => n _ _ _ D g1 (s1.set k r1) rt
end
section
variable {w : World} {K : PySem.W.Frag} {mg : Str → Option Value} {base : Heap} 
def C_law_live (K : PySem.W.Frag) : List Ty → Nat → Nat → Ty → Prop := fun Rs C0 C1 R => ∃ n laps most : Nat, 1 < n ∧ n < 1000 ∧ laps ≤ 100 ∧ 1 ≤ most ∧ C0 + 3 * laps + 1 < 1000000 ∧ C1 = C0 + 3 * laps + 1 ∧ Rs = [tN n, tN laps, tN most] ∧
  R = ExT (fun les : List LEv => les.length ≤ laps + 1 ∧ (∀ x ∈ les, LevOk n x) ∧ 1 ≤ cnt (leanE les) ∧ cnt (leanE les) ≤ most) (tLt K n)
theorem cnt_cons (x : LEv) (les : List LEv) : cnt (leanE (x :: les)) = (if lw x = "look" then 1 else 0) + cnt (leanE les) := by
  have h1 := lw_cnt [] x
  have h2 : leanE (x :: les) = leanE ([] ++ [x]) ++ leanE les := by rw [← leanE_app]; rfl
  rw [h2]
  unfold cnt at h1 ⊢
  rw [List.filter_append, List.length_append, h1]
  show 0 + _ + _ = _
  rw [Nat.zero_add]
theorem cnt_look : ∀ (les : List LEv), decide (("look" : Str) ∈ les.map lw) = decide (1 ≤ cnt (leanE les))
  | [] => rfl
  | x :: les => by
    rw [cnt_cons, List.map_cons]
    by_cases e : lw x = "look"
    · rw [if_pos e, decide_eq_true (by rw [e]; exact .head _), decide_eq_true (by omega)]
    · rw [if_neg e, Nat.zero_add, ← cnt_look les]
      refine decide_eq_decide.mpr ⟨fun h => (List.mem_cons.mp h).resolve_left fun h => e h.symm, fun h => .tail _ h⟩
theorem snoc_ex {H : Hp} {z : Str} {n : Nat} : ∀ {Rs : List Ty} {ws : List V}, AllR ws (Rs ++ [Tup K [tSt z, tLt' n]]) H → ∃ r, r < n ∧ AllR ws (Rs ++ [Tup K [tSt z, tN r]]) H
  | [], ws, h => by
    obtain ⟨v, rfl, a, vs, rfl, h1, h2⟩ := AllR.one h
    obtain ⟨v1, v2, rfl, k1, r, hr, k2⟩ := h2.two
    exact ⟨r, hr, ⟨a, _, rfl, h1, k1, k2, trivial⟩, trivial⟩
  | R :: Rs, w :: ws, h => by
    obtain ⟨r, hr, k⟩ := snoc_ex (Rs := Rs) h.2
    exact ⟨r, hr, h.1, k⟩
theorem sc_law_live : FnScope ["_law_box_here", "_law_folk", "_law_laps", "_law_most", "_law_table_here", "_law_deed"] ["_law_box_here", "_law_folk", "_law_laps", "_law_most"] (defScope s_law_live) := ⟨rfl, rfl, rfl, by decide +kernel, rfl, by decide +kernel, by decide +kernel⟩
theorem ok_law_live (T : Tx K mg) : FnOk PP w K mg base CX0 4 (He.fAd K d_law_live.at_) (fdOf K d_law_live.at_) ["_law_box_here", "_law_folk", "_law_laps", "_law_most"] (spB (C_law_live K)) := by
  have G_law_take := ok_law_take T (w := w) (base := base)
  have G_law_table := ok_law_table T (w := w) (base := base)
  refine fnB_ok T.F_law_live sc_law_live (by rintro _ _ _ _ ⟨n, l, m, _, _, _, _, _, _, rfl, _⟩; rfl) fun Rs C0 C1 R hC cdv A outer s H E hr => ?_
  obtain ⟨n, laps, most, hn, hn2, hl, hm, hC0, rfl, rfl, rfl⟩ := hC
  refine ⟨_, (pss_cons (ps_set (i := 4) sc_law_live.nd rfl (Or.inl rfl) (pe_call G_law_table (hr.mono (by decide)) rfl T.g__law_table T.F_law_table.kp T.b_law_table .nil pass0 (pa_cons (pv 0) (pa_cons (pv 1) (pa_cons (pv 2) (pa_cons pe_str (pa_cons (pv 3) pa_nil)))))))
      (pss_cons (ps_if (pt_cmpR (r := rIn K false) op_in_seq pe_str (pe_lc (own := [("_law_deed", 5)]) rfl sc_law_live.nd (pi_tupK K (pe_ix (r := rIxT K) ix_tup (pv 4) pe_int (fun _ _ => rfl))) (blkOk_by (N := ["_law_box_here", "_law_folk", "_law_laps", "_law_most", "_law_table_here", "_law_deed"]) (sc := _) (by kernel_rfl)) (fun _ _ _ _ _ => (pg_name (i := 5) sc_law_live.nd rfl (Or.inl rfl))) (fun _ _ _ _ _ => pts_nil) (fun _ _ _ _ _ => (pe_ix (r := rIxT K) ix_tup (pv 5) pe_int (fun _ _ => rfl)))) (by with_unfolding_all rfl)) (pss_one (ps_ret (pv 4))) pss_nil)
      (pss_one (ps_ret (pe_tup (pa_cons (pv 1) (pa_cons (pe_op (r := rCatA K) op_catA (pe_ix (r := rIxT K) ix_tup (pv 4) pe_int (fun _ _ => rfl)) (pe_tup (pa_cons (pe_tup (pa_cons pe_str (pa_cons (pe_call G_law_take (hr.mono (by decide)) rfl T.g__law_take T.F_law_take.kp T.b_law_take .nil pass0 (pa_cons (pv 0) (pa_cons (pv 1) pa_nil))) pa_nil))) pa_nil))) pa_nil))))))), fun E0 Hb b => ?_⟩
  refine hx_mu (μ' := M0.and (Bx Hb b C0)) (fun H0 H h => ⟨trivial, h⟩) ?_
  refine hx_setB (yb_call (C1 := C0 + 3 * laps) M0.off (yba_cons (yb_y (y_var rfl)) (yba_cons (yb_y (y_var rfl)) (yba_cons (yb_y (y_var rfl)) (yba_cons (yb_y y_c) (yba_cons (yb_y (y_var rfl)) yba_nil))))) ⟨n, laps, most, hn, hn2, hl, by omega, rfl, rfl, rfl⟩) ?_
  refine hx_exi (k := 4) rfl fun les ⟨hle, hlev, hcn⟩ => ?_
  refine hx_ifr (b := decide (("look" : Str) ∈ les.map lw)) (yt_t (y_inLS (z := ("look" : Str)) (zs := les.map lw) y_c (Y.to (y_lcA (xs := les) (r := tLe K) (o := fun x => tSt (lw x)) (yi_tup (y_ixT (n := 1) (y_var rfl) y_c rfl rfl)) (by decide) (by omega) (fun x hx => yg_name) (fun x hx => y_ixT (n := 0) (Rs := tSt (lw x) :: (lns x).map tN) ((y_var rfl).to (tLe_eq x)) y_c rfl rfl)) (by rw [List.map_map]; rfl)))) (fun hb => ?_) (fun hb => ?_)
  · rw [cnt_look] at hb
    exact hx_ret ((y_var (R := tLt K n les) rfl).cast fun v H h => ⟨les, ⟨by omega, hlev, of_decide_eq_true hb, hcn⟩, h⟩) fun H0 H h => Bx.up h.2 (by omega)
  · rw [cnt_look] at hb
    have hz : cnt (leanE les) = 0 := by
      have := of_decide_eq_false hb
      omega
    refine hx_retB (μ1 := M0.and (Bx Hb b (C0 + 3 * laps + 1))) (YB.cast (yb_tup (K := K) (yba_cons (yb_y (y_var (R := tN n) rfl)) (yba_cons (yb_catA (K := K) (yb_y (y_ixT (n := 1) (y_var rfl) y_c rfl rfl)) (yb_tup (K := K) (yba_cons (yb_tup (K := K) (yba_cons (yb_y (y_c (v := .str "look"))) (yba_cons (yb_call (C1 := C0 + 3 * laps + 1) M0.off (yba_cons (yb_y (y_var rfl)) (yba_cons (yb_y (y_var rfl)) yba_nil)) ⟨n, by omega, hn2, by omega, rfl, rfl, rfl⟩) yba_nil)) (by show 2 ≤ 100000; decide)) yba_nil) (by show 1 ≤ 100000; decide)) (by rw [List.length_map]; show _ + 1 ≤ _; omega)) yba_nil)) (by show 2 ≤ 100000; decide)) ?_) fun H0 H h => h.2
    rintro v H ⟨a, vs, rfl, h1, h2⟩
    obtain ⟨v1, v2, rfl, k1, a2, ws, rfl, k2, k3⟩ := h2.two
    obtain ⟨r, hr, k4⟩ := snoc_ex k3
    refine ⟨les ++ [.inr (.look r)], ⟨by rw [List.length_append, List.length_singleton]; omega, fun x hx => (List.mem_append.mp hx).elim (hlev x) fun hx => by rw [List.mem_singleton.mp hx]; exact hr, ?_, ?_⟩, a, _, rfl, h1, k1, ⟨a2, ws, rfl, k2, by rw [List.map_append]; exact k4⟩, trivial⟩
    · rw [lw_cnt, hz, if_pos (show lw (Sum.inr (Evt.look r)) = "look" from rfl)]
      omega
    · rw [lw_cnt, hz, if_pos (show lw (Sum.inr (Evt.look r)) = "look" from rfl)]
      omega
end
end HF
set_option maxHeartbeats 400000
namespace HF
open PySem PyProof.Rows L2 Evl
/-! ### the plain law -/
/-- what both readings keep: T is the set that shows it in the end -/
structure Both (so : List Nat) (c : Sim) (h : Hst) : Prop where
  k : h.k = c.k
  sub : ∀ x ∈ so, x ∈ h.shown
  clo : ∀ a b, (a, b) ∈ c.bs → a ∈ h.shown → b ∈ h.shown
  min : ∀ T : Nat → Prop, (∀ x ∈ so, T x) → (∀ a b, (a, b) ∈ c.bs → T a → T b) → ∀ x ∈ h.shown, T x
  folk : ∀ x, x ∈ h.folk ↔ ∃ l ∈ c.hs x, l ∈ h.shown
theorem both0 (so : List Nat) : Both so sim0 ⟨[], so, 0⟩ :=
  ⟨rfl, fun _ h => h, fun _ _ h => (nomatch h), fun T h _ x hx => h x hx, fun x => ⟨fun h => (nomatch h), fun ⟨_, h, _⟩ => (nomatch h)⟩⟩
theorem mem_up2 {n : Nat} {ns : List Nat} {x : Nat} : x ∈ up n ns ↔ x < n ∧ x ∈ ns := by
  unfold up
  rw [List.mem_filter, List.mem_range, decide_eq_true_iff]
theorem mem_gos {c : Hst} {long meet : Bool} {p q x : Nat} : x ∈ c.gos long meet p q ↔ x ∈ c.folk ∨ (long = true ∧ ((x = q ∧ p ∈ c.folk) ∨ (meet = true ∧ x = p ∧ q ∈ c.folk))) := by
  unfold Hst.gos
  cases long with
  | false => simp
  | true =>
    by_cases hp : p ∈ c.folk
    · rw [if_pos (by simp [hp]), List.mem_append, List.mem_singleton]
      constructor
      · rintro (h | rfl)
        · exact .inl h
        · exact .inr ⟨rfl, .inl ⟨rfl, hp⟩⟩
      · rintro (h | ⟨_, ⟨rfl, _⟩ | ⟨_, rfl, _⟩⟩)
        · exact .inl h
        · exact .inr rfl
        · exact .inl hp
    · rw [if_neg (by simp [hp])]
      by_cases hq : meet = true ∧ q ∈ c.folk
      · rw [if_pos (by simp [hq]), List.mem_append, List.mem_singleton]
        constructor
        · rintro (h | rfl)
          · exact .inl h
          · exact .inr ⟨rfl, .inr ⟨hq.1, rfl, hq.2⟩⟩
        · rintro (h | ⟨_, ⟨rfl, h⟩ | ⟨_, rfl, _⟩⟩)
          · exact .inl h
          · exact absurd h hp
          · exact .inr rfl
      · rw [if_neg (by simpa using hq)]
        constructor
        · exact fun h => .inl h
        · rintro (h | ⟨_, ⟨rfl, h⟩ | ⟨h1, rfl, h2⟩⟩)
          · exact h
          · exact absurd h hp
          · exact absurd ⟨h1, h2⟩ hq
theorem mem_cmpHs {long meet : Bool} {L : Nat} {hs : Nat → List Nat} {p q x l : Nat} (hL : ∀ y, ∀ o ∈ hs y, o < L) : l ∈ cmpHs long L hs meet p q x ↔ l ∈ hs x ∨ (long = true ∧ ((x = q ∧ l ∈ hs p) ∨ (meet = true ∧ x = p ∧ l ∈ hs q))) := by
  have hu : l ∈ up L (hs p ++ hs q) ↔ l ∈ hs p ∨ l ∈ hs q := by
    rw [mem_up2, List.mem_append]
    exact ⟨fun h => h.2, fun h => ⟨h.elim (hL p l) (hL q l), h⟩⟩
  unfold cmpHs
  cases long with
  | false => simp
  | true =>
    rw [if_pos rfl]
    cases meet with
    | true =>
      rw [if_pos rfl]
      unfold upd1
      by_cases h1 : x = p
      · subst h1
        rw [if_pos rfl, hu]
        constructor
        · rintro (h | h)
          · exact .inl h
          · exact .inr ⟨rfl, .inr ⟨rfl, rfl, h⟩⟩
        · rintro (h | ⟨_, ⟨rfl, h⟩ | ⟨_, _, h⟩⟩)
          · exact .inl h
          · exact .inl h
          · exact .inr h
      · rw [if_neg h1]
        by_cases h2 : x = q
        · subst h2
          rw [if_pos rfl, hu]
          constructor
          · rintro (h | h)
            · exact .inr ⟨rfl, .inl ⟨rfl, h⟩⟩
            · exact .inl h
          · rintro (h | ⟨_, ⟨_, h⟩ | ⟨_, h, _⟩⟩)
            · exact .inr h
            · exact .inl h
            · exact absurd h h1
        · rw [if_neg h2]
          constructor
          · exact fun h => .inl h
          · rintro (h | ⟨_, ⟨h, _⟩ | ⟨_, h, _⟩⟩)
            · exact h
            · exact absurd h h2
            · exact absurd h h1
    | false =>
      rw [if_neg (by decide)]
      unfold upd1
      by_cases h2 : x = q
      · subst h2
        rw [if_pos rfl, hu]
        constructor
        · rintro (h | h)
          · exact .inr ⟨rfl, .inl ⟨rfl, h⟩⟩
          · exact .inl h
        · rintro (h | ⟨_, ⟨_, h⟩ | ⟨h, _, _⟩⟩)
          · exact .inr h
          · exact .inl h
          · cases h
      · rw [if_neg h2]
        constructor
        · exact fun h => .inl h
        · rintro (h | ⟨_, ⟨h, _⟩ | ⟨h, _, _⟩⟩)
          · exact h
          · exact absurd h h2
          · cases h
theorem Both.two {so : List Nat} {c : Sim} {h : Hst} {long meet : Bool} {L p q : Nat} (b : Both so c h) (ok : SimOk L c) (hk : c.k ≤ L) : Both so { c with hs := cmpHs long L c.hs meet p q } ⟨h.gos long meet p q, h.shown, h.k⟩ := by
  refine ⟨b.k, b.sub, b.clo, b.min, fun x => ?_⟩
  have hL : ∀ y, ∀ o ∈ c.hs y, o < L := fun y o ho => Nat.lt_of_lt_of_le (ok.lt y o ho) hk
  show x ∈ h.gos long meet p q ↔ ∃ l ∈ cmpHs long L c.hs meet p q x, l ∈ h.shown
  rw [mem_gos]
  constructor
  · rintro (h1 | ⟨e, ⟨rfl, h1⟩ | ⟨em, rfl, h1⟩⟩)
    · obtain ⟨l, h2, h3⟩ := (b.folk x).mp h1
      exact ⟨l, (mem_cmpHs hL).mpr (.inl h2), h3⟩
    · obtain ⟨l, h2, h3⟩ := (b.folk p).mp h1
      exact ⟨l, (mem_cmpHs hL).mpr (.inr ⟨e, .inl ⟨rfl, h2⟩⟩), h3⟩
    · obtain ⟨l, h2, h3⟩ := (b.folk q).mp h1
      exact ⟨l, (mem_cmpHs hL).mpr (.inr ⟨e, .inr ⟨em, rfl, h2⟩⟩), h3⟩
  · rintro ⟨l, h1, h3⟩
    rcases (mem_cmpHs hL).mp h1 with h2 | ⟨e, ⟨rfl, h2⟩ | ⟨em, rfl, h2⟩⟩
    · exact .inl ((b.folk x).mpr ⟨l, h2, h3⟩)
    · exact .inr ⟨e, .inl ⟨rfl, (b.folk p).mpr ⟨l, h2, h3⟩⟩⟩
    · exact .inr ⟨e, .inr ⟨em, rfl, (b.folk q).mpr ⟨l, h2, h3⟩⟩⟩
theorem mem_sh {h : Hst} {p x : Nat} : x ∈ h.sh p ↔ x ∈ h.shown ∨ (x = h.k ∧ p ∈ h.folk) := by
  unfold Hst.sh
  by_cases hc : p ∈ h.folk ∧ h.k ∉ h.shown
  · rw [if_pos (by simp [hc]), List.mem_append, List.mem_singleton]
    exact ⟨fun z => z.elim .inl fun z => .inr ⟨z, hc.1⟩, fun z => z.elim .inl fun z => .inr z.1⟩
  · rw [if_neg (by simpa using hc)]
    refine ⟨.inl, fun z => z.elim id ?_⟩
    rintro ⟨rfl, hp⟩
    exact Classical.byContradiction fun hn => hc ⟨hp, hn⟩
theorem Both.look {so : List Nat} {c : Sim} {h : Hst} {L p : Nat} (b : Both so c h) (ok : SimOk L c) : Both so ⟨c.k + 1, upd1 c.hs p (c.hs p ++ [c.k]), c.bs ++ (c.hs p).map fun o => (o, c.k)⟩ ⟨h.folk ++ h.lk p, h.sh p, h.k + 1⟩ := by
  have hkk := b.k
  have hold : ∀ x, x ≠ c.k → (x ∈ h.sh p ↔ x ∈ h.shown) := fun x hx => by
    rw [mem_sh]
    exact ⟨fun z => z.elim id fun z => absurd (z.1.trans hkk) hx, .inl⟩
  have hed : ∀ a b', (a, b') ∈ c.bs ++ (c.hs p).map (fun o => (o, c.k)) → ((a, b') ∈ c.bs ∧ a < b' ∧ b' < c.k) ∨ (a ∈ c.hs p ∧ b' = c.k) := fun a b' hm => by
    rcases List.mem_append.mp hm with h1 | h1
    · exact .inl ⟨h1, ok.bs _ h1⟩
    · obtain ⟨o, ho, e⟩ := List.mem_map.mp h1
      cases e
      exact .inr ⟨ho, rfl⟩
  refine ⟨congrArg (· + 1) hkk, fun x hx => mem_sh.mpr (.inl (b.sub x hx)), fun a b' hm ha => ?_, fun T h1 h2 x hx => ?_, fun x => ?_⟩
  · show b' ∈ h.sh p
    have ha : a ∈ h.sh p := ha
    rcases hed a b' hm with ⟨h1, h2, h3⟩ | ⟨h1, rfl⟩
    · exact mem_sh.mpr (.inl (b.clo a b' h1 ((hold a (by omega)).mp ha)))
    · have h2 := ok.lt p a h1
      exact mem_sh.mpr (.inr ⟨hkk.symm, (b.folk p).mpr ⟨a, h1, (hold a (by omega)).mp ha⟩⟩)
  · have hm := b.min T h1 fun a b' hab => h2 a b' (List.mem_append_left _ hab)
    rcases mem_sh.mp hx with h3 | ⟨rfl, h3⟩
    · exact hm x h3
    · obtain ⟨l, h4, h5⟩ := (b.folk p).mp h3
      exact h2 l h.k (List.mem_append_right _ (List.mem_map.mpr ⟨l, h4, by rw [hkk]⟩)) (hm l h5)
  · show x ∈ h.folk ++ h.lk p ↔ ∃ l ∈ upd1 c.hs p (c.hs p ++ [c.k]) x, l ∈ h.sh p
    have hlk : x ∈ h.lk p ↔ x = p ∧ h.k ∈ h.sh p := by
      unfold Hst.lk
      by_cases hc : h.k ∈ h.sh p
      · rw [if_pos (decide_eq_true hc), List.mem_singleton]
        exact ⟨fun z => ⟨z, hc⟩, fun z => z.1⟩
      · rw [if_neg (by simpa using hc)]
        exact ⟨fun z => (nomatch z), fun z => absurd z.2 hc⟩
    rw [List.mem_append, hlk]
    unfold upd1
    by_cases hx : x = p
    · subst hx
      rw [if_pos rfl]
      constructor
      · rintro (h1 | ⟨_, h1⟩)
        · obtain ⟨l, h2, h3⟩ := (b.folk x).mp h1
          exact ⟨l, List.mem_append_left _ h2, mem_sh.mpr (.inl h3)⟩
        · exact ⟨h.k, List.mem_append_right _ (by rw [hkk]; exact List.mem_singleton_self _), h1⟩
      · rintro ⟨l, h1, h2⟩
        rcases List.mem_append.mp h1 with h3 | h3
        · have := ok.lt x l h3
          exact .inl ((b.folk x).mpr ⟨l, h3, (hold l (by omega)).mp h2⟩)
        · rw [List.mem_singleton] at h3
          rw [h3, ← hkk] at h2
          exact .inr ⟨rfl, h2⟩
    · rw [if_neg hx]
      constructor
      · rintro (h1 | ⟨h1, _⟩)
        · obtain ⟨l, h2, h3⟩ := (b.folk x).mp h1
          exact ⟨l, h2, mem_sh.mpr (.inl h3)⟩
        · exact absurd h1 hx
      · rintro ⟨l, h1, h2⟩
        have := ok.lt x l h1
        exact .inl ((b.folk x).mpr ⟨l, h1, (hold l (by omega)).mp h2⟩)
theorem Both.step {so : List Nat} {c : Sim} {h : Hst} {long : Bool} {L : Nat} (b : Both so c h) (ok : SimOk L c) (hk : c.k ≤ L) (e : Evt) : Both so (c.step long L e) (h.step long e) := by
  cases e with
  | look p => exact b.look ok
  | meet p q => exact b.two ok hk
  | tell p q => exact b.two ok hk
theorem both_all (long : Bool) (L : Nat) (so : List Nat) : ∀ (es : List Evt) (c : Sim) (h : Hst), Both so c h → SimOk L c → c.k + cnt es ≤ L → Both so (es.foldl (Sim.step long L) c) (es.foldl (Hst.step long) h)
  | [], c, h, b, _, _ => b
  | e :: es, c, h, b, ok, hk => by
    have h1 : (c.step long L e).k + cnt es = c.k + cnt (e :: es) := by
      have a := sim_k long L [e] c
      have b := sim_k long L es (c.step long L e)
      have d := sim_k long L (e :: es) c
      have e1 : ((e :: es).foldl (Sim.step long L) c).k = (es.foldl (Sim.step long L) (c.step long L e)).k := rfl
      omega
    exact both_all long L so es _ _ (b.step ok (by omega) e) (ok.step e) (by omega)
theorem both_of (kd : Str) (es : List Evt) (so : List Nat) : Both so (simOf kd es) (hst (decide (kd = "long")) so es) :=
  both_all _ _ so es _ _ (both0 so) (sim0_ok _) (by have := cnt_looks es; show 0 + _ ≤ _; omega)
theorem Both.tc {so : List Nat} {c : Sim} {h : Hst} (b : Both so c h) {a m : Nat} (t : Tc c.bs a m) : a ∈ h.shown → m ∈ h.shown := by
  induction t with
  | base h => exact b.clo _ _ h
  | step _ _ h1 h2 => exact fun h => h2 (h1 h)
/-- who hears of it: the people of what shows it -/
theorem heard_ppl (kd : Str) (n : Nat) (es : List Evt) (so : List Nat) : heardL kd n es so = pplS kd n es (hst (decide (kd = "long")) so es).shown := by
  unfold heardL pplS up
  refine List.filter_congr fun p _ => ?_
  have h := (both_of kd es so).folk p
  by_cases hp : p ∈ (hst (decide (kd = "long")) so es).folk
  · rw [decide_eq_true hp]
    obtain ⟨l, h1, h2⟩ := h.mp hp
    exact (List.any_eq_true.mpr ⟨l, h1, decide_eq_true h2⟩).symm
  · rw [decide_eq_false hp]
    refine (List.any_eq_false.mpr fun l h1 h2 => hp (h.mpr ⟨l, h1, of_decide_eq_true h2⟩)).symm
theorem ppl_congr {kd : Str} {n : Nat} {es : List Evt} {S T : List Nat} (h : ∀ x, x ∈ S ↔ x ∈ T) : pplS kd n es S = pplS kd n es T := by
  unfold pplS
  refine List.filter_congr fun p _ => ?_
  refine congrArg (fun f => ((simOf kd es).hs p).any f) (funext fun l => ?_)
  exact decide_eq_decide.mpr (h l)
theorem heard_one (kd : Str) (n : Nat) (es : List Evt) (i : Nat) : heardL kd n es [i] = (List.range n).filter (heardB kd es i) := by
  rw [heard_ppl]
  unfold pplS
  refine List.filter_congr fun p _ => ?_
  unfold heardB
  have b := both_of kd es [i]
  refine congrArg (fun f => ((simOf kd es).hs p).any f) (funext fun l => ?_)
  have key : l ∈ (hst (decide (kd = "long")) [i] es).shown ↔ kn (simOf kd es) i l = true := by
    rw [kn_iff]
    constructor
    · refine b.min (fun l => l = i ∨ Tc (simOf kd es).bs i l) (fun x hx => .inl (List.mem_singleton.mp hx)) (fun a c hac ha => ?_) l
      rcases ha with rfl | ha
      · exact .inr (.base hac)
      · exact .inr (.step ha (.base hac))
    · rintro (rfl | h)
      · exact b.sub _ (List.mem_singleton_self _)
      · exact b.tc h (b.sub _ (List.mem_singleton_self _))
  cases e : kn (simOf kd es) i l with
  | true => exact decide_eq_true (key.mpr e)
  | false => exact decide_eq_false fun h => by rw [key.mp h] at e; cases e
theorem away_eq (kd : Str) (n : Nat) (es : List Evt) (i : Nat) : ((List.range n).filter fun p => !decide (p ∈ heardL kd n es [i])) = keptL kd n es i := by
  unfold keptL
  refine List.filter_congr fun p hp => ?_
  refine congrArg Bool.not ?_
  rw [heard_one]
  cases e : heardB kd es i p with
  | true => exact decide_eq_true (List.mem_filter.mpr ⟨hp, e⟩)
  | false => exact decide_eq_false fun h => by rw [(List.mem_filter.mp h).2] at e; cases e
/-! subsets -/
theorem subs_memB : ∀ {ns : List Nat} {acc : List (List Nat)} {S : List Nat}, S ∈ subs acc ns ↔ ∃ A ∈ acc, ∃ B, B.Sublist ns ∧ S = A ++ B
  | [], acc, S => by
    show S ∈ acc ↔ _
    constructor
    · exact fun h => ⟨S, h, [], List.Sublist.refl _, (List.append_nil S).symm⟩
    · rintro ⟨A, hA, B, hB, rfl⟩
      rw [List.sublist_nil.mp hB, List.append_nil]
      exact hA
  | n :: ns, acc, S => by
    show S ∈ subs (acc ++ acc.map fun s => s ++ [n]) ns ↔ _
    rw [subs_memB]
    constructor
    · rintro ⟨A, hA, B, hB, rfl⟩
      rcases List.mem_append.mp hA with h | h
      · exact ⟨A, h, B, hB.cons n, rfl⟩
      · obtain ⟨A', hA', rfl⟩ := List.mem_map.mp h
        exact ⟨A', hA', n :: B, hB.cons_cons n, by rw [List.append_assoc]; rfl⟩
    · rintro ⟨A, hA, B, hB, rfl⟩
      cases hB with
      | cons _ h => exact ⟨A, List.mem_append_left _ hA, B, h, rfl⟩
      | cons_cons _ h => exact ⟨A ++ [n], List.mem_append_right _ (List.mem_map.mpr ⟨A, hA, rfl⟩), _, h, by rw [List.append_assoc]; rfl⟩
theorem subs_hd {i : Nat} {ns S : List Nat} : S ∈ subs [[i]] ns ↔ ∃ B, B.Sublist ns ∧ S = i :: B := by
  rw [subs_memB]
  constructor
  · rintro ⟨A, hA, B, hB, rfl⟩
    rw [List.mem_singleton.mp hA]
    exact ⟨B, hB, rfl⟩
  · rintro ⟨B, hB, rfl⟩
    exact ⟨[i], List.mem_singleton_self _, B, hB, rfl⟩
theorem drop_range {L i x : Nat} : x ∈ (List.range L).drop (i + 1) ↔ i < x ∧ x < L := by
  rw [List.mem_iff_getElem?]
  constructor
  · rintro ⟨j, hj⟩
    rw [List.getElem?_drop] at hj
    obtain ⟨h1, h2⟩ := List.getElem?_eq_some_iff.mp hj
    rw [List.getElem_range] at h2
    rw [List.length_range] at h1
    omega
  · rintro ⟨h1, h2⟩
    exact ⟨x - (i + 1), by rw [List.getElem?_drop, show i + 1 + (x - (i + 1)) = x by omega, List.getElem?_range h2]⟩
theorem simOf_bs (kd : Str) (es : List Evt) : ∀ p ∈ (simOf kd es).bs, p.1 < p.2 ∧ p.2 < (looksL es).length := fun p hp => by
  have h1 := (sim_ok (decide (kd = "long")) (looksL es).length es sim0 (sim0_ok _)).bs p hp
  have h2 := sim_k (decide (kd = "long")) (looksL es).length es sim0
  have h3 := cnt_looks es
  have h4 : sim0.k = 0 := rfl
  omega
/-- what can show it, and who hears if some show it -/
theorem aud_iff {kd : Str} {n : Nat} {es : List Evt} {i : Nat} (hi : i < (looksL es).length) {ns : List Nat} :
    (∃ S ∈ subs [[i]] ((List.range (looksL es).length).drop (i + 1)), Clo kd es S ∧ ns = pplS kd n es S) ↔ ns ∈ (subs [[i]] ((List.range (looksL es).length).drop (i + 1))).map (heardL kd n es) := by
  rw [List.mem_map]
  constructor
  · rintro ⟨S, hS, hc, rfl⟩
    refine ⟨S, hS, ?_⟩
    rw [heard_ppl]
    refine ppl_congr fun x => ⟨?_, (both_of kd es S).sub x⟩
    exact (both_of kd es S).min (fun x => x ∈ S) (fun _ h => h) (fun a b hab ha => hc a ha b (.base hab)) x
  · rintro ⟨S, hS, rfl⟩
    obtain ⟨B, hB, rfl⟩ := subs_hd.mp hS
    have hge : ∀ x ∈ (hst (decide (kd = "long")) (i :: B) es).shown, x = i ∨ (i < x ∧ x < (looksL es).length) := by
      refine (both_of kd es (i :: B)).min (fun x => x = i ∨ (i < x ∧ x < (looksL es).length)) (fun x hx => ?_) (fun a c hac ha => ?_)
      · rcases List.mem_cons.mp hx with h | h
        · exact .inl h
        · exact .inr (drop_range.mp (hB.subset h))
      · have := simOf_bs kd es _ hac
        simp at this
        omega
    have hmem : ∀ x, x ∈ i :: ((List.range (looksL es).length).drop (i + 1)).filter (fun x => decide (x ∈ (hst (decide (kd = "long")) (i :: B) es).shown)) ↔ x ∈ (hst (decide (kd = "long")) (i :: B) es).shown := fun x => by
      rw [List.mem_cons, List.mem_filter, decide_eq_true_iff, drop_range]
      constructor
      · rintro (rfl | h)
        · exact (both_of kd es (x :: B)).sub x List.mem_cons_self
        · exact h.2
      · exact fun h => (hge x h).elim .inl fun z => .inr ⟨z, h⟩
    refine ⟨i :: ((List.range (looksL es).length).drop (i + 1)).filter (fun x => decide (x ∈ (hst (decide (kd = "long")) (i :: B) es).shown)), subs_hd.mpr ⟨_, List.filter_sublist, rfl⟩, fun l hl m hm => ?_, ?_⟩
    · exact (hmem m).mpr ((both_of kd es (i :: B)).tc hm ((hmem l).mp hl))
    · rw [heard_ppl]
      exact (ppl_congr hmem).symm
end HF
set_option maxHeartbeats 400000
namespace HF
open PySem PyProof.Rows L2 Evl
section
variable {Γ : Ctx} {μ μ1 μ2 μo : Mt} {e : Hp × Hp} {k : Nat} {ta tb : TE} {tr : TA} {K : PySem.W.Frag} {R S : Ty} {Rs Ss : List Ty} {Hb E0' : Hp} {a : Addr} {n : Nat}
/-- a list, so often -/
theorem y_rep (ha : Y ta Γ μ (Lst Rs)) (hb : Y tb Γ μ (tN n)) (hl : Rs.length * n ≤ 100000) (hn : n ≤ 100000) : Y (tOp rRep ta tb) Γ μ (Lst (List.replicate n Rs).flatten) :=
  y_op ha hb fun x y H0 H e r1 r2 Q q => by
    obtain ⟨a, vs, rfl, h1, h2⟩ := r1
    obtain rfl : y = V.int n := r2
    refine ⟨a, n, vs, rfl, rfl, e a _ h1, by omega, by omega, sz_of (by rw [h2.len, Int.toNat_natCast]; exact hl), fun p hp => ?_⟩
    rw [Int.toNat_natCast]
    have hall : ∀ m, AllR (List.replicate m vs).flatten (List.replicate m Rs).flatten H0 := fun m => by
      induction m with
      | zero => trivial
      | succ m ih => rw [List.replicate_succ, List.replicate_succ, List.flatten_cons, List.flatten_cons]; exact h2.app ih
    exact q _ _ _ (Gr.new e hp) ⟨p, _, rfl, upd_same, (hall n).m (Ex.new (fresh_back e hp))⟩
/-- a call whose arguments are known but for some numbers -/
theorem y_callX {C : List Ty → Ty → Prop} {E : XK} (hA : YA tr Γ μ Rs) (hX : ∀ vs H, AllR vs Rs H → ∃ Rs', C Rs' R ∧ AllR vs Rs' H) : Y (tCall (spR C) [] E tr) Γ μ R := fun σ H0 H s Q q =>
  hA σ H0 H s _ fun vs H1 G1 g1 r1 => by
    obtain ⟨Rs', hC, h⟩ := hX _ _ r1
    exact ⟨H1, Rs', R, hC, g1.p, by rw [List.append_nil]; exact h, fun v H2 G2 g2 r2 => q _ _ _ (g1.trans g2) r2⟩
theorem yb_callR {C : List Ty → Ty → Prop} {E : XK} (hA : YBA e tr Γ μ μ1 Rs) (hX : ∀ vs H, AllR vs Rs H → ∃ Rs' R', C Rs' R' ∧ AllR vs Rs' H ∧ ∀ v H, R'.r v H → R.r v H) : YB e (tCall (spR C) [] E tr) Γ μ μ1 R := fun σ H0 H g s Q q =>
  hA σ H0 H g s _ fun vs H1 G1 g1 x1 s1 r1 => by
    obtain ⟨Rs', R', hC, h, hR⟩ := hX _ _ r1
    exact ⟨H1, Rs', R', hC, s1.ex, by rw [List.append_nil]; exact h, fun v H2 G2 g2 r2 => q v H2 G2 (g1.trans g2) (x1.trans g2.e0) (s1.gr g2) (hR _ _ r2)⟩
theorem yb_callX {C : List Ty → Nat → Nat → Ty → Prop} {E : XK} {C0 C1 : Nat} (ho : μo.Off a) (hA : YBA (E0', Hb) tr Γ μ (μo.and (Bx Hb a C0)) (Is (.ref a) :: Rs)) (hX : ∀ vs H, AllR vs Rs H → ∃ Rs' C1' R', C Rs' C0 C1' R' ∧ C1' ≤ C1 ∧ AllR vs Rs' H ∧ ∀ v H, R'.r v H → R.r v H) : YB (E0', Hb) (tCall (spB C) [] E tr) Γ μ (μo.and (Bx Hb a C1)) R := fun σ H0 H g s Q q =>
  hA σ H0 H g s _ fun vs H1 G1 g1 x1 s1 r1 => by
    obtain ⟨m0, n, s', k, hk, hs, m1, m2, m3, m4⟩ := s1.mu
    cases vs with
    | nil => exact r1.elim
    | cons v ws =>
    obtain rfl : v = V.ref a := r1.1
    obtain ⟨Rs', C1', R', hC, hle, hA', hR⟩ := hX _ _ r1.2
    refine ⟨H1, Wo G1 a, a, ws, Rs', C0, C1', R', by rw [List.append_nil], hC, s1.ex, ⟨n, s', k, hk, hs, Wo.at _ _, m2, fun c o z => ?_, m4⟩, hA', fun v H2 G2 g2 m r2 => ?_⟩
    · by_cases e : c = a
      · subst e; rw [Wo.at] at z; cases z
      · rwa [Wo.ne e] at z
    obtain ⟨n', t', k', hk', hs', w1, w2, w3, w4⟩ := m
    have g3 : Gr E0' Hb H2 G2 := ⟨g1.e0.trans g2.e0, fun c o z => g2.e c o (by rw [Wo.ne (fun e => by rw [e, m1] at z; cases z)]; exact g1.e c o z), g2.p, fun c z z' => g2.f c (g1.f c z z') (by
      rw [Wo.ne (fun e => z' (by rw [e]; exact m1))]
      exact Ex.nn g1.e z')⟩
    have g4 : Gr H1 (upd G1 a (.lst (boxV n' t' k'))) H2 G2 := ⟨g2.e0, fun c o z => by
      by_cases e : c = a
      · subst e; rw [upd_same] at z; cases z; exact w4
      · rw [upd_ne e] at z; exact g2.e c o (by rw [Wo.ne e]; exact z), g2.p, fun c z z' => by
      by_cases e : c = a
      · subst e; exact w2
      · rw [upd_ne e] at z'; exact g2.f c z (by rw [Wo.ne e]; exact z')⟩
    refine q v H2 G2 g3 (x1.trans g2.e0) ⟨s1.sl.mono g2.e0, g2.p, μo.m _ _ _ _ g4 (ho _ _ _ m0), n', t', k', Nat.le_trans hk' hle, hs', m1, w2, g3.e, w4⟩ (hR _ _ r2)
/-- a new box, taken from by a call alone -/
theorem y_box {C : List Ty → Nat → Nat → Ty → Prop} {E : XK} {C1 : Nat} {x y : Int} (h : YL ta Γ μ [tI x, tI y, tI 0]) (hx : 0 ≤ x) (hy : 0 ≤ y) (hy2 : y < 4294967296) (hC : C [] 0 C1 R) : Y (tCall (spB C) [] E (tCons ta tNil)) Γ μ R := fun σ H0 H s Q q =>
  h σ H0 H s _ fun p vs H1 G1 g1 n1 n2 hp hA => by
    obtain ⟨v1, v2, v3, rfl, r1, r2, r3⟩ := hA.three
    obtain rfl : v1 = V.int x := r1
    obtain rfl : v2 = V.int y := r2
    obtain rfl : v3 = V.int 0 := r3
    refine ⟨H1, Wo G1 p, p, [], [], 0, C1, R, rfl, hC, g1.p, ⟨x.toNat, y.toNat, 0, Nat.le_refl _, by omega, Wo.at _ _, n2, fun c o z => ?_, ?_⟩, trivial, fun v H2 G2 g2 m r2 => ?_⟩
    · by_cases e : c = p
      · subst e; rw [Wo.at] at z; cases z
      · rwa [Wo.ne e] at z
    · rw [hp]
      unfold boxV
      rw [Int.toNat_of_nonneg hx, Int.toNat_of_nonneg hy]
      rfl
    · exact q v H2 G2 ⟨g1.e0.trans g2.e0, fun c o z => g2.e c o (by rw [Wo.ne (fun e => by rw [e, n1] at z; cases z)]; exact g1.e c o z), g2.p, fun c z z' => g2.f c (g1.f c z z') (by
        rw [Wo.ne (fun e => z' (by rw [e]; exact n1))]
        exact Ex.nn g1.e z')⟩ r2
end
theorem rep_one {α : Type} (x : α) (m : Nat) : (List.replicate m [x]).flatten = List.replicate m x := by
  induction m with
  | zero => rfl
  | succ m ih => rw [List.replicate_succ, List.replicate_succ, List.flatten_cons, ih]; rfl
section
variable {Γ : Ctx} {μ μ1 μ2 : Mt} {e : Hp × Hp} {ta tb : TE} {n m : Nat}
theorem yb_addX (ha : YB e ta Γ μ μ1 (tN n)) (hb : YB e tb Γ μ1 μ2 (tLt' m)) : YB e (tOp (rI0 fun i j => V.int (i + j)) ta tb) Γ μ μ2 (ExT (fun r : Nat => n ≤ r ∧ r < n + m) tN) :=
  yb_op ha hb fun x y H0 H x1 r1 r2 Q q => by
    obtain ⟨r, hr, r2⟩ := r2
    exact ⟨_, _, r1, r2, q _ H0 H (Gr.refl x1) ⟨n + r, ⟨by omega, by omega⟩, by show _ = V.int ((n + r : Nat) : Int); rw [Int.natCast_add]⟩⟩
end
/-! ### the table of a turn -/
structure Tb (n : Nat) (es : List Evt) : Prop where
  n3 : 3 ≤ n
  n5 : n ≤ 5
  len : es.length ≤ 16
  ev : ∀ e ∈ es, EvOk n e
  L5 : (looksL es).length ≤ 5
theorem Tb.tab {n : Nat} {es : List Evt} (h : Tb n es) : TabOk n es := ⟨by have := h.n5; omega, by have := h.len; omega, by have := h.L5; omega, h.ev⟩
section
variable {w : World} {K : PySem.W.Frag} {mg : Str → Option Value} {base : Heap}
def C_law_right : List Ty → Nat → Nat → Ty → Prop := fun Rs C0 C1 R => C0 = 0 ∧ C1 = 200 ∧ Rs = [] ∧ R = tBo true
theorem same_nat (n : Nat) (d : Nat) : C_same K d [tN n, tN n] (tBo true) := by
  induction d with
  | zero => exact ⟨.inl ⟨n, rfl⟩, rfl⟩
  | succ d ih => exact .inl ih
theorem same_str (z : Str) (d : Nat) : C_same K d [tSt z, tSt z] (tBo true) := by
  induction d with
  | zero => exact ⟨.inr ⟨z, rfl⟩, rfl⟩
  | succ d ih => exact .inl ih
theorem same_nats {ns : List Nat} (h : ns.length ≤ 1000) : C_same K 1 [tNs ns, tNs ns] (tBo true) :=
  .inr ⟨ns.map tN, fun T hT => by
    obtain ⟨n, _, rfl⟩ := List.mem_map.mp hT
    exact same_nat n 0, by rw [List.length_map]; exact h, .inl rfl, rfl⟩
theorem same_tup {ns : List Nat} (h : ns.length ≤ 1000) : C_same K 1 [Tup K (ns.map tN), Tup K (ns.map tN)] (tBo true) :=
  .inr ⟨ns.map tN, fun T hT => by
    obtain ⟨n, _, rfl⟩ := List.mem_map.mp hT
    exact same_nat n 0, by rw [List.length_map]; exact h, .inr rfl, rfl⟩
theorem same_told {ns : List Nat} {m : Nat} (h : ns.length ≤ 1000) (hm : m ≤ 500) : C_same K 2 [Lst ([tNs ns, tSt "delay"] ++ List.replicate m (tSt "no")), Lst ([tNs ns, tSt "delay"] ++ List.replicate m (tSt "no"))] (tBo true) :=
  .inr ⟨_, fun T hT => by
    rcases List.mem_append.mp hT with hT | hT
    · rcases List.mem_cons.mp hT with rfl | hT
      · exact same_nats h
      · rw [List.mem_singleton.mp hT]; exact same_str _ _
    · rw [(List.mem_replicate.mp hT).2]; exact same_str _ _, by rw [List.length_append, List.length_replicate]; show 2 + m ≤ 1000; omega, .inl rfl, rfl⟩
theorem same_LL {Ls : List (List Nat)} (h : Ls.length ≤ 1000) (hl : ∀ ns ∈ Ls, ns.length ≤ 1000) : C_same K 2 [tLL K Ls, tLL K Ls] (tBo true) :=
  .inr ⟨_, fun T hT => by
    obtain ⟨ns, hns, rfl⟩ := List.mem_map.mp hT
    exact same_tup (hl ns hns), by rw [List.length_map]; exact h, .inl rfl, rfl⟩
theorem heard_len {kd : Str} {n : Nat} {es : List Evt} {so : List Nat} : (heardL kd n es so).length ≤ n := by
  unfold heardL up
  exact Nat.le_trans (List.length_filter_le _ _) (Nat.le_of_eq List.length_range)
theorem subs_ok' {L i : Nat} (hi : i < L) {S : List Nat} (h : S ∈ subs [[i]] ((List.range L).drop (i + 1))) : S.Nodup ∧ i ∈ S ∧ S.length ≤ L ∧ ∀ x ∈ S, x < L := by
  obtain ⟨B, hB, rfl⟩ := subs_hd.mp h
  have hlt : ∀ x ∈ B, i < x ∧ x < L := fun x hx => drop_range.mp (hB.subset hx)
  refine ⟨List.nodup_cons.mpr ⟨fun hx => absurd (hlt i hx).1 (Nat.lt_irrefl _), hB.nodup (List.Nodup.sublist (List.drop_sublist _ _) List.nodup_range)⟩, List.mem_cons_self, ?_, fun x hx => ?_⟩
  · have := hB.length_le
    rw [List.length_drop, List.length_range] at this
    rw [List.length_cons]
    omega
  · rcases List.mem_cons.mp hx with rfl | hx
    · exact hi
    · exact (hlt x hx).2
theorem sc_law_right : FnScope ["_law_box_here", "_law_sort_so", "_law_table_here", "_law_many", "_law_i", "_law_folk", "_law_away", "_law_told", "_law_sets_so", "_law_one", "_law_due", "_law_deed", "_law_p", "_law_some"] ["_law_box_here"] (defScope s_law_right) := ⟨rfl, rfl, rfl, by decide +kernel, rfl, by decide +kernel, by decide +kernel⟩
theorem ok_law_right (T : Tx K mg) : FnOk PP w K mg base CX0 18 (He.fAd K d_law_right.at_) (fdOf K d_law_right.at_) ["_law_box_here"] (spB C_law_right) := by
  have G_law_lean := ok_law_lean T (w := w) (base := base)
  have G_law_live := ok_law_live T (w := w) (base := base)
  have G_law_take := ok_law_take T (w := w) (base := base)
  have G_law_heard := ok_law_heard T (w := w) (base := base)
  have G_kept_from := ok_kept_from T (w := w) (base := base)
  have G_keep_way := ok_keep_way T (w := w) (base := base)
  have G_law_same := ok_law_same T (w := w) (base := base) 2
  have G_audiences := ok_audiences T (w := w) (base := base)
  refine fnB_ok T.F_law_right sc_law_right (by rintro _ _ _ _ ⟨_, _, rfl, _⟩; rfl) fun Rs C0 C1 R hC cdv A outer s H E hr => ?_
  obtain ⟨rfl, rfl, rfl, rfl⟩ := hC
  refine ⟨_, (pss_cons (ps_for PassesOwn.never rfl (pi_tupK K (pe_tup (pa_cons pe_str (pa_cons pe_str pa_nil)))) (pg_name (i := 1) sc_law_right.nd rfl (Or.inr rfl)) (pss_cons (ps_set (i := 2) sc_law_right.nd rfl (Or.inr rfl) (pe_call G_law_lean (hr.mono (by decide)) rfl T.g__law_lean T.F_law_lean.kp T.b_law_lean .nil pass0 (pa_cons (pe_call G_law_live (hr.mono (by decide)) rfl T.g__law_live T.F_law_live.kp T.b_law_live .nil pass0 (pa_cons (pv 0) (pa_cons (pe_op op_add pe_int (pe_call G_law_take (hr.mono (by decide)) rfl T.g__law_take T.F_law_take.kp T.b_law_take .nil pass0 (pa_cons (pv 0) (pa_cons pe_int pa_nil)))) (pa_cons (pe_op op_add pe_int (pe_call G_law_take (hr.mono (by decide)) rfl T.g__law_take T.F_law_take.kp T.b_law_take .nil pass0 (pa_cons (pv 0) (pa_cons pe_int pa_nil)))) (pa_cons pe_int pa_nil))))) (pa_cons pe_int pa_nil))))
      (pss_cons (ps_set (i := 3) sc_law_right.nd rfl (Or.inl rfl) (pe_callB (r := rLenA K) call_len_seq (by rfl) T.f_len (by decide +kernel) (pa_cons (pe_lc (own := [("_law_deed", 11)]) rfl sc_law_right.nd (pi_tupK K (pe_ix (r := rIxT K) ix_tup (pv 2) pe_int (fun _ _ => rfl))) (blkOk_by (N := ["_law_box_here", "_law_sort_so", "_law_table_here", "_law_many", "_law_i", "_law_folk", "_law_away", "_law_told", "_law_sets_so", "_law_one", "_law_due", "_law_deed", "_law_p", "_law_some"]) (sc := _) (by kernel_rfl)) (fun _ _ _ _ _ => (pg_name (i := 11) sc_law_right.nd rfl (Or.inl rfl))) (fun _ _ _ _ _ => pts_one (pt_cmpR op_eq (pe_ix (r := rIxT K) ix_tup (pv 11) pe_int (fun _ _ => rfl)) pe_str (nomark _))) (fun _ _ _ _ _ => pe_int)) pa_nil)))
      (pss_one (ps_for PassesOwn.never rfl (pi_range1 rfl T.f_range (pa_cons (pv 3) pa_nil)) (pg_name (i := 4) sc_law_right.nd rfl (Or.inr rfl)) (pss_cons (ps_set (i := 5) sc_law_right.nd rfl (Or.inr rfl) (pe_ix (r := rIxT K) ix_tup (pe_call G_law_heard (hr.mono (by decide)) rfl T.g__law_heard T.F_law_heard.kp T.b_law_heard .nil pass0 (pa_cons (pv 2) (pa_cons (pv 1) (pa_cons (pe_lst (pa_cons (pv 4) pa_nil)) pa_nil)))) pe_int (fun _ _ => rfl)))
      (pss_cons (ps_setLc (i := 6) (own := [("_law_p", 12)]) rfl sc_law_right.nd rfl rfl (sw_true rfl rfl rfl (by decide +kernel)) (pi_range1 rfl T.f_range (pa_cons (pe_ix (r := rIxT K) ix_tup (pv 2) pe_int (fun _ _ => rfl)) pa_nil)) (blkOk_by (N := ["_law_box_here", "_law_sort_so", "_law_table_here", "_law_many", "_law_i", "_law_folk", "_law_away", "_law_told", "_law_sets_so", "_law_one", "_law_due", "_law_deed", "_law_p", "_law_some"]) (sc := _) (by kernel_rfl)) (fun _ _ _ _ _ => (pg_name (i := 12) sc_law_right.nd rfl (Or.inl rfl))) (fun _ _ _ _ _ => pts_one (pt_cmpR (r := rIn K true) op_notIn_seq (pv 12) (pv 5) (by with_unfolding_all rfl))) (fun _ _ _ _ _ => (pv 12)))
      (pss_cons (ps_set (i := 7) sc_law_right.nd rfl (Or.inl rfl) (pe_lst (pa_cons (pe_call G_kept_from (hr.mono (by decide)) rfl T.g_kept_from T.F_kept_from.kp T.b_kept_from .nil pass0 (pa_cons (pv 2) (pa_cons (pv 1) (pa_cons (pv 4) pa_nil)))) (pa_cons (pe_call G_keep_way (hr.mono (by decide)) rfl T.g_keep_way T.F_keep_way.kp T.b_keep_way .nil pass0 (pa_cons (pv 2) (pa_cons (pv 1) (pa_cons (pv 4) (pa_cons (pv 6) pa_nil))))) pa_nil))))
      (pss_cons (ps_set (i := 7) sc_law_right.nd rfl (Or.inl rfl) (pe_op op_cat (pv 7) (pe_lc (own := [("_law_p", 12)]) rfl sc_law_right.nd (pi_listK K (pv 5)) (blkOk_by (N := ["_law_box_here", "_law_sort_so", "_law_table_here", "_law_many", "_law_i", "_law_folk", "_law_away", "_law_told", "_law_sets_so", "_law_one", "_law_due", "_law_deed", "_law_p", "_law_some"]) (sc := _) (by kernel_rfl)) (fun _ _ _ _ _ => (pg_name (i := 12) sc_law_right.nd rfl (Or.inl rfl))) (fun _ _ _ _ _ => pts_nil) (fun _ _ _ _ _ => (pe_call G_keep_way (hr.mono (by decide)) rfl T.g_keep_way T.F_keep_way.kp T.b_keep_way .nil pass0 (pa_cons (pv 2) (pa_cons (pv 1) (pa_cons (pv 4) (pa_cons (pe_lst (pa_cons (pv 12) pa_nil)) pa_nil)))))))))
      (pss_cons (ps_if (pt_not (pt_val (pe_call G_law_same (hr.mono (by decide)) rfl T.g__law_same T.F_law_same.kp T.b_law_same .nil pass0 (pa_cons (pv 7) (pa_cons (pe_op op_cat (pe_lst (pa_cons (pv 6) (pa_cons pe_str pa_nil))) (pe_op op_rep (pe_lst (pa_cons pe_str pa_nil)) (pe_callB (r := rLenA K) call_len_seq (by rfl) T.f_len (by decide +kernel) (pa_cons (pv 5) pa_nil)))) pa_nil))))) (pss_one (ps_ret pe_bl)) pss_nil)
      (pss_cons (ps_set (i := 8) sc_law_right.nd rfl (Or.inl rfl) (pe_lst (pa_cons (pe_lst (pa_cons (pv 4) pa_nil)) pa_nil)))
      (pss_cons (ps_for PassesOwn.never rfl (pi_range2 rfl T.f_range (pa_cons (pe_op op_add (pv 4) pe_int) (pa_cons (pv 3) pa_nil))) (pg_name (i := 9) sc_law_right.nd rfl (Or.inr rfl)) (pss_one (ps_set (i := 8) sc_law_right.nd rfl (Or.inl rfl) (pe_op op_cat (pv 8) (pe_lc (own := [("_law_some", 13)]) rfl sc_law_right.nd (pi_listK K (pv 8)) (blkOk_by (N := ["_law_box_here", "_law_sort_so", "_law_table_here", "_law_many", "_law_i", "_law_folk", "_law_away", "_law_told", "_law_sets_so", "_law_one", "_law_due", "_law_deed", "_law_p", "_law_some"]) (sc := _) (by kernel_rfl)) (fun _ _ _ _ _ => (pg_name (i := 13) sc_law_right.nd rfl (Or.inl rfl))) (fun _ _ _ _ _ => pts_nil) (fun _ _ _ _ _ => (pe_op op_cat (pv 13) (pe_lst (pa_cons (pv 9) pa_nil)))))))))
      (pss_cons (ps_set (i := 10) sc_law_right.nd rfl (Or.inl rfl) (pe_callB (r := rSrtV K PP w) (cr_srtV rfl) (by rfl) T.f_sorted (by decide +kernel) (pa_cons (pe_callTy (r := rSetOfT K PP w) (cr_setOfT rfl hr.units) (by rfl) T.f_set (by decide +kernel) (pa_cons (pe_lc (own := [("_law_some", 13)]) rfl sc_law_right.nd (pi_listK K (pv 8)) (blkOk_by (N := ["_law_box_here", "_law_sort_so", "_law_table_here", "_law_many", "_law_i", "_law_folk", "_law_away", "_law_told", "_law_sets_so", "_law_one", "_law_due", "_law_deed", "_law_p", "_law_some"]) (sc := _) (by kernel_rfl)) (fun _ _ _ _ _ => (pg_name (i := 13) sc_law_right.nd rfl (Or.inl rfl))) (fun _ _ _ _ _ => pts_nil) (fun _ _ _ _ _ => (pe_callTy (r := rTupA K) call_tuple_of (by rfl) T.f_tuple (by decide +kernel) (pa_cons (pe_ix (r := rIxT K) ix_tup (pe_call G_law_heard (hr.mono (by decide)) rfl T.g__law_heard T.F_law_heard.kp T.b_law_heard .nil pass0 (pa_cons (pv 2) (pa_cons (pv 1) (pa_cons (pv 13) pa_nil)))) pe_int (fun _ _ => rfl)) pa_nil)))) pa_nil)) pa_nil)))
      (pss_one (ps_if (pt_not (pt_val (pe_call G_law_same (hr.mono (by decide)) rfl T.g__law_same T.F_law_same.kp T.b_law_same .nil pass0 (pa_cons (pe_call G_audiences (hr.mono (by decide)) rfl T.g_audiences T.F_audiences.kp T.b_audiences .nil pass0 (pa_cons (pv 2) (pa_cons (pv 1) (pa_cons (pv 4) pa_nil)))) (pa_cons (pv 10) pa_nil))))) (pss_one (ps_ret pe_bl)) pss_nil)))))))))))))))
      (pss_one (ps_ret pe_bl))), fun E0 Hb b => ?_⟩
  refine hx_mu (μ' := M0.and (Bx Hb b 0)) (fun H0 H h => ⟨trivial, h⟩) ?_
  let G : Ctx := [some (Is (.ref b)), none, none, none, none, none, none, none, none, none, none, none, none, none]
  refine hx_seq (N1 := fun Γ' μ' => Wk Γ' G ∧ μ' = M0.and (Bx Hb b (100 * 2))) (hr_for (fun i Γ' μ' => Wk Γ' G ∧ μ' = M0.and (Bx Hb b (100 * i))) (yi_tup (K := K) (Rs := [tSt "long", tSt "short"]) (y_tup (ya_cons y_c (ya_cons y_c ya_nil)) (by show 2 ≤ 100000; decide))) ⟨.keep (.skip (.skip (.skip (.skip (.skip (.skip (.skip (.skip (.skip (.skip (.skip (.skip (.skip (.nil)))))))))))))), rfl⟩ ?_ fun Γn μn h => h) ?_
  · rintro i R1 Γ1 μ1 ⟨wk, rfl⟩ hR
    have hi2 : i < 2 := (List.getElem?_eq_some_iff.mp hR).1
    obtain ⟨kd, rfl⟩ : ∃ kd, R1 = tSt kd := by
      have : i = 0 ∨ i = 1 := by omega
      rcases this with rfl | rfl
      · exact ⟨"long", by simpa using hR.symm⟩
      · exact ⟨"short", by simpa using hR.symm⟩
    refine ⟨_, _, YG.weak wk yg_name, ?_⟩
    refine hr_setB (RA := ExT (fun p : Nat × List Evt => Tb p.1 p.2) fun p => tTab K p.1 p.2) (μ1 := M0.and (Bx Hb b (100 * (i + 1)))) (yb_callR (yba_cons (yb_callX (C1 := 100 * (i + 1)) (R := ExT (fun p : Nat × List LEv => 3 ≤ p.1 ∧ p.1 ≤ 5 ∧ p.2.length ≤ 16 ∧ (∀ x ∈ p.2, LevOk p.1 x) ∧ cnt (leanE p.2) ≤ 5) fun p => tLt K p.1 p.2) M0.off
        (yba_cons (yb_y (y_var rfl)) (yba_cons (yb_addX (yb_y (y_c (v := .int ((3 : Nat) : Int)))) (yb_call (C1 := 100 * i + 1) M0.off (yba_cons (yb_y (y_var rfl)) (yba_cons (yb_y (y_c (v := .int ((3 : Nat) : Int)))) yba_nil)) ⟨3, by decide, by decide, by omega, rfl, rfl, rfl⟩)) (yba_cons (yb_addX (yb_y (y_c (v := .int ((11 : Nat) : Int)))) (yb_call (C1 := 100 * i + 2) M0.off (yba_cons (yb_y (y_var rfl)) (yba_cons (yb_y (y_c (v := .int ((5 : Nat) : Int)))) yba_nil)) ⟨5, by decide, by decide, by omega, rfl, rfl, rfl⟩)) (yba_cons (yb_y (y_c (v := .int ((5 : Nat) : Int)))) yba_nil)))) ?_) (yba_cons (yb_y (y_c (v := .int ((0 : Nat) : Int)))) yba_nil)) ?_) ?_
    · intro vs H h
      obtain ⟨v1, v2, v3, rfl, ⟨r, ⟨hr1, hr2⟩, h1⟩, ⟨l, ⟨hl1, hl2⟩, h2⟩, h3⟩ := AllR.three h
      refine ⟨[tN r, tN l, tN 5], 100 * i + 2 + 3 * l + 1, _, ⟨r, l, 5, by omega, by omega, by omega, by decide, by omega, rfl, rfl, rfl⟩, by omega, ⟨h1, h2, h3, trivial⟩, ?_⟩
      rintro v H ⟨les, ⟨k1, k2, _, k3⟩, k4⟩
      exact ⟨(r, les), ⟨by show 3 ≤ r; omega, by show r ≤ 5; omega, by show les.length ≤ 16; omega, k2, k3⟩, k4⟩
    · intro vs H h
      obtain ⟨v1, v2, rfl, ⟨⟨n, les⟩, ⟨h1, h2, h3, h4, h5⟩, h6⟩, h7⟩ := AllR.two h
      refine ⟨[tLt K n les, tN 0], _, ⟨n, les, by show les.length ≤ 1000; have : les.length ≤ 16 := h3; omega, rfl, rfl⟩, ⟨h6, h7, trivial⟩, fun v H h => ⟨(n, leanE les), ⟨h1, h2, Nat.le_trans (leanE_le _) h3, ?_, by show (looksL (leanE les)).length ≤ 5; rw [cnt_looks]; exact h5⟩, h⟩⟩
      intro e he
      obtain ⟨x, hx, hxe⟩ := List.mem_filterMap.mp he
      cases x with
      | inl p => cases hxe
      | inr e' => cases hxe; exact h4 _ hx
    refine hr_exi (k := 2) rfl ?_
    rintro ⟨n, es⟩ htb
    have htb : Tb n es := htb
    have htab := htb.tab
    have hL5 := htb.L5
    have hlen := htb.len
    have hn3 := htb.n3
    have hn5 := htb.n5
    refine hr_set (RA := tN (looksL es).length) (Y.to (y_lenL (y_lc (xs := es) (r := tEv K) (f := fun x => x.isL) (o := fun _ => tI 1) (yi_tup (y_ixT (n := 1) (y_var rfl) y_c rfl rfl)) (by decide) (by omega) (fun x hx => yg_name) (fun x hx => YT.to (yt_t (y_eqS (a := x.word) (d := ("look" : Str)) (y_ixT (n := 0) (y_var rfl) y_c rfl rfl) y_c)) (word_look x)) (fun x hx hf => y_c))) (by rw [List.length_map, cnt_looks]; rfl)) ?_
    let G2 : Ctx := [some (Is (.ref b)), some (tSt kd), some (tTab K n es), some (tN (looksL es).length), none, none, none, none, none, none, none, none, none, none]
    refine hr_forG (fun _ => G2) (yi_range1 (ya_cons (y_var rfl) ya_nil) (by omega)) (.keep (.keep (.keep (.keep (.skip (.skip (.skip (.skip (.skip (.skip (.skip (.skip (.skip (.skip (.nil))))))))))))))) ?_ fun Γn w => ⟨w.trans (.keep (.skip (.skip (.skip (.skip (.skip (.skip (.skip (.skip (.skip (.skip (.skip (.skip (.skip (.nil))))))))))))))), rfl⟩
    intro i R1 hR
    obtain ⟨i', hi', rfl⟩ := map_get hR
    obtain ⟨hi1, rfl⟩ : i < (looksL es).length ∧ i = i' := by
      obtain ⟨h1, h2⟩ := List.getElem?_eq_some_iff.mp hi'
      rw [List.getElem_range] at h2
      rw [List.length_range] at h1
      exact ⟨h1, h2⟩
    refine ⟨_, _, yg_name, ?_⟩
    have hfl : (heardL kd n es [i]).length ≤ n := heard_len
    have hfm : ∀ p, p ∈ heardL kd n es [i] → p < n ∧ heardB kd es i p = true := fun p hp => by
      rw [heard_one] at hp
      exact ⟨List.mem_range.mp (List.mem_filter.mp hp).1, (List.mem_filter.mp hp).2⟩
    have hkl : (keptL kd n es i).length ≤ n := by
      unfold keptL
      exact Nat.le_trans (List.length_filter_le _ _) (Nat.le_of_eq List.length_range)
    have hkm : ∀ p, p ∈ keptL kd n es i → p < n ∧ heardB kd es i p = false := fun p hp => by
      obtain ⟨h1, h2⟩ := List.mem_filter.mp hp
      exact ⟨List.mem_range.mp h1, by simpa using h2⟩
    refine hr_set (RA := tNs (heardL kd n es [i])) (y_ixT (n := 1) (y_call (ya_cons (y_var rfl) (ya_cons (y_var rfl) (ya_cons (y_lst (ya_cons (y_var rfl) ya_nil) (by show 1 ≤ 100000; decide)) ya_nil))) ⟨n, es, kd, [i], by omega, htb.ev, by simp, by simp, by simp; omega, rfl, rfl⟩) y_c rfl rfl) ?_
    refine hr_set (RA := tNs (keptL kd n es i)) (Y.to (y_lc (xs := List.range n) (r := tN) (f := fun p => !decide (p ∈ heardL kd n es [i])) (o := tN) (yi_range1 (ya_cons (y_ixT (n := 0) (y_var rfl) y_c rfl rfl) ya_nil) (by omega)) (by decide) (by rw [List.length_range]; omega) (fun x hx => yg_name) (fun x hx => (yt_t (y_ninL (y_var rfl) (y_var rfl)))) (fun x hx hf => (y_var rfl))) (by rw [away_eq])) ?_
    refine hr_set (RA := Lst [tNs (keptL kd n es i), tSt "delay"]) (y_lst (ya_cons (y_call (ya_cons (y_var rfl) (ya_cons (y_var rfl) (ya_cons (y_var rfl) ya_nil))) ⟨n, es, kd, i, htab, hi1, rfl, rfl⟩) (ya_cons (y_call (ya_cons (y_var rfl) (ya_cons (y_var rfl) (ya_cons (y_var rfl) (ya_cons (y_var rfl) ya_nil)))) ⟨n, es, kd, i, keptL kd n es i, htab, hi1, fun p hp => (hkm p hp).1, by omega, rfl, .inl ⟨fun p hp => (hkm p hp).2, rfl⟩⟩) ya_nil)) (by show 2 ≤ 100000; decide)) ?_
    refine hr_set (RA := Lst ([tNs (keptL kd n es i), tSt "delay"] ++ List.replicate (heardL kd n es [i]).length (tSt "no"))) (Y.to (y_cat (Rs := [tNs (keptL kd n es i), tSt "delay"]) (y_var rfl) (y_lcA (xs := heardL kd n es [i]) (r := tN) (o := fun _ => tSt "no") (yi_list (y_var rfl)) (by decide) (by omega) (fun x hx => yg_name) (fun x hx => (y_call (ya_cons (y_var rfl) (ya_cons (y_var rfl) (ya_cons (y_var rfl) (ya_cons (y_lst (ya_cons (y_var rfl) ya_nil) (by show 1 ≤ 100000; decide)) ya_nil)))) ⟨n, es, kd, i, [x], htab, hi1, fun p hp => by rw [List.mem_singleton.mp hp]; exact (hfm x hx).1, by show 1 ≤ 64; decide, rfl, .inr ⟨x, rfl, (hfm x hx).2, rfl⟩⟩))) (by rw [List.length_map]; show 2 + _ ≤ _; omega)) (by rw [List.map_const'])) ?_
    refine hr_ifr (b := false) (yt_not (b := true) (yt_B (y_call (ya_cons (y_var rfl) (ya_cons (Y.to (y_cat (Rs := [tNs (keptL kd n es i), tSt "delay"]) (y_lst (ya_cons (y_var rfl) (ya_cons y_c ya_nil)) (by show 2 ≤ 100000; decide)) (y_rep (Rs := [tSt "no"]) (n := (heardL kd n es [i]).length) (y_lst (ya_cons y_c ya_nil) (by show 1 ≤ 100000; decide)) (Y.to (y_lenL (Rs := (heardL kd n es [i]).map tN) (y_var rfl)) (by rw [List.length_map])) (by show 1 * _ ≤ _; omega) (by omega)) (by rw [rep_one, List.length_replicate]; show 2 + _ ≤ _; omega)) (by rw [rep_one])) ya_nil)) (same_told (by omega) (by omega))))) (fun h => nomatch h) fun _ => ?_
    refine hr_set (RA := Lst ([[i]].map tNs)) (y_lst (ya_cons (y_lst (ya_cons (y_var rfl) ya_nil) (by show 1 ≤ 100000; decide)) ya_nil) (by show 1 ≤ 100000; decide)) ?_
    have hsub : ∀ j, (subs [[i]] (((List.range (looksL es).length).drop (i + 1)).take j)).length ≤ 32 := fun j => by
      have h1 := subs_len (acc := [[i]]) (ns := ((List.range (looksL es).length).drop (i + 1)).take j)
      have h2 : (((List.range (looksL es).length).drop (i + 1)).take j).length ≤ 5 := by rw [List.length_take, List.length_drop, List.length_range]; omega
      have h3 : 2 ^ (((List.range (looksL es).length).drop (i + 1)).take j).length ≤ 2 ^ 5 := Nat.pow_le_pow_right (by decide) h2
      rw [List.length_singleton] at h1
      omega
    have hsel : ∀ j, ∀ S ∈ subs [[i]] (((List.range (looksL es).length).drop (i + 1)).take j), S.length ≤ 6 := fun j S hS => by
      have h1 := subs_el (acc := [[i]]) (ns := ((List.range (looksL es).length).drop (i + 1)).take j) (m := 1) (by simp) S hS
      have h2 : (((List.range (looksL es).length).drop (i + 1)).take j).length ≤ 5 := by rw [List.length_take, List.length_drop, List.length_range]; omega
      omega
    let G3 : Nat → Ctx := fun j => [some (Is (.ref b)), some (tSt kd), some (tTab K n es), some (tN (looksL es).length), some (tN i), some (tNs (heardL kd n es [i])), none, none, some (Lst ((subs [[i]] (((List.range (looksL es).length).drop (i + 1)).take j)).map tNs)), none, none, none, none, none]
    refine hr_forS G3 (yi_range2 (a := i + 1) (ya_cons (y_addN (n := i) (m := 1) (y_var rfl) y_c) (ya_cons (y_var rfl) ya_nil)) (by omega) (by omega)) (.keep (.keep (.keep (.keep (.keep (.keep (.skip (.skip (.keep (.skip (.skip (.skip (.skip (.skip (.nil))))))))))))))) ?_ ?_
    · intro j R1 hR
      obtain ⟨p, hp, rfl⟩ := map_get hR
      obtain ⟨hj, rfl⟩ : j < (looksL es).length - (i + 1) ∧ j = p := by
        obtain ⟨h1, h2⟩ := List.getElem?_eq_some_iff.mp hp
        rw [List.getElem_range] at h2
        rw [List.length_range] at h1
        exact ⟨h1, h2⟩
      have htake : ((List.range (looksL es).length).drop (i + 1)).take (j + 1) = ((List.range (looksL es).length).drop (i + 1)).take j ++ [i + 1 + j] := by
        rw [List.take_succ, List.getElem?_drop, List.getElem?_range (by omega)]
        rfl
      refine ⟨_, _, yg_name, hr_set1 (RA := Lst ((subs [[i]] (((List.range (looksL es).length).drop (i + 1)).take (j + 1))).map tNs)) ?_ ⟨.keep (.keep (.keep (.keep (.keep (.keep (.skip (.skip (.keep (.skip (.skip (.skip (.skip (.skip (.nil)))))))))))))), rfl⟩⟩
      refine (y_cat (y_var rfl) (y_lcA (xs := subs [[i]] (((List.range (looksL es).length).drop (i + 1)).take j)) (r := tNs) (o := fun sh => Lst (sh.map tN ++ [tN (i + 1 + j)])) (yi_list (y_var rfl)) (by decide) (by have := hsub j; omega) (fun x hx => yg_name) (fun x hx => (y_cat (y_var rfl) (y_lst (ya_cons (y_var rfl) ya_nil) (by show 1 ≤ 100000; decide)) ?_))) ?_).to ?_
      · rw [List.length_map]
        have := hsel j x hx
        show x.length + 1 ≤ 100000
        omega
      · have := hsub j
        rw [List.length_map, List.length_map]; omega
      · rw [htake, subs_snoc, List.map_append, List.map_map]
        congr 2
        refine List.map_congr_left fun s _ => ?_
        show Lst (s.map tN ++ [tN (i + 1 + j)]) = Lst ((s ++ [i + 1 + j]).map tN)
        rw [List.map_append]
        rfl
    · have hlast : ((List.range (looksL es).length).drop (i + 1)).take ((List.range ((looksL es).length - (i + 1))).map fun j => tN (i + 1 + j)).length = (List.range (looksL es).length).drop (i + 1) := by
        rw [List.length_map, List.length_range, List.take_of_length_le (by rw [List.length_drop, List.length_range]; exact Nat.le_refl _)]
      show Hr _ _ [some (Is (.ref b)), some (tSt kd), some (tTab K n es), some (tN (looksL es).length), some (tN i), some (tNs (heardL kd n es [i])), none, none, some (Lst ((subs [[i]] (((List.range (looksL es).length).drop (i + 1)).take ((List.range ((looksL es).length - (i + 1))).map fun j => tN (i + 1 + j)).length)).map tNs)), none, none, none, none, none] _ _ _
      have hsubL := hsub ((List.range ((looksL es).length - (i + 1))).map fun j => tN (i + 1 + j)).length
      rw [hlast] at hsubL ⊢
      generalize hsets : subs [[i]] ((List.range (looksL es).length).drop (i + 1)) = sets at hsubL ⊢
      have hset : ∀ S ∈ sets, S.Nodup ∧ i ∈ S ∧ S.length ≤ (looksL es).length ∧ ∀ x ∈ S, x < (looksL es).length := fun S hS => subs_ok' hi1 (by rw [hsets]; exact hS)
      refine hr_set (RA := ExT (fun Ls => LexS Ls ∧ ∀ ns, ns ∈ Ls ↔ ns ∈ sets.map (heardL kd n es)) (tLL K)) (y_ssetT (xs := sets.map (heardL kd n es)) (Y.to (y_lcA (xs := sets) (r := tNs) (o := fun sh => Tup K ((heardL kd n es sh).map tN)) (yi_list (y_var rfl)) (by decide) (by omega) (fun x hx => yg_name) (fun x hx => (y_tupL (y_ixT (n := 1) (y_call (ya_cons (y_var rfl) (ya_cons (y_var rfl) (ya_cons (y_var rfl) ya_nil))) ⟨n, es, kd, x, by omega, htb.ev, (hset x hx).1, by have := (hset x hx).2.2.1; omega, fun z hz => by have := (hset x hx).2.2.2 z hz; omega, rfl, rfl⟩) y_c rfl rfl)))) (by show Lst _ = Lst _; rw [List.map_map]; rfl)) (fun ns hns => ?_) (by rw [List.length_map]; omega)) ?_
      · obtain ⟨S, hS, rfl⟩ := List.mem_map.mp hns
        obtain ⟨p, hp, hip⟩ := looker (kd := kd) htab hi1
        refine List.ne_nil_of_mem (a := p) ?_
        rw [heard_ppl]
        unfold pplS
        exact List.mem_filter.mpr ⟨List.mem_range.mpr hp, List.any_eq_true.mpr ⟨i, hip, decide_eq_true ((both_of kd es S).sub i (hset S hS).2.1)⟩⟩
      refine hr_exi (k := 10) rfl fun Ls hLs => ?_
      have hmem : ∀ ns ∈ Ls, ns.length ≤ 1000 := fun ns hns => by
        obtain ⟨S, _, rfl⟩ := List.mem_map.mp ((hLs.2 ns).mp hns)
        exact Nat.le_trans heard_len (by omega)
      have hLl : Ls.length ≤ 1000 := by
        have h1 := hLs.1.nd.length_le_of_subset (l₂ := sets.map (heardL kd n es)) fun ns hns => (hLs.2 ns).mp hns
        rw [List.length_map] at h1
        omega
      refine hr_if (b := false) (yt_not (b := true) (yt_B (y_callX (ya_cons (y_call (R := ExT (AudS kd n es i) (tLL K)) (ya_cons (y_var rfl) (ya_cons (y_var rfl) (ya_cons (y_var rfl) ya_nil))) ⟨n, es, kd, i, htab, by omega, hi1, rfl, rfl⟩) (ya_cons (y_var rfl) ya_nil)) ?_))) (fun h => nomatch h) fun _ => hr_nil ⟨.keep (.keep (.keep (.keep (.skip (.skip (.skip (.skip (.skip (.skip (.skip (.skip (.skip (.skip (.nil)))))))))))))), rfl⟩
      intro vs H h
      obtain ⟨v1, v2, rfl, ⟨Ms, hMs, h1⟩, h2⟩ := AllR.two h
      have e : Ms = Ls := LexS.uniq hMs.s hLs.1 fun ns => by
        rw [hMs.m ns, hLs.2 ns, ← hsets]
        exact aud_iff hi1
      subst e
      exact ⟨_, same_LL hLl hmem, h1, h2, trivial⟩
  · rintro Γ1 μ1 ⟨wk, rfl⟩
    exact hx_weak (hx_ret y_c fun H0 H h => h.2) wk
/-! ### the law itself -/
def C_law (K : PySem.W.Frag) : List Ty → Ty → Prop := fun Rs R => ∃ is : List Int, is.length ≤ 1000 ∧ Rs = [Scr K is] ∧ R = tBo true
theorem sc_law : FnScope ["_law_script", "_law_lap"] ["_law_script"] (defScope s_law) := ⟨rfl, rfl, rfl, by decide +kernel, rfl, by decide +kernel, by decide +kernel⟩
theorem ok_law (T : Tx K mg) : FnOk PP w K mg base CX0 19 (He.fAd K d_law.at_) (fdOf K d_law.at_) ["_law_script"] (spR (C_law K)) := by
  have G_law_right := ok_law_right T (w := w) (base := base)
  have G_law_box := ok_law_box T (w := w) (base := base)
  refine fn_ok T.F_law sc_law (by rintro _ _ ⟨is, _, rfl, rfl⟩; rfl) fun Rs R hC cdv A outer s H E hr => ?_
  obtain ⟨is, his, rfl, rfl⟩ := hC
  refine ⟨_, (pss_one (ps_ret (pe_callB (r := rAll K) (cr_all rfl) (by rfl) T.f_all (by decide +kernel) (pa_cons (pe_lc (own := [("_law_lap", 1)]) rfl sc_law.nd (pi_range1 rfl T.f_range (pa_cons (pe_op op_add pe_int (pe_callB (call_min2 rfl) (by rfl) T.f_min (by decide +kernel) (pa_cons pe_int (pa_cons (pe_callB (r := rLenA K) call_len_seq (by rfl) T.f_len (by decide +kernel) (pa_cons (pv 0) pa_nil)) pa_nil)))) pa_nil)) (blkOk_by (N := ["_law_script", "_law_lap"]) (sc := _) (by kernel_rfl)) (fun _ _ _ _ _ => (pg_name (i := 1) sc_law.nd rfl (Or.inl rfl))) (fun _ _ _ _ _ => pts_nil) (fun _ _ _ _ _ => (pe_call G_law_right (hr.mono (by decide)) rfl T.g__law_right T.F_law_right.kp T.b_law_right .nil pass0 (pa_cons (pe_call G_law_box (hr.mono (by decide)) rfl T.g__law_box T.F_law_box.kp T.b_law_box .nil pass0 (pa_cons (pv 0) (pa_cons (pv 1) pa_nil))) pa_nil)))) pa_nil)))), fun e => ?_⟩
  have hm : (1 : Int) + (if (is.length : Int) < 2 then (is.length : Int) else 2) = ((1 + min 2 is.length : Nat) : Int) := by
    split <;> omega
  refine hr_ret (Y.to (y_all (xs := List.range (1 + min 2 is.length)) (f := fun _ => true) (y_lcA (xs := List.range (1 + min 2 is.length)) (r := tN) (o := fun _ => tBo true) (yi_range1 (n := 1 + min 2 is.length) (ya_cons (Y.to (y_add y_c (y_min2 y_c (y_lenS2 (y_var rfl)))) (congrArg tI hm)) ya_nil) (by omega)) (by decide) (by rw [List.length_range]; omega) (fun x hx => yg_name) (fun x hx => ?_))) (congrArg tBo (List.all_eq_true.mpr fun _ _ => rfl)))
  have hx3 : x < 1 + min 2 is.length := List.mem_range.mp hx
  exact y_box (C1 := 200) (yl_callN (ya_cons (y_var rfl) (ya_cons (y_var rfl) ya_nil)) ⟨is, x, by omega, rfl, rfl⟩) (boxN_nn _) (boxS_b _ _).1 (by have := (boxS_b (is.getD x 0) x).2; omega) ⟨rfl, rfl, rfl, rfl⟩
end
end HF
set_option maxHeartbeats 0
namespace HF
open PySem PySem.Spec PyProof.Rows L2
abbrev R : PySem.W.OpenRow := PySem.W.OpenLaw.row PySem.Challenge.rw_hiddenforks_k44_whole_without_adds
def names1 : List PySem.Str := ["_wall", "as_tuples", "NoPerson", "NoLook", "LOOK", "ADD", "MEET", "LONG", "MADE_UP", "events_of", "looks", "adds", "ALIKE", "BEGINS", "Bonds", "check_look", "Peeling", "NO", "DELAY", "FORK"]
def names2 : List PySem.Str := ["Keeping", "Audience", "check_people", "branch", "kept_people", "kept_from", "way_of", "keep_way", "audiences", "_law_lean", "_law_take", "_law_event", "_law_table", "_law_live", "_law_same", "_law_box", "_law_heard", "_law_right"]
def names : List PySem.Str := names1 ++ names2
theorem run (w : World) : HandSHeadRun.RunEq R (PySem.W.view R.prog [44]) hk ob 10000 names w := by
  intro os
  kernel_rfl
end HF
set_option maxHeartbeats 0
namespace HF
open PySem PySem.Spec PyProof.Rows L2
theorem facts {w : World} {K : PySem.W.Frag} {h : Heap} {mg : Str → Option Value} {f : Addr} (X : K.In h) (G : h.Ns mainGlobals mg) (hfa : mg ("law" : Str) = some (.ref f)) (c : obsX K = valX) :
    ∃ fd : FuncData, (∀ (s : Shared) (v : Value), BindsTo s fd ⟨[v], []⟩ [("_law_script", v)]) ∧ ∀ base : Heap, K.In base → base.Ns mainGlobals mg → FnOk PP w K mg base CX0 19 f fd ["_law_script"] (spR (C_law K)) := by
  have T : Tx K mg := ⟨h, X, G, c⟩
  have e := hfa.symm.trans T.g_law
  cases e
  have b := FunD.bindsA (ps := ["_law_script"]) T.F_law fun _ _ _ _ _ _ us hl => match us, hl with | [_], _ => rfl
  exact ⟨fdOf K d_law.at_, fun s v => b s [v] rfl, fun base _ _ => ok_law T⟩
end HF
open PySem PySem.W PySem.Calls PyProof.Rows
theorem PySem.Challenge.cw_hiddenforks_k44_whole_without_adds_holds : PySem.Challenge.rw_hiddenforks_k44_whole_without_adds.Holds := by
  w_on; o_law
  refine HandSHeadRun.head_any (r := OpenLaw.row PySem.Challenge.rw_hiddenforks_k44_whole_without_adds) (q := view (OpenLaw.row PySem.Challenge.rw_hiddenforks_k44_whole_without_adds).prog [44]) (H := HF.hk) (ob := HF.ob) (M := 10000) (loose := HF.names) (d := HandSHeadRun.topDef (OpenLaw.row PySem.Challenge.rw_hiddenforks_k44_whole_without_adds).prog 44) (kwd := []) HF.ob_eq
    (by kernel_rfl) (fun s => by kernel_rfl) HF.run (by kernel_rfl) (by kernel_rfl) (by kernel_rfl) (by rfl) (by first | assumption | decide +kernel) (by decide +kernel) ⟨rfl, rfl, rfl, rfl, rfl, by decide +kernel⟩ ?hw ?hc
  case hw => w_witness2
  case hc =>
    refine L2.walk_ofE (l := PySem.Challenge.rw_hiddenforks_k44_whole_without_adds) (n := 63) (k := 19) (x := "_law_script") (CX := L2.CX0) rfl (by decide) (by kernel_rfl) ⟨rfl, by decide, by decide⟩ ?F (fun _ _ _ _ z => z)
    intro w mg fa h Y G hmg0
    obtain ⟨K, KX, c⟩ := Y
    have hmg : mg ("law" : PySem.Str) = some (.ref fa) := by
      have e : (HandSHeadRun.topDef (OpenLaw.row PySem.Challenge.rw_hiddenforks_k44_whole_without_adds).prog 44).name = ("law" : PySem.Str) := by kernel_rfl
      rw [← e]
      exact hmg0
    obtain ⟨fd, hb, hF⟩ := HF.facts (w := w) KX G hmg c
    refine ⟨K, fd, HF.spR (HF.C_law K), KX, hb, fun H a ns hl _ hS => ?_, hF⟩
    exact ⟨H, [HF.Scr K ns], HF.tBo true, ⟨ns, by omega, rfl, rfl⟩, Evl.Ex.refl _, ⟨⟨a, rfl, hS⟩, trivial⟩, fun v H0' H' g r => r⟩
